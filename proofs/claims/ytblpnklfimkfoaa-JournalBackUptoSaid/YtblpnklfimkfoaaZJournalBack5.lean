/-
The law JournalBack returns true for every input that holds together at most 1048576 values and letters (each counted as often as it is reached), and leaves it as it was. Condition: that bound, the second form's (UptoSaid); nothing else. Part 5 of 5 of the texts (put together by a program: own names are short, what isn't needed is left out).
-/
import Derived.Test.YtblpnklfimkfoaaZJournalBack4
import Derived.Test.YtblpnklfimkfoaaChecked
import Derived.KernelRfl
import Derived.Test.YtblpnklfimkfoaaRows
import Derived.ChangeArms
import Derived.WalkKit
import Derived.ProofKit
import Derived.OpenShut
import Derived.ShutString
import Derived.ChangeOld
import Derived.Below
import Derived.SizedLaws
import Derived.Carry
import Derived.JoinedCond
import Derived.Deep.CondSized
set_option linter.unusedVariables false
set_option linter.unusedSimpArgs false
set_option maxRecDepth 100000
namespace Go.Proofs.Ytblpnklfimkfoaa
open Go.Abs
abbrev zq.id : FuncId := 31
noncomputable def zq.jd : Code := (Code.seq (Code.region 2 (reg Try.f31 2) false) (Code.seq (Code.cond (Operand.tmp 16) Code.skip (Code.exit 0)) (Code.seq (Code.block 1 (Code.seq (Code.region 3 (reg Try.f31 3) false) (Code.seq (Code.region 4 (reg Try.f31 4) false) (Code.cond (Operand.tmp 24) (Code.seq (Code.region 5 (reg Try.f31 5) false) Code.ret) Code.skip)))) (Code.region 6 (reg Try.f31 6) false))))
noncomputable def zq.code : Code := (Code.seq (Code.region 0 (reg Try.f31 0) false) (Code.seq (Code.seq (Code.region 1 (reg Try.f31 1) false) (Code.block 0 (Code.loop zq.jd))) (Code.seq (Code.region 7 (reg Try.f31 7) false) Code.ret)))
theorem zq.body : Try.f31.body = some zq.code := by kernel_rfl
theorem zq.eta {T : List Value} (h : T.length = 30) : T = [T.getD 0 undef,T.getD 1 undef,T.getD 2 undef,T.getD 3 undef,T.getD 4 undef,T.getD 5 undef,T.getD 6 undef,T.getD 7 undef,T.getD 8 undef,T.getD 9 undef,T.getD 10 undef,T.getD 11 undef,T.getD 12 undef,T.getD 13 undef,T.getD 14 undef,T.getD 15 undef,T.getD 16 undef,T.getD 17 undef,T.getD 18 undef,T.getD 19 undef,T.getD 20 undef,T.getD 21 undef,T.getD 22 undef,T.getD 23 undef,T.getD 24 undef,T.getD 25 undef,T.getD 26 undef,T.getD 27 undef,T.getD 28 undef,T.getD 29 undef] := (yI T 30 h).trans (by kernel_rfl)
variable (z A L D B F G H I J f g i c d b k l m n o p q r s t u w x y : Value) (S : zi)
theorem zq.r0  : je Try.prog ⟨false, false, false⟩ (zV Try.prog O) (reg Try.f31 0) (reg Try.f31 0).toList ([z,A,L,D,B,F,G,H,I,J,f,g,i,c,d,b,k,l,m,n,o,p,q,r,s,t,u,w,x,y]) S =
  (zO (X5 (dem z) S) (fun K C => some ([z,K,Value.bool false,D,B,F,G,H,I,J,f,g,i,c,d,b,k,l,m,n,o,p,q,r,s,t,u,w,x,y], C)) ()) := by
 kernel_rfl
theorem zq.r1  : je Try.prog ⟨false, false, false⟩ (zV Try.prog O) (reg Try.f31 1) (reg Try.f31 1).toList ([z,A,L,D,B,F,G,H,I,J,f,g,i,c,d,b,k,l,m,n,o,p,q,r,s,t,u,w,x,y]) S =
  (zO (zS Try.prog 28 A 0 S) (fun K C => zO (ji Try.prog false 3 K C) (fun E N => zO (zS Try.prog 28 A 1 N) (fun U P => zO (ji Try.prog false 3 U P) (fun M Q => zO (zS Try.prog 28 A 2 Q) (fun R S5 => zO (ji Try.prog false 3 R S5) (fun V S6 => zO (zS Try.prog 28 A 3 S6) (fun W S7 => zO (ji Try.prog false 3 W S7) (fun X S8 => zO (zW Try.prog 56 4 [(0, E), (1, M), (2, V), (3, X)] S8) (fun Y S9 => zO (qA Try.prog 56 Y S9) (fun v9 Z => some ([z,A,L,D,B,K,E,U,M,R,V,W,X,Y,v9,Value.int IntKind.i64 0,k,l,m,n,o,p,q,r,s,t,u,w,x,y], Z)) ()) ()) ()) ()) ()) ()) ()) ()) ()) ()) := by
 kernel_rfl
theorem zq.r2  : je Try.prog ⟨false, false, false⟩ (zV Try.prog O) (reg Try.f31 2) (reg Try.f31 2).toList ([z,A,L,D,B,F,G,H,I,J,f,g,i,c,d,b,k,l,m,n,o,p,q,r,s,t,u,w,x,y]) S =
  (zO (jM Try.prog BinOp.lss 3 b d S) (fun K C => some ([z,A,L,D,B,F,G,H,I,J,f,g,i,c,d,b,K,l,m,n,o,p,q,r,s,t,u,w,x,y], C)) ()) := by
 kernel_rfl
theorem zq.r3  : je Try.prog ⟨false, false, false⟩ (zV Try.prog O) (reg Try.f31 3) (reg Try.f31 3).toList ([z,A,L,D,B,F,G,H,I,J,f,g,i,c,d,b,k,l,m,n,o,p,q,r,s,t,u,w,x,y]) S =
  (zO (zZ Try.prog 56 c b S) (fun K C => zO (ji Try.prog false 3 K C) (fun E N => some ([z,A,L,D,E,F,G,H,I,J,f,g,i,c,d,b,k,K,dem E,n,o,p,q,r,s,t,u,w,x,y], N)) ()) ()) := by
 kernel_rfl
theorem zq.r4  : je Try.prog ⟨false, false, false⟩ (zV Try.prog O) (reg Try.f31 4) (reg Try.f31 4).toList ([z,A,L,D,B,F,G,H,I,J,f,g,i,c,d,b,k,l,m,n,o,p,q,r,s,t,u,w,x,y]) S =
  (zO (jM Try.prog BinOp.lss 3 (dem B) (Value.int IntKind.i64 (-1)) S) (fun E C => gdK (dem E) false (ret B) C (fun M N => gdK (dem E) false (jM Try.prog BinOp.gtr 3 (dem M) (Value.int IntKind.i64 1073741824)) N (fun R P => zO (qg (dem E) (Value.bool true) R P) (fun V Q => some ([z,A,L,D,B,F,G,H,I,J,f,g,i,c,d,b,k,l,m,dem B,E,dem E,dem M,R,V,t,u,w,x,y], Q)) ()) ()) ()) ()) := by
 refine sP Try.f31 4 0 (v := B) ?_
 refine sD Try.f31 4 1 (fun E C => ?_)
 refine sP Try.f31 4 2 (v := E) ?_
 refine sG Try.f31 4 3 (j := 2) (fun M N => ?_)
 refine sG Try.f31 4 4 (j := 2) (fun R P => ?_)
 refine sD Try.f31 4 5 (fun V Q => ?_)
 kernel_rfl
theorem zq.r5  : je Try.prog ⟨false, false, false⟩ (zV Try.prog O) (reg Try.f31 5) (reg Try.f31 5).toList ([z,A,L,D,B,F,G,H,I,J,f,g,i,c,d,b,k,l,m,n,o,p,q,r,s,t,u,w,x,y]) S =
  ( some ([z,A,Value.bool false,D,B,F,G,H,I,J,f,g,i,c,d,b,k,l,m,n,o,p,q,r,s,t,u,w,x,y], S)) := by
 kernel_rfl
theorem zq.r6  : je Try.prog ⟨false, false, false⟩ (zV Try.prog O) (reg Try.f31 6) (reg Try.f31 6).toList ([z,A,L,D,B,F,G,H,I,J,f,g,i,c,d,b,k,l,m,n,o,p,q,r,s,t,u,w,x,y]) S =
  (zO (jM Try.prog BinOp.add 3 b (Value.int IntKind.i64 1) S) (fun K C => some ([z,A,L,D,B,F,G,H,I,J,f,g,i,c,d,dem K,k,l,m,n,o,p,q,r,s,K,u,w,x,y], C)) ()) := by
 kernel_rfl
theorem zq.r7  : je Try.prog ⟨false, false, false⟩ (zV Try.prog O) (reg Try.f31 7) (reg Try.f31 7).toList ([z,A,L,D,B,F,G,H,I,J,f,g,i,c,d,b,k,l,m,n,o,p,q,r,s,t,u,w,x,y]) S =
  (zO (zS Try.prog 28 A 4 S) (fun K C => zO (ji Try.prog false 26 K C) (fun E N => zO (qA Try.prog 26 E N) (fun U P => zO (jM Try.prog BinOp.leq 3 U (Value.int IntKind.i64 1024) P) (fun M Q => some ([z,A,M,D,B,F,G,H,I,J,f,g,i,c,d,b,k,l,m,n,o,p,q,r,s,t,K,E,U,dem M], Q)) ()) ()) ()) ()) := by
 kernel_rfl
theorem zq.rs : type_of% (And.intro @zq.r0 (And.intro @zq.r1 (And.intro @zq.r2 (And.intro @zq.r3 (And.intro @zq.r4 (And.intro @zq.r5 (And.intro @zq.r6 (@zq.r7)))))))) := And.intro @zq.r0 (And.intro @zq.r1 (And.intro @zq.r2 (And.intro @zq.r3 (And.intro @zq.r4 (And.intro @zq.r5 (And.intro @zq.r6 (@zq.r7)))))))
theorem zq.runs {z : Value} {S C : zi} {e : AEx} {T : List Value} (h : zD Try.prog O false zq.code ([z,undef,undef,undef,undef,undef,undef,undef,undef,undef,undef,undef,undef,undef,undef,undef,undef,undef,undef,undef,undef,undef,undef,undef,undef,undef,undef,undef,undef,undef]) zi.empty = some (e, T, C)) (he : e = .normal ∨ e = .ret) (hca : [z].all (jf 16) = true) (hcv : jf 16 (T.getD 2 undef) = true) : zV Try.prog O 31 [z] S = some (T.getD 2 undef, S) :=
 kX rfl rfl Try.func31 (by decide) zq.body (by exact h) he (qU (a := T.getD 2 undef) ((show zN Try.prog T C Try.f31.results.toList = zN Try.prog T C [(ResultVar.tmp 2)] from by kernel_rfl).trans (by simp only [zN])) (by kernel_rfl)) hca hcv
end Go.Proofs.Ytblpnklfimkfoaa
namespace Go.Proofs.Ytblpnklfimkfoaa
open Go.Abs
abbrev zy.id : FuncId := 11
noncomputable def zy.code : Code := (Code.seq (Code.region 0 (reg Try.f11 0) false) (Code.seq (Code.seq (Code.region 1 (reg Try.f11 1) false) (Code.cond (Operand.tmp 12) (Code.seq (Code.region 2 (reg Try.f11 2) false) Code.ret) Code.skip)) (Code.seq (Code.region 3 (reg Try.f11 3) false) (Code.seq (Code.region 4 (reg Try.f11 4) false) (Code.seq (Code.region 5 (reg Try.f11 5) false) (Code.seq (Code.seq (Code.region 6 (reg Try.f11 6) false) (Code.cond (Operand.tmp 40) (Code.seq (Code.region 7 (reg Try.f11 7) false) Code.ret) Code.skip)) (Code.seq (Code.region 8 (reg Try.f11 8) false) Code.ret)))))))
theorem zy.body : Try.f11.body = some zy.code := by kernel_rfl
variable (I J U V K P L Q M N a b c d f g i j k l m n o p q r s t u v w x y z A B C D E F G H : Value) (S : zi)
theorem zy.r0  : je Try.prog ⟨false, false, false⟩ (zV Try.prog O) (reg Try.f11 0) (reg Try.f11 0).toList ([I,J,U,V,K,P,L,Q,M,N,a,b,c,d,f,g,i,j,k,l,m,n,o,p,q,r,s,t,u,v,w,x,y,z,A,B,C,D,E,F,G,H]) S =
  (zO (X5 (dem I) S) (fun X R => some ([I,X,Value.slice none 0 0,Value.int IntKind.i64 0,K,P,L,Q,M,N,a,b,c,d,f,g,i,j,k,l,m,n,o,p,q,r,s,t,u,v,w,x,y,z,A,B,C,D,E,F,G,H], R)) ()) := by
 kernel_rfl
theorem zy.r1  : je Try.prog ⟨false, false, false⟩ (zV Try.prog O) (reg Try.f11 1) (reg Try.f11 1).toList ([I,J,U,V,K,P,L,Q,M,N,a,b,c,d,f,g,i,j,k,l,m,n,o,p,q,r,s,t,u,v,w,x,y,z,A,B,C,D,E,F,G,H]) S =
  (zO (ji Try.prog false 28 J S) (fun X R => zO ((zV Try.prog O) 31 [(dem X)] R) (fun Y S2 => zO (aUn Try.prog UnOp.not Y S2) (fun W S3 => some ([I,J,U,V,K,P,L,Q,M,N,X,Y,W,d,f,g,i,j,k,l,m,n,o,p,q,r,s,t,u,v,w,x,y,z,A,B,C,D,E,F,G,H], S3)) ()) ()) ()) := by
 kernel_rfl
theorem zy.r2  : je Try.prog ⟨false, false, false⟩ (zV Try.prog O) (reg Try.f11 2) (reg Try.f11 2).toList ([I,J,U,V,K,P,L,Q,M,N,a,b,c,d,f,g,i,j,k,l,m,n,o,p,q,r,s,t,u,v,w,x,y,z,A,B,C,D,E,F,G,H]) S =
  ( some ([I,J,Value.slice none 0 0,Value.int IntKind.i64 51,K,P,L,Q,M,N,a,b,c,d,f,g,i,j,k,l,m,n,o,p,q,r,s,t,u,v,w,x,y,z,A,B,C,D,E,F,G,H], S)) := by
 kernel_rfl
theorem zy.r3  : je Try.prog ⟨false, false, false⟩ (zV Try.prog O) (reg Try.f11 3) (reg Try.f11 3).toList ([I,J,U,V,K,P,L,Q,M,N,a,b,c,d,f,g,i,j,k,l,m,n,o,p,q,r,s,t,u,v,w,x,y,z,A,B,C,D,E,F,G,H]) S =
  (zO (zS Try.prog 28 J 0 S) (fun X R => zO (ji Try.prog false 3 X R) (fun Y S2 => zO (zS Try.prog 28 J 1 S2) (fun W S3 => zO (ji Try.prog false 3 W S3) (fun v3 S4 => zO (zS Try.prog 28 J 2 S4) (fun v4 S5 => zO (ji Try.prog false 3 v4 S5) (fun Z S6 => zO (zS Try.prog 28 J 3 S6) (fun v6 S7 => zO (ji Try.prog false 3 v6 S7) (fun v7 S8 => zO (zW Try.prog 56 4 [(0, Y), (1, v3), (2, Z), (3, v7)] S8) (fun v8 S9 => zO ((zV Try.prog O) 32 [(dem v8)] S9) (fun v9 a2 => zO (zC v9 0 a2) (fun a0 a3 => zO (zC (zK 0 v9) 1 a3) (fun a1 a4 => some ([I,J,U,V,a0,a1,L,Q,M,N,a,b,c,zK 1 (zK 0 v9),X,Y,W,v3,v4,Z,v6,v7,v8,dem v9,dem a0,dem a1,s,t,u,v,w,x,y,z,A,B,C,D,E,F,G,H], a4)) ()) ()) ()) ()) ()) ()) ()) ()) ()) ()) ()) ()) := by
 kernel_rfl
theorem zy.r4  : je Try.prog ⟨false, false, false⟩ (zV Try.prog O) (reg Try.f11 4) (reg Try.f11 4).toList ([I,J,U,V,K,P,L,Q,M,N,a,b,c,d,f,g,i,j,k,l,m,n,o,p,q,r,s,t,u,v,w,x,y,z,A,B,C,D,E,F,G,H]) S =
  (zO (zS Try.prog 28 J 4 S) (fun X R => zO (ji Try.prog false 26 X R) (fun Y S2 => zO ((zV Try.prog O) 33 [(dem Y)] S2) (fun W S3 => zO (zC W 0 S3) (fun v4 S4 => zO (zC (zK 0 W) 1 S4) (fun Z S5 => some ([I,J,U,V,K,P,v4,Z,M,N,a,b,c,d,f,g,i,j,k,l,m,n,o,p,q,r,zK 1 (zK 0 W),X,Y,dem W,dem v4,dem Z,y,z,A,B,C,D,E,F,G,H], S5)) ()) ()) ()) ()) ()) := by
 kernel_rfl
theorem zy.r5  : je Try.prog ⟨false, false, false⟩ (zV Try.prog O) (reg Try.f11 5) (reg Try.f11 5).toList ([I,J,U,V,K,P,L,Q,M,N,a,b,c,d,f,g,i,j,k,l,m,n,o,p,q,r,s,t,u,v,w,x,y,z,A,B,C,D,E,F,G,H]) S =
  (zO (jl Try.prog 26 26 K (dem L) S) (fun W R => zO ((zV Try.prog O) 33 [(dem W)] R) (fun v3 S2 => zO (zC v3 0 S2) (fun Z S3 => zO (zC (zK 0 v3) 1 S3) (fun v6 S4 => some ([I,J,U,V,dem K,P,L,Q,Z,v6,a,b,c,d,f,g,i,j,k,l,m,n,o,p,q,r,s,t,u,v,w,x,zK 1 (zK 0 v3),dem K,dem L,W,dem v3,dem Z,dem v6,F,G,H], S4)) ()) ()) ()) ()) := by
 kernel_rfl
theorem zy.r6  : je Try.prog ⟨false, false, false⟩ (zV Try.prog O) (reg Try.f11 6) (reg Try.f11 6).toList ([I,J,U,V,K,P,L,Q,M,N,a,b,c,d,f,g,i,j,k,l,m,n,o,p,q,r,s,t,u,v,w,x,y,z,A,B,C,D,E,F,G,H]) S =
  (zO (jM Try.prog BinOp.neq 29 (dem N) (Value.int IntKind.i64 0) S) (fun Y R => some ([I,J,U,V,K,P,L,Q,M,N,a,b,c,d,f,g,i,j,k,l,m,n,o,p,q,r,s,t,u,v,w,x,y,z,A,B,C,D,E,dem N,Y,H], R)) ()) := by
 kernel_rfl
theorem zy.r7  : je Try.prog ⟨false, false, false⟩ (zV Try.prog O) (reg Try.f11 7) (reg Try.f11 7).toList ([I,J,U,V,K,P,L,Q,M,N,a,b,c,d,f,g,i,j,k,l,m,n,o,p,q,r,s,t,u,v,w,x,y,z,A,B,C,D,E,F,G,H]) S =
  ( some ([I,J,Value.slice none 0 0,Value.int IntKind.i64 51,K,P,L,Q,M,N,a,b,c,d,f,g,i,j,k,l,m,n,o,p,q,r,s,t,u,v,w,x,y,z,A,B,C,D,E,F,G,H], S)) := by
 kernel_rfl
theorem zy.r8  : je Try.prog ⟨false, false, false⟩ (zV Try.prog O) (reg Try.f11 8) (reg Try.f11 8).toList ([I,J,U,V,K,P,L,Q,M,N,a,b,c,d,f,g,i,j,k,l,m,n,o,p,q,r,s,t,u,v,w,x,y,z,A,B,C,D,E,F,G,H]) S =
  ( some ([I,J,M,Value.int IntKind.i64 0,K,P,L,Q,dem M,N,a,b,c,d,f,g,i,j,k,l,m,n,o,p,q,r,s,t,u,v,w,x,y,z,A,B,C,D,E,F,G,dem M], S)) := by
 kernel_rfl
theorem zy.rs : type_of% (And.intro @zy.r0 (And.intro @zy.r1 (And.intro @zy.r2 (And.intro @zy.r3 (And.intro @zy.r4 (And.intro @zy.r5 (And.intro @zy.r6 (And.intro @zy.r7 (@zy.r8))))))))) := And.intro @zy.r0 (And.intro @zy.r1 (And.intro @zy.r2 (And.intro @zy.r3 (And.intro @zy.r4 (And.intro @zy.r5 (And.intro @zy.r6 (And.intro @zy.r7 (@zy.r8))))))))
theorem zy.runs {I : Value} {S R : zi} {e : AEx} {T : List Value} (h : zD Try.prog O false zy.code ([I,undef,undef,undef,undef,undef,undef,undef,undef,undef,undef,undef,undef,undef,undef,undef,undef,undef,undef,undef,undef,undef,undef,undef,undef,undef,undef,undef,undef,undef,undef,undef,undef,undef,undef,undef,undef,undef,undef,undef,undef,undef]) zi.empty = some (e, T, R)) (he : e = .normal ∨ e = .ret)  (h0 : jg (T.getD 2 undef) = true) (h1 : jg (T.getD 3 undef) = true) (hca : [I].all (jf 16) = true) (hcv : jf 16 (Value.tuple #[T.getD 2 undef, T.getD 3 undef]) = true) : zV Try.prog O 11 [I] S = some (Value.tuple #[T.getD 2 undef, T.getD 3 undef], S) :=
 kX rfl rfl Try.func11 (by decide) zy.body (by exact h) he ((yK ((show zN Try.prog T R Try.f11.results.toList = zN Try.prog T R [(ResultVar.tmp 2), (ResultVar.tmp 3)] from by kernel_rfl).trans (by simp only [zN])) (by kernel_rfl) (by simp only [List.all_cons, List.all_nil, h0, h1, Bool.and_true])).trans rfl) hca hcv
end Go.Proofs.Ytblpnklfimkfoaa
namespace Go.Proofs.Ytblpnklfimkfoaa
open Go.Abs
abbrev jq.id : FuncId := 33
noncomputable def jq.code : Code := (Code.seq (Code.region 0 (reg Try.f33 0) false) (Code.seq (Code.seq (Code.region 1 (reg Try.f33 1) false) (Code.cond (Operand.tmp 6) (Code.seq (Code.region 2 (reg Try.f33 2) false) Code.ret) Code.skip)) (Code.seq (Code.region 3 (reg Try.f33 3) false) Code.ret)))
theorem jq.body : Try.f33.body = some jq.code := by kernel_rfl
variable (a f o p i j k l m n b c d : Value) (S : zi)
theorem jq.r0  : je Try.prog ⟨false, false, false⟩ (zV Try.prog O) (reg Try.f33 0) (reg Try.f33 0).toList ([a,f,o,p,i,j,k,l,m,n,b,c,d]) S =
  ( some ([a,f,Value.slice none 0 0,Value.int IntKind.i64 0,i,j,k,l,m,n,b,c,d], S)) := by
 kernel_rfl
theorem jq.r1  : je Try.prog ⟨false, false, false⟩ (zV Try.prog O) (reg Try.f33 1) (reg Try.f33 1).toList ([a,f,o,p,i,j,k,l,m,n,b,c,d]) S =
  (zO (qA Try.prog 26 (dem a) S) (fun q g => zO (jM Try.prog BinOp.gtr 3 q (Value.int IntKind.i64 4096) g) (fun r s => some ([a,f,o,p,dem a,q,r,l,m,n,b,c,d], s)) ()) ()) := by
 kernel_rfl
theorem jq.r2  : je Try.prog ⟨false, false, false⟩ (zV Try.prog O) (reg Try.f33 2) (reg Try.f33 2).toList ([a,f,o,p,i,j,k,l,m,n,b,c,d]) S =
  ( some ([a,f,Value.slice none 0 0,Value.int IntKind.i64 11,i,j,k,l,m,n,b,c,d], S)) := by
 kernel_rfl
theorem jq.r3  : je Try.prog ⟨false, false, false⟩ (zV Try.prog O) (reg Try.f33 3) (reg Try.f33 3).toList ([a,f,o,p,i,j,k,l,m,n,b,c,d]) S =
  (zO (qA Try.prog 26 (dem a) S) (fun q g => zO (jO Try.prog false false 3 75 q g) (fun r s => zO ((zV Try.prog O) 45 [(dem r)] s) (fun t v => zO (jl Try.prog 26 26 t (dem a) v) (fun u w => some ([a,f,u,Value.int IntKind.i64 0,i,j,k,dem a,q,r,dem t,dem a,dem u], w)) ()) ()) ()) ()) := by
 kernel_rfl
theorem jq.runs {a : Value} {S g : zi} {e : AEx} {T : List Value} (h : zD Try.prog O false jq.code ([a,undef,undef,undef,undef,undef,undef,undef,undef,undef,undef,undef,undef]) S = some (e, T, g)) (he : e = .normal ∨ e = .ret)  (h0 : jg (T.getD 2 undef) = true) (h1 : jg (T.getD 3 undef) = true) : zV Try.prog O 33 [a] S = some (Value.tuple #[T.getD 2 undef, T.getD 3 undef], g) :=
 wU rfl rfl Try.func33 (by decide) jq.body (by exact h) he ((yK ((show zN Try.prog T g Try.f33.results.toList = zN Try.prog T g [(ResultVar.tmp 2), (ResultVar.tmp 3)] from by kernel_rfl).trans (by simp only [zN])) (by kernel_rfl) (by simp only [List.all_cons, List.all_nil, h0, h1, Bool.and_true])).trans rfl)
end Go.Proofs.Ytblpnklfimkfoaa
namespace Go.Proofs.Ytblpnklfimkfoaa
open Go.Abs
abbrev zF.id : FuncId := 28
noncomputable def zF.code : Code := (Code.seq (Code.region 0 (reg Try.f28 0) false) (Code.seq (Code.region 1 (reg Try.f28 1) false) (Code.seq (Code.seq (Code.region 2 (reg Try.f28 2) false) (Code.cond (Operand.tmp 26) (Code.seq (Code.region 3 (reg Try.f28 3) false) Code.ret) Code.skip)) (Code.seq (Code.region 4 (reg Try.f28 4) true) Code.ret))))
theorem zF.body : Try.f28.body = some zF.code := by kernel_rfl
variable (c L Q R U a b I M N d f g i k l m n o p q r s t u w x y z A B C D E F : Value) (S : zi)
theorem zF.r0  : je Try.prog ⟨false, false, false⟩ (zV Try.prog O) (reg Try.f28 0) (reg Try.f28 0).toList ([c,L,Q,R,U,a,b,I,M,N,d,f,g,i,k,l,m,n,o,p,q,r,s,t,u,w,x,y,z,A,B,C,D,E,F]) S =
  ( some ([c,L,Value.slice none 0 0,Value.slice none 0 0,Value.int IntKind.i64 0,a,b,I,M,N,d,f,g,i,k,l,m,n,o,p,q,r,s,t,u,w,x,y,z,A,B,C,D,E,F], S)) := by
 kernel_rfl
theorem zF.r1  : je Try.prog ⟨false, false, false⟩ (zV Try.prog O) (reg Try.f28 1) (reg Try.f28 1).toList ([c,L,Q,R,U,a,b,I,M,N,d,f,g,i,k,l,m,n,o,p,q,r,s,t,u,w,x,y,z,A,B,C,D,E,F]) S =
  (zO ((zV Try.prog O) 42 [(dem (dem c))] S) (fun G J => zO (zC G 0 J) (fun K V => zO (zC (zK 0 G) 1 V) (fun Y W => zO (zC (zK 1 (zK 0 G)) 2 W) (fun H X => some ([c,L,Q,R,U,K,Y,H,zK 2 (zK 1 (zK 0 G)),dem c,dem G,dem K,dem Y,dem H,k,l,m,n,o,p,q,r,s,t,u,w,x,y,z,A,B,C,D,E,F], X)) ()) ()) ()) ()) := by
 kernel_rfl
theorem zF.r2  : je Try.prog ⟨false, false, false⟩ (zV Try.prog O) (reg Try.f28 2) (reg Try.f28 2).toList ([c,L,Q,R,U,a,b,I,M,N,d,f,g,i,k,l,m,n,o,p,q,r,s,t,u,w,x,y,z,A,B,C,D,E,F]) S =
  (zO (jM Try.prog BinOp.neq 29 (dem I) (Value.int IntKind.i64 0) S) (fun G J => gdK (dem G) false (ret a) J (fun K V => gdK (dem G) false (jM Try.prog BinOp.gtr 75 (dem K) (Value.int IntKind.u64 4096)) V (fun Y W => zO (qg (dem G) (Value.bool true) Y W) (fun H X => gdK (dem H) false (ret a) X (fun P S5 => gdK (dem H) false (ret b) S5 (fun v8 S6 => gdK (dem H) false (qA Try.prog 26 (dem v8)) S6 (fun v9 S7 => gdK (dem H) false (jO Try.prog false false 3 75 v9) S7 (fun Z S8 => gdK (dem H) false (jM Try.prog BinOp.gtr 75 (dem P) Z) S8 (fun a0 S9 => zO (qg (dem H) (Value.bool true) a0 S9) (fun a1 a2 => some ([c,L,Q,R,U,a,b,I,M,N,d,f,g,i,dem I,G,dem G,dem K,Y,H,dem H,dem P,dem v8,v9,Z,a0,a1,y,z,A,B,C,D,E,F], a2)) ()) ()) ()) ()) ()) ()) ()) ()) ()) ()) := by
 refine sP Try.f28 2 0 (v := I) ?_
 refine sD Try.f28 2 1 (fun G J => ?_)
 refine sP Try.f28 2 2 (v := G) ?_
 refine sG Try.f28 2 3 (j := 2) (fun K V => ?_)
 refine sG Try.f28 2 4 (j := 2) (fun Y W => ?_)
 refine sD Try.f28 2 5 (fun H X => ?_)
 refine sP Try.f28 2 6 (v := H) ?_
 refine sG Try.f28 2 7 (j := 6) (fun P S5 => ?_)
 refine sG Try.f28 2 8 (j := 6) (fun v8 S6 => ?_)
 refine sG Try.f28 2 9 (j := 6) (fun v9 S7 => ?_)
 refine sG Try.f28 2 10 (j := 6) (fun Z S8 => ?_)
 refine sG Try.f28 2 11 (j := 6) (fun a0 S9 => ?_)
 refine sD Try.f28 2 12 (fun a1 a2 => ?_)
 kernel_rfl
theorem zF.r3  : je Try.prog ⟨false, false, false⟩ (zV Try.prog O) (reg Try.f28 3) (reg Try.f28 3).toList ([c,L,Q,R,U,a,b,I,M,N,d,f,g,i,k,l,m,n,o,p,q,r,s,t,u,w,x,y,z,A,B,C,D,E,F]) S =
  ( some ([c,L,Value.slice none 0 0,Value.slice none 0 0,Value.int IntKind.i64 11,a,b,I,M,N,d,f,g,i,k,l,m,n,o,p,q,r,s,t,u,w,x,y,z,A,B,C,D,E,F], S)) := by
 kernel_rfl
theorem zF.d4 : qp Try.prog (reg Try.f28 4) = true := by kernel_rfl
theorem zF.ff4 : fixed Try.prog (reg Try.f28 4) = false := by kernel_rfl
theorem zF.k4 : checked Try.prog (reg Try.f28 4) = [4, 5, 6] := by kernel_rfl
theorem zF.g4 : again Try.prog (reg Try.f28 4) = [] := by kernel_rfl
theorem zF.r4  : zD Try.prog O false (.region 4 (reg Try.f28 4) true) ([c,L,Q,R,U,a,b,I,M,N,d,f,g,i,k,l,m,n,o,p,q,r,s,t,u,w,x,y,z,A,B,C,D,E,F]) S =
  QI (zO (wB Try.prog true 26 (dem b) none (some (dem a)) S) (fun v2 J => zO ((zV Try.prog O) 43 [(dem v2)] J) (fun K V => okK b ( okK a ( zO (wB Try.prog true 26 (dem b) (some (dem a)) none V) (fun v6 W => okK v6 ( zO ((zV Try.prog O) 43 [(dem v6)] W) (fun P X => some ([c,L,K,P,Value.int IntKind.i64 0,a,b,I,M,N,d,f,g,i,k,l,m,n,o,p,q,r,s,t,u,w,x,dem b,dem a,v2,dem K,dem b,dem a,v6,dem P], X)) ()) ()) ()) ()) ()) ()) ()) := by
 rw [yH zF.d4 zF.ff4 zF.k4 zF.g4]
 refine congrArg QI ?_
 refine tP Try.f28 4 0 (v := b) ?_
 refine tP Try.f28 4 1 (v := a) ?_
 refine tD Try.f28 4 2 (fun v2 J => ?_)
 refine tD Try.f28 4 3 (fun K V => ?_)
 refine tPC Try.f28 4 4 (v := b) ?_
 refine tPC Try.f28 4 5 (v := a) ?_
 refine tDC Try.f28 4 6 (fun v6 W => ?_)
 refine tD Try.f28 4 7 (fun P X => ?_)
 refine tP Try.f28 4 8 (v := K) ?_
 refine tP Try.f28 4 9 (v := P) ?_
 refine tP Try.f28 4 10 (v := (Value.int IntKind.i64 0)) ?_
 kernel_rfl
theorem zF.runs {c : Value} {S J : zi} {e : AEx} {T : List Value} (h : zD Try.prog O false zF.code ([c,undef,undef,undef,undef,undef,undef,undef,undef,undef,undef,undef,undef,undef,undef,undef,undef,undef,undef,undef,undef,undef,undef,undef,undef,undef,undef,undef,undef,undef,undef,undef,undef,undef,undef]) S = some (e, T, J)) (he : e = .normal ∨ e = .ret)  (h0 : jg (T.getD 2 undef) = true) (h1 : jg (T.getD 3 undef) = true) (h2 : jg (T.getD 4 undef) = true) : zV Try.prog O 28 [c] S = some (Value.tuple #[T.getD 2 undef, T.getD 3 undef, T.getD 4 undef], J) :=
 wU rfl rfl Try.func28 (by decide) zF.body (by exact h) he ((yK ((show zN Try.prog T J Try.f28.results.toList = zN Try.prog T J [(ResultVar.tmp 2), (ResultVar.tmp 3), (ResultVar.tmp 4)] from by kernel_rfl).trans (by simp only [zN])) (by kernel_rfl) (by simp only [List.all_cons, List.all_nil, h0, h1, h2, Bool.and_true])).trans rfl)
end Go.Proofs.Ytblpnklfimkfoaa
namespace Go.Proofs.Ytblpnklfimkfoaa
open Go.Abs
abbrev slices_Clone.id : FuncId := 43
noncomputable def slices_Clone.code : Code := (Code.seq (Code.region 0 (reg Try.f43 0) false) (Code.seq (Code.seq (Code.region 1 (reg Try.f43 1) false) (Code.cond (Operand.tmp 4) (Code.seq (Code.region 2 (reg Try.f43 2) false) Code.ret) Code.skip)) (Code.seq (Code.region 3 (reg Try.f43 3) false) Code.ret)))
theorem slices_Clone.body : Try.f43.body = some slices_Clone.code := by kernel_rfl
variable (b c l f g i j k : Value) (S : zi)
theorem slices_Clone.r0  : je Try.prog ⟨false, false, false⟩ (zV Try.prog O) (reg Try.f43 0) (reg Try.f43 0).toList ([b,c,l,f,g,i,j,k]) S =
  ( some ([b,c,Value.slice none 0 0,f,g,i,j,k], S)) := by
 kernel_rfl
theorem slices_Clone.r1  : je Try.prog ⟨false, false, false⟩ (zV Try.prog O) (reg Try.f43 1) (reg Try.f43 1).toList ([b,c,l,f,g,i,j,k]) S =
  (zO (jM Try.prog BinOp.eql 26 (dem b) (Value.slice none 0 0) S) (fun o d => some ([b,c,l,dem b,o,i,j,k], d)) ()) := by
 kernel_rfl
theorem slices_Clone.r2  : je Try.prog ⟨false, false, false⟩ (zV Try.prog O) (reg Try.f43 2) (reg Try.f43 2).toList ([b,c,l,f,g,i,j,k]) S =
  ( some ([b,c,Value.slice none 0 0,f,g,i,j,k], S)) := by
 kernel_rfl
theorem slices_Clone.r3  : je Try.prog ⟨false, false, false⟩ (zV Try.prog O) (reg Try.f43 3) (reg Try.f43 3).toList ([b,c,l,f,g,i,j,k]) S =
  (zO (zW Try.prog 26 0 [] S) (fun m d => zO (jl Try.prog 26 26 m (dem b) d) (fun n p => some ([b,c,n,f,g,dem m,dem b,dem n], p)) ()) ()) := by
 kernel_rfl
theorem slices_Clone.runs {b : Value} {S d : zi} {e : AEx} {T : List Value} (h : zD Try.prog O false slices_Clone.code ([b,undef,undef,undef,undef,undef,undef,undef]) S = some (e, T, d)) (he : e = .normal ∨ e = .ret) : zV Try.prog O 43 [b] S = some (T.getD 2 undef, d) :=
 wU rfl rfl Try.func43 (by decide) slices_Clone.body (by exact h) he (qU (a := T.getD 2 undef) ((show zN Try.prog T d Try.f43.results.toList = zN Try.prog T d [(ResultVar.tmp 2)] from by kernel_rfl).trans (by simp only [zN])) (by kernel_rfl))
end Go.Proofs.Ytblpnklfimkfoaa
namespace Go.Proofs.Ytblpnklfimkfoaa
open Go.Abs
abbrev zu.id : FuncId := 42
noncomputable def zu.jd : Code := (Code.seq (Code.region 3 (reg Try.f42 3) false) (Code.seq (Code.cond (Operand.tmp 11) Code.skip (Code.exit 0)) (Code.seq (Code.block 1 (Code.seq (Code.region 4 (reg Try.f42 4) false) (Code.seq (Code.seq (Code.region 5 (reg Try.f42 5) false) (Code.cond (Operand.tmp 28) (Code.exit 0) Code.skip)) (Code.seq (Code.region 6 (reg Try.f42 6) false) (Code.seq (Code.region 7 (reg Try.f42 7) false) (Code.cond (Operand.tmp 38) (Code.seq (Code.region 8 (reg Try.f42 8) false) Code.ret) Code.skip)))))) (Code.region 9 (reg Try.f42 9) false))))
noncomputable def zu.code : Code := (Code.seq (Code.region 0 (reg Try.f42 0) false) (Code.seq (Code.region 1 (reg Try.f42 1) false) (Code.seq (Code.seq (Code.region 2 (reg Try.f42 2) false) (Code.block 0 (Code.loop zu.jd))) (Code.seq (Code.region 10 (reg Try.f42 10) false) Code.ret))))
theorem zu.body : Try.f42.body = some zu.code := by kernel_rfl
theorem zu.eta {T : List Value} (h : T.length = 46) : T = [T.getD 0 undef,T.getD 1 undef,T.getD 2 undef,T.getD 3 undef,T.getD 4 undef,T.getD 5 undef,T.getD 6 undef,T.getD 7 undef,T.getD 8 undef,T.getD 9 undef,T.getD 10 undef,T.getD 11 undef,T.getD 12 undef,T.getD 13 undef,T.getD 14 undef,T.getD 15 undef,T.getD 16 undef,T.getD 17 undef,T.getD 18 undef,T.getD 19 undef,T.getD 20 undef,T.getD 21 undef,T.getD 22 undef,T.getD 23 undef,T.getD 24 undef,T.getD 25 undef,T.getD 26 undef,T.getD 27 undef,T.getD 28 undef,T.getD 29 undef,T.getD 30 undef,T.getD 31 undef,T.getD 32 undef,T.getD 33 undef,T.getD 34 undef,T.getD 35 undef,T.getD 36 undef,T.getD 37 undef,T.getD 38 undef,T.getD 39 undef,T.getD 40 undef,T.getD 41 undef,T.getD 42 undef,T.getD 43 undef,T.getD 44 undef,T.getD 45 undef] := (yI T 46 h).trans (by kernel_rfl)
theorem zu.list {T : List Value} (h : T.length = 46) : ∃ P V Y Z x4 U Q R W X a b c d f g i k l m n o p q r s t u w x y z A B C D E F G H I J K L M N, T = [P,V,Y,Z,x4,U,Q,R,W,X,a,b,c,d,f,g,i,k,l,m,n,o,p,q,r,s,t,u,w,x,y,z,A,B,C,D,E,F,G,H,I,J,K,L,M,N] := ⟨_, _, _, _, _, _, _, _, _, _, _, _, _, _, _, _, _, _, _, _, _, _, _, _, _, _, _, _, _, _, _, _, _, _, _, _, _, _, _, _, _, _, _, _, _, _, zu.eta h⟩
variable (P V Y Z x4 U Q R W X a b c d f g i k l m n o p q r s t u w x y z A B C D E F G H I J K L M N : Value) (S : zi)
theorem zu.r0  : je Try.prog ⟨false, false, false⟩ (zV Try.prog O) (reg Try.f42 0) (reg Try.f42 0).toList ([P,V,Y,Z,x4,U,Q,R,W,X,a,b,c,d,f,g,i,k,l,m,n,o,p,q,r,s,t,u,w,x,y,z,A,B,C,D,E,F,G,H,I,J,K,L,M,N]) S =
  ( some ([P,V,Value.int IntKind.u64 0,Value.slice none 0 0,Value.int IntKind.i64 0,U,Q,R,W,X,a,b,c,d,f,g,i,k,l,m,n,o,p,q,r,s,t,u,w,x,y,z,A,B,C,D,E,F,G,H,I,J,K,L,M,N], S)) := by
 kernel_rfl
theorem zu.r1  : je Try.prog ⟨false, false, false⟩ (zV Try.prog O) (reg Try.f42 1) (reg Try.f42 1).toList ([P,V,Y,Z,x4,U,Q,R,W,X,a,b,c,d,f,g,i,k,l,m,n,o,p,q,r,s,t,u,w,x,y,z,A,B,C,D,E,F,G,H,I,J,K,L,M,N]) S =
  ( some ([P,V,Y,Z,x4,Value.int IntKind.u64 0,Q,R,W,X,a,b,c,d,f,g,i,k,l,m,n,o,p,q,r,s,t,u,w,x,y,z,A,B,C,D,E,F,G,H,I,J,K,L,M,N], S)) := by
 kernel_rfl
theorem zu.r2  : je Try.prog ⟨false, false, false⟩ (zV Try.prog O) (reg Try.f42 2) (reg Try.f42 2).toList ([P,V,Y,Z,x4,U,Q,R,W,X,a,b,c,d,f,g,i,k,l,m,n,o,p,q,r,s,t,u,w,x,y,z,A,B,C,D,E,F,G,H,I,J,K,L,M,N]) S =
  (zO (qA Try.prog 26 (dem P) S) (fun v1 S1 => some ([P,V,Y,Z,x4,U,Q,R,dem P,v1,Value.int IntKind.i64 0,b,c,d,f,g,i,k,l,m,n,o,p,q,r,s,t,u,w,x,y,z,A,B,C,D,E,F,G,H,I,J,K,L,M,N], S1)) ()) := by
 kernel_rfl
theorem zu.r3  : je Try.prog ⟨false, false, false⟩ (zV Try.prog O) (reg Try.f42 3) (reg Try.f42 3).toList ([P,V,Y,Z,x4,U,Q,R,W,X,a,b,c,d,f,g,i,k,l,m,n,o,p,q,r,s,t,u,w,x,y,z,A,B,C,D,E,F,G,H,I,J,K,L,M,N]) S =
  (zO (jM Try.prog BinOp.lss 3 a X S) (fun v0 S1 => some ([P,V,Y,Z,x4,U,Q,R,W,X,a,v0,c,d,f,g,i,k,l,m,n,o,p,q,r,s,t,u,w,x,y,z,A,B,C,D,E,F,G,H,I,J,K,L,M,N], S1)) ()) := by
 kernel_rfl
theorem zu.r4  : je Try.prog ⟨false, false, false⟩ (zV Try.prog O) (reg Try.f42 4) (reg Try.f42 4).toList ([P,V,Y,Z,x4,U,Q,R,W,X,a,b,c,d,f,g,i,k,l,m,n,o,p,q,r,s,t,u,w,x,y,z,A,B,C,D,E,F,G,H,I,J,K,L,M,N]) S =
  (zO (zZ Try.prog 26 W (dem a) S) (fun v1 S1 => zO (ji Try.prog false 5 v1 S1) (fun v2 S2 => some ([P,V,Y,Z,x4,U,a,v2,W,X,dem a,b,dem a,v1,dem v2,g,i,k,l,m,n,o,p,q,r,s,t,u,w,x,y,z,A,B,C,D,E,F,G,H,I,J,K,L,M,N], S2)) ()) ()) := by
 kernel_rfl
theorem zu.r5  : je Try.prog ⟨false, false, false⟩ (zV Try.prog O) (reg Try.f42 5) (reg Try.f42 5).toList ([P,V,Y,Z,x4,U,Q,R,W,X,a,b,c,d,f,g,i,k,l,m,n,o,p,q,r,s,t,u,w,x,y,z,A,B,C,D,E,F,G,H,I,J,K,L,M,N]) S =
  (zO (jM Try.prog BinOp.eql 3 (dem Q) (Value.int IntKind.i64 9) S) (fun v1 S1 => gdK (dem v1) true (ret R) S1 (fun v3 S2 => gdK (dem v1) true (jM Try.prog BinOp.gtr 5 (dem v3) (Value.int IntKind.u8 1)) S2 (fun v4 S3 => zO (qg (dem v1) v4 (Value.bool false) S3) (fun v5 S4 => gdK (dem v5) false (ret Q) S4 (fun v7 S5 => gdK (dem v5) false (jM Try.prog BinOp.gtr 3 (dem v7) (Value.int IntKind.i64 0)) S5 (fun v8 S6 => gdK (dem v5) false (ret v8) S6 (fun v9 S7 => gdK (dem v9) true (ret R) S7 (fun a0 S8 => gdK (dem v9) true (jM Try.prog BinOp.eql 5 (dem a0) (Value.int IntKind.u8 0)) S8 (fun a1 S9 => gdK (dem v5) false (qg (dem v9) a1 (Value.bool false)) S9 (fun a2 a3 => zO (qg (dem v5) (Value.bool true) a2 a3) (fun a4 a5 => some ([P,V,Y,Z,x4,U,Q,R,W,X,a,b,c,d,f,dem Q,v1,dem v1,dem v3,v4,v5,dem v5,dem v7,v8,dem v9,dem a0,a1,a2,a4,x,y,z,A,B,C,D,E,F,G,H,I,J,K,L,M,N], a5)) ()) ()) ()) ()) ()) ()) ()) ()) ()) ()) ()) := by
 refine sP Try.f42 5 0 (v := Q) ?_
 refine sD Try.f42 5 1 (fun v1 S1 => ?_)
 refine sP Try.f42 5 2 (v := v1) ?_
 refine sG Try.f42 5 3 (j := 2) (fun v3 S2 => ?_)
 refine sG Try.f42 5 4 (j := 2) (fun v4 S3 => ?_)
 refine sD Try.f42 5 5 (fun v5 S4 => ?_)
 refine sP Try.f42 5 6 (v := v5) ?_
 refine sG Try.f42 5 7 (j := 6) (fun v7 S5 => ?_)
 refine sG Try.f42 5 8 (j := 6) (fun v8 S6 => ?_)
 refine sG Try.f42 5 9 (j := 6) (fun v9 S7 => ?_)
 refine sG Try.f42 5 10 (j := 9) (fun a0 S8 => ?_)
 refine sG Try.f42 5 11 (j := 9) (fun a1 S9 => ?_)
 refine sG Try.f42 5 12 (j := 6) (fun a2 a3 => ?_)
 refine sD Try.f42 5 13 (fun a4 a5 => ?_)
 kernel_rfl
theorem zu.r6  : je Try.prog ⟨false, false, false⟩ (zV Try.prog O) (reg Try.f42 6) (reg Try.f42 6).toList ([P,V,Y,Z,x4,U,Q,R,W,X,a,b,c,d,f,g,i,k,l,m,n,o,p,q,r,s,t,u,w,x,y,z,A,B,C,D,E,F,G,H,I,J,K,L,M,N]) S =
  (zO (jM Try.prog BinOp.and 5 (dem R) (Value.int IntKind.u8 127) S) (fun v2 S1 => zO (jO Try.prog false false 5 75 v2 S1) (fun v3 S2 => zO (jM Try.prog BinOp.mul 3 (Value.int IntKind.i64 7) (dem Q) S2) (fun v5 S3 => zO (jM Try.prog BinOp.shl 75 v3 v5 S3) (fun v6 S4 => zO (jM Try.prog BinOp.or 75 (dem U) v6 S4) (fun v7 S5 => some ([P,V,Y,Z,x4,v7,Q,R,W,X,a,b,c,d,f,g,i,k,l,m,n,o,p,q,r,s,t,u,w,dem U,dem R,v2,v3,dem Q,v5,v6,dem v7,F,G,H,I,J,K,L,M,N], S5)) ()) ()) ()) ()) ()) := by
 kernel_rfl
theorem zu.r7  : je Try.prog ⟨false, false, false⟩ (zV Try.prog O) (reg Try.f42 7) (reg Try.f42 7).toList ([P,V,Y,Z,x4,U,Q,R,W,X,a,b,c,d,f,g,i,k,l,m,n,o,p,q,r,s,t,u,w,x,y,z,A,B,C,D,E,F,G,H,I,J,K,L,M,N]) S =
  (zO (jM Try.prog BinOp.lss 5 (dem R) (Value.int IntKind.u8 128) S) (fun v1 S1 => some ([P,V,Y,Z,x4,U,Q,R,W,X,a,b,c,d,f,g,i,k,l,m,n,o,p,q,r,s,t,u,w,x,y,z,A,B,C,D,E,dem R,v1,H,I,J,K,L,M,N], S1)) ()) := by
 kernel_rfl
theorem zu.r8  : je Try.prog ⟨false, false, false⟩ (zV Try.prog O) (reg Try.f42 8) (reg Try.f42 8).toList ([P,V,Y,Z,x4,U,Q,R,W,X,a,b,c,d,f,g,i,k,l,m,n,o,p,q,r,s,t,u,w,x,y,z,A,B,C,D,E,F,G,H,I,J,K,L,M,N]) S =
  (zO (jM Try.prog BinOp.add 3 (dem Q) (Value.int IntKind.i64 1) S) (fun v3 S1 => zO (wB Try.prog false 26 (dem P) (some v3) none S1) (fun v4 S2 => zO ((zV Try.prog O) 43 [(dem v4)] S2) (fun v5 S3 => some ([P,V,U,v5,Value.int IntKind.i64 0,dem U,Q,R,W,X,a,b,c,d,f,g,i,k,l,m,n,o,p,q,r,s,t,u,w,x,y,z,A,B,C,D,E,F,G,dem U,dem P,dem Q,v3,v4,dem v5,N], S3)) ()) ()) ()) := by
 kernel_rfl
theorem zu.r9  : je Try.prog ⟨false, false, false⟩ (zV Try.prog O) (reg Try.f42 9) (reg Try.f42 9).toList ([P,V,Y,Z,x4,U,Q,R,W,X,a,b,c,d,f,g,i,k,l,m,n,o,p,q,r,s,t,u,w,x,y,z,A,B,C,D,E,F,G,H,I,J,K,L,M,N]) S =
  (zO (jM Try.prog BinOp.add 3 a (Value.int IntKind.i64 1) S) (fun v0 S1 => some ([P,V,Y,Z,x4,U,Q,R,W,X,dem v0,b,c,d,f,g,i,k,l,m,n,o,p,q,r,s,t,u,w,x,y,z,A,B,C,D,E,F,G,H,I,J,K,L,M,v0], S1)) ()) := by
 kernel_rfl
theorem zu.r10  : je Try.prog ⟨false, false, false⟩ (zV Try.prog O) (reg Try.f42 10) (reg Try.f42 10).toList ([P,V,Y,Z,x4,U,Q,R,W,X,a,b,c,d,f,g,i,k,l,m,n,o,p,q,r,s,t,u,w,x,y,z,A,B,C,D,E,F,G,H,I,J,K,L,M,N]) S =
  ( some ([P,V,Value.int IntKind.u64 0,Value.slice none 0 0,Value.int IntKind.i64 11,U,Q,R,W,X,a,b,c,d,f,g,i,k,l,m,n,o,p,q,r,s,t,u,w,x,y,z,A,B,C,D,E,F,G,H,I,J,K,L,M,N], S)) := by
 kernel_rfl
theorem zu.runs {P : Value} {S S1 : zi} {e : AEx} {T : List Value} (h : zD Try.prog O false zu.code ([P,undef,undef,undef,undef,undef,undef,undef,undef,undef,undef,undef,undef,undef,undef,undef,undef,undef,undef,undef,undef,undef,undef,undef,undef,undef,undef,undef,undef,undef,undef,undef,undef,undef,undef,undef,undef,undef,undef,undef,undef,undef,undef,undef,undef,undef]) S = some (e, T, S1)) (he : e = .normal ∨ e = .ret)  (h0 : jg (T.getD 2 undef) = true) (h1 : jg (T.getD 3 undef) = true) (h2 : jg (T.getD 4 undef) = true) : zV Try.prog O 42 [P] S = some (Value.tuple #[T.getD 2 undef, T.getD 3 undef, T.getD 4 undef], S1) :=
 wU rfl rfl Try.func42 (by decide) zu.body (by exact h) he ((yK ((show zN Try.prog T S1 Try.f42.results.toList = zN Try.prog T S1 [(ResultVar.tmp 2), (ResultVar.tmp 3), (ResultVar.tmp 4)] from by kernel_rfl).trans (by simp only [zN])) (by kernel_rfl) (by simp only [List.all_cons, List.all_nil, h0, h1, h2, Bool.and_true])).trans rfl)
end Go.Proofs.Ytblpnklfimkfoaa
namespace Go.Proofs.Ytblpnklfimkfoaa
open Go.Abs
abbrev zX.id : FuncId := 45
noncomputable def zX.jd : Code := (Code.seq (Code.seq (Code.region 2 (reg Try.f45 2) false) (Code.cond (Operand.tmp 5) Code.skip (Code.exit 0))) (Code.block 1 (Code.seq (Code.region 3 (reg Try.f45 3) false) (Code.region 4 (reg Try.f45 4) false))))
noncomputable def zX.code : Code := (Code.seq (Code.region 0 (reg Try.f45 0) false) (Code.seq (Code.region 1 (reg Try.f45 1) false) (Code.seq (Code.block 0 (Code.loop zX.jd)) (Code.seq (Code.region 5 (reg Try.f45 5) false) Code.ret))))
theorem zX.body : Try.f45.body = some zX.code := by kernel_rfl
theorem zX.eta {T : List Value} (h : T.length = 19) : T = [T.getD 0 undef,T.getD 1 undef,T.getD 2 undef,T.getD 3 undef,T.getD 4 undef,T.getD 5 undef,T.getD 6 undef,T.getD 7 undef,T.getD 8 undef,T.getD 9 undef,T.getD 10 undef,T.getD 11 undef,T.getD 12 undef,T.getD 13 undef,T.getD 14 undef,T.getD 15 undef,T.getD 16 undef,T.getD 17 undef,T.getD 18 undef] := (yI T 19 h).trans (by kernel_rfl)
theorem zX.list {T : List Value} (h : T.length = 19) : ∃ b o v n p q r s t u c d f g i j k l m, T = [b,o,v,n,p,q,r,s,t,u,c,d,f,g,i,j,k,l,m] := ⟨_, _, _, _, _, _, _, _, _, _, _, _, _, _, _, _, _, _, _, zX.eta h⟩
variable (b o v n p q r s t u c d f g i j k l m : Value) (S : zi)
theorem zX.r0  : je Try.prog ⟨false, false, false⟩ (zV Try.prog O) (reg Try.f45 0) (reg Try.f45 0).toList ([b,o,v,n,p,q,r,s,t,u,c,d,f,g,i,j,k,l,m]) S =
  ( some ([b,o,Value.slice none 0 0,n,p,q,r,s,t,u,c,d,f,g,i,j,k,l,m], S)) := by
 kernel_rfl
theorem zX.r1  : je Try.prog ⟨false, false, false⟩ (zV Try.prog O) (reg Try.f45 1) (reg Try.f45 1).toList ([b,o,v,n,p,q,r,s,t,u,c,d,f,g,i,j,k,l,m]) S =
  ( some ([b,o,v,Value.slice none 0 0,p,q,r,s,t,u,c,d,f,g,i,j,k,l,m], S)) := by
 kernel_rfl
theorem zX.r2  : je Try.prog ⟨false, false, false⟩ (zV Try.prog O) (reg Try.f45 2) (reg Try.f45 2).toList ([b,o,v,n,p,q,r,s,t,u,c,d,f,g,i,j,k,l,m]) S =
  (zO (jM Try.prog BinOp.geq 75 (dem b) (Value.int IntKind.u64 128) S) (fun A w => some ([b,o,v,n,dem b,A,r,s,t,u,c,d,f,g,i,j,k,l,m], w)) ()) := by
 kernel_rfl
theorem zX.r3  : je Try.prog ⟨false, false, false⟩ (zV Try.prog O) (reg Try.f45 3) (reg Try.f45 3).toList ([b,o,v,n,p,q,r,s,t,u,c,d,f,g,i,j,k,l,m]) S =
  (zO (jO Try.prog false false 75 5 (dem b) S) (fun x w => zO (jM Try.prog BinOp.or 5 x (Value.int IntKind.u8 128) w) (fun y B => zO (zW Try.prog 26 1 [(0, y)] B) (fun z C => zO (jl Try.prog 26 26 n z C) (fun D E => some ([b,o,v,D,p,q,dem n,dem b,x,y,z,dem D,f,g,i,j,k,l,m], E)) ()) ()) ()) ()) := by
 kernel_rfl
theorem zX.r4  : je Try.prog ⟨false, false, false⟩ (zV Try.prog O) (reg Try.f45 4) (reg Try.f45 4).toList ([b,o,v,n,p,q,r,s,t,u,c,d,f,g,i,j,k,l,m]) S =
  (zO (jM Try.prog BinOp.shr 75 (dem b) (Value.int IntKind.u64 7) S) (fun A w => some ([A,o,v,n,p,q,r,s,t,u,c,d,dem b,dem A,i,j,k,l,m], w)) ()) := by
 kernel_rfl
theorem zX.r5  : je Try.prog ⟨false, false, false⟩ (zV Try.prog O) (reg Try.f45 5) (reg Try.f45 5).toList ([b,o,v,n,p,q,r,s,t,u,c,d,f,g,i,j,k,l,m]) S =
  (zO (jO Try.prog false false 75 5 (dem b) S) (fun x w => zO (zW Try.prog 26 1 [(0, x)] w) (fun y B => zO (jl Try.prog 26 26 n y B) (fun z C => some ([b,o,z,dem n,p,q,r,s,t,u,c,d,f,g,dem n,dem b,x,y,dem z], C)) ()) ()) ()) := by
 kernel_rfl
theorem zX.runs {b : Value} {S w : zi} {e : AEx} {T : List Value} (h : zD Try.prog O false zX.code ([b,undef,undef,undef,undef,undef,undef,undef,undef,undef,undef,undef,undef,undef,undef,undef,undef,undef,undef]) S = some (e, T, w)) (he : e = .normal ∨ e = .ret) : zV Try.prog O 45 [b] S = some (T.getD 2 undef, w) :=
 wU rfl rfl Try.func45 (by decide) zX.body (by exact h) he (qU (a := T.getD 2 undef) ((show zN Try.prog T w Try.f45.results.toList = zN Try.prog T w [(ResultVar.tmp 2)] from by kernel_rfl).trans (by simp only [zN])) (by kernel_rfl))
end Go.Proofs.Ytblpnklfimkfoaa
namespace Go.Proofs.Ytblpnklfimkfoaa
open Go.Abs
def enc (n : Nat) : List UInt8 := if n < 128 then [UInt8.ofNat n] else UInt8.ofNat (n % 128 + 128) :: enc (n / 128)
termination_by n
decreasing_by omega
theorem qC {n : Nat} (h : n < 128) : enc n = [UInt8.ofNat n] := by rw [enc, if_pos h]
theorem Jz {n : Nat} (h : ¬ n < 128) : enc n = UInt8.ofNat (n % 128 + 128) :: enc (n / 128) := by rw [enc, if_neg h]
theorem wrap_u8 (n : Nat) : IntKind.u8.wrap (n : Int) = ((n % 256 : Nat) : Int) := by
 simp [IntKind.wrap, IntKind.bits, IntKind.signed]
theorem wrap_u64 (n : Nat) : IntKind.u64.wrap (n : Int) = ((n % 2 ^ 64 : Nat) : Int) := by
 simp [IntKind.wrap, IntKind.bits, IntKind.signed]
theorem af0 : ∀ m : Fin 256, orI .u8 (m.val : Int) 128 = ((m.val % 128 + 128 : Nat) : Int) := by decide +kernel
theorem aek (n : Nat) : orI .u8 (IntKind.u8.wrap (n : Int)) 128 = ((UInt8.ofNat (n % 128 + 128)).toNat : Int) := by
 rw [wrap_u8, af0 ⟨n % 256, by omega⟩]
 simp only [UInt8.toNat_ofNat']
 omega
theorem aev {n : Nat} : IntKind.u8.wrap (n : Int) = ((UInt8.ofNat n).toNat : Int) := by
 rw [wrap_u8]
 simp
theorem agp (n : Nat) : (n : Int).fdiv (2 ^ min (Int.toNat 7) (IntKind.bits .u64)) = ((n / 128 : Nat) : Int) := by
 have : (2 : Int) ^ min (Int.toNat 7) (IntKind.bits .u64) = 128 := by decide
 rw [this, Int.fdiv_eq_ediv_of_nonneg _ (by omega)]
 omega
theorem aeK (k : Nat) : ∀ n, n < 128 ^ (k + 1) → (enc n).length ≤ k + 1 := by
 induction k with
 | zero => intro n h; rw [qC (by omega)]; simp
 | succ k ih =>
  intro n h
  by_cases hn : n < 128
  ·
   rw [qC hn]; simp
  ·
   rw [Jz hn]
   have := ih (n / 128) (by rw [Nat.div_lt_iff_lt_mul (by omega)]; exact h)
   simp only [List.length_cons]; omega
theorem kV {n : Nat} (h : n < 2 ^ 64) : (enc n).length ≤ 10 := aeK 9 n (Nat.lt_of_lt_of_le h (by decide))
theorem afh : sv 2 1 0 [] = by_ 2 [] := rfl
theorem afL (x : UInt8) : sv 2 1 1 [.int .u8 x.toNat] = by_ 2 [x] := rfl
theorem aaL {k : Nat} {l : List UInt8} {x : UInt8} {S : zi} (h : Okl k l) (hk : k ≠ 1) (hl : l.length ≤ 140737488355000) : jl Try.prog 26 26 (by_ k l) (by_ 2 [x]) S = some (by_ 2 (l ++ [x]), S) := by
 rw [yu h hk Okl.own (by simp; omega), if_neg (fun h => by have := h.2; simp at this)]
theorem zX.round : ∀ (n : Nat) (l : List UInt8) (k : Nat) {T : List Value} {S : zi} {r : St}, wS (zD Try.prog O false zX.jd) T S = r → T.length = 19 → T.getD 0 undef = .int .u64 n → T.getD 3 undef = by_ k l →
  Okl k l → k ≠ 1 → n * 2 ^ l.length < 2 ^ 64 → ∃ T' l' k' n', r = some (.exit 0, T', S) ∧ T'.length = 19 ∧ T'.getD 0 undef = .int .u64 (n' : Nat) ∧ T'.getD 3 undef = by_ k' l' ∧
   Okl k' l' ∧ k' ≠ 1 ∧ n' < 128 ∧ l' ++ [UInt8.ofNat n'] = l ++ enc n := by
 intro n
 induction n using Nat.strongRecOn with
 | _ n ih =>
  intro l k T S r hL hT h0 h3 hs hk hl
  obtain ⟨x0, x1, x2, x3, x4, x5, x6, x7, x8, x9, x10, x11, x12, x13, x14, x15, x16, x17, x18, hTe⟩ := zX.list hT
  rw [hTe] at h0 h3
  simp only [List.getD_cons_succ, List.getD_cons_zero] at h0 h3
  subst h0 h3
  have hr : zD Try.prog O false zX.jd T S = zD Try.prog O false zX.jd T S := rfl
  by_cases hlt : n < 128
  ·
   have hd : decide ((128 : Int) ≤ (n : Int)) = false := by simp; omega
   conv at hr =>
    rhs
    rw [hTe]
    simp only [zX.jd, zSs, reduceIte, Nat.reduceEqDiff, Int.reduceEq, Int.reduceLT, Int.reduceLE, zX.r2, hd]
   exact ⟨_, l, k, n, hL.symm.trans (jm hr (by simp)), rfl, rfl, rfl, hs, hk, hlt, by rw [qC hlt]⟩
  ·
   have hd : decide ((128 : Int) ≤ (n : Int)) = true := by simp; omega
   have hll : l.length < 64 := by
    have : 2 ^ l.length < 2 ^ 64 := Nat.lt_of_le_of_lt (Nat.le_mul_of_pos_left _ (by omega)) hl
    exact (Nat.pow_lt_pow_iff_right (by omega)).1 this
   have e1 : ∀ x S, jl Try.prog 26 26 (by_ k l) (by_ 2 [x]) S = some (by_ 2 (l ++ [x]), S) := fun x S => aaL hs hk (by omega)
   conv at hr =>
    rhs
    rw [hTe]
    simp only [zX.jd, zSs, reduceIte, Nat.reduceEqDiff, Int.reduceEq, Int.reduceLT, Int.reduceLE, zX.r2, hd, zX.r3, kL, Vy, aek, ZF, afL, e1, zX.r4, acd _ _ _ _ (show (0 : Int) ≤ 7 by omega), agp]
   have hmul : n / 128 * 2 ^ (l.length + 1) < 2 ^ 64 := by
    refine Nat.lt_of_le_of_lt ?_ hl
    rw [Nat.pow_succ, Nat.mul_comm (2 ^ l.length) 2, ← Nat.mul_assoc]
    exact Nat.mul_le_mul_right _ (by omega)
   obtain ⟨T', l', k', n', g1, g2, g3, g4, g5, g6, g7, g8⟩ := ih (n / 128) (by omega) _ 2 ((jY hr).symm.trans hL) rfl rfl rfl Okl.own (by decide) (by simpa using hmul)
   refine ⟨T', l', k', n', g1, g2, g3, g4, g5, g6, g7, ?_⟩
   rw [g8, Jz hlt, List.append_assoc]; rfl
theorem zX.v (n : Nat) (hn : n < 2 ^ 64) (S : zi) : zV Try.prog O zX.id [.int .u64 n] S = some (by_ 2 (enc n), S) := by
 obtain ⟨T, hTe⟩ : ∃ T, T = (.int .u64 n :: undef :: undef :: undef :: undef :: undef :: undef :: undef :: undef :: undef :: undef :: undef :: undef :: undef :: undef :: undef :: undef :: undef :: undef :: []) := ⟨_, rfl⟩
 have hr : zD Try.prog O false zX.code T S = zD Try.prog O false zX.code T S := rfl
 conv at hr =>
  rhs
  rw [hTe]
  simp only [zX.code, zSs, reduceIte, Nat.reduceEqDiff, Int.reduceEq, Int.reduceLT, Int.reduceLE, zX.r0, zX.r1]
 generalize hL : wS (zD Try.prog O false zX.jd) _ _ = r at hr
 obtain ⟨T', l', k', n', rfl, g2, g3, g4, g5, g6, g7, g8⟩ := zX.round n [] 0 hL rfl rfl rfl Okl.none (by decide) (by simpa using hn)
 obtain ⟨x0, x1, x2, x3, x4, x5, x6, x7, x8, x9, x10, x11, x12, x13, x14, x15, x16, x17, x18, hT'⟩ := zX.list g2
 rw [hT'] at g3 g4
 simp only [List.getD_cons_succ, List.getD_cons_zero] at g3 g4
 subst g3 g4
 have hlen : l'.length + 1 = (enc n).length := by simpa using congrArg List.length g8
 have h10 := kV hn
 have e1 : ∀ x S, jl Try.prog 26 26 (by_ k' l') (by_ 2 [x]) S = some (by_ 2 (l' ++ [x]), S) := fun x S => aaL g5 g6 (by omega)
 conv at hr =>
  rhs
  rw [hT']
  simp only [zSs, reduceIte, Nat.reduceEqDiff, Int.reduceEq, Int.reduceLT, Int.reduceLE, zX.r5, kL, aev, ZF, afL, e1]
 rw [hTe] at hr
 have := zX.runs hr (.inr rfl)
 rw [List.nil_append] at g8
 rw [← g8]
 exact this
end Go.Proofs.Ytblpnklfimkfoaa
namespace Go.Proofs.Ytblpnklfimkfoaa
open Go.Abs
theorem slices_Clone.v {k : Nat} {l : List UInt8} (h : Okl k l) (hk : k ≠ 2) (hl : l.length ≤ 140737488355328) (S : zi) : zV Try.prog O slices_Clone.id [by_ k l] S = some (by_ (if k = 0 then 0 else 2) l, S) := by
 obtain ⟨T, hTe⟩ : ∃ T, T = (by_ k l :: undef :: undef :: undef :: undef :: undef :: undef :: undef :: []) := ⟨_, rfl⟩
 have hr : zD Try.prog O false slices_Clone.code T S = zD Try.prog O false slices_Clone.code T S := rfl
 conv at hr =>
  rhs
  rw [hTe]
  simp only [slices_Clone.code, zSs, reduceIte, Nat.reduceEqDiff, Int.reduceEq, Int.reduceLT, Int.reduceLE, slices_Clone.r0, slices_Clone.r1, if_neg hk, ab6 h]
 by_cases h0 : k = 0
 ·
  have hl0 := h.nil h0
  subst h0 hl0
  conv at hr =>
   rhs
   simp only [decide_true, zSs, reduceIte, Nat.reduceEqDiff, Int.reduceEq, Int.reduceLT, Int.reduceLE, slices_Clone.r2]
  rw [hTe] at hr
  exact slices_Clone.runs hr (.inr rfl)
 ·
  have e1 : ∀ S, jl Try.prog 26 26 (by_ 2 []) (by_ k l) S = some (by_ 2 l, S) := fun S => by
   rw [yu Okl.own (by decide) h (by simpa using hl)]; rfl
  conv at hr =>
   rhs
   simp only [h0, decide_false, zSs, reduceIte, Nat.reduceEqDiff, Int.reduceEq, Int.reduceLT, Int.reduceLE, slices_Clone.r3, kU, afh, if_neg hk, e1]
  rw [hTe] at hr
  rw [if_neg h0]
  exact slices_Clone.runs hr (.inr rfl)
def scan : Nat → Nat → List UInt8 → Option (Nat × List UInt8)
 | _, _, [] => none
 | i, acc, x :: r => if (i = 9 ∧ 1 < x.toNat) ∨ (0 < i ∧ x.toNat = 0) then none else if x.toNat < 128 then some (acc + x.toNat * 128 ^ i, r) else scan (i + 1) (acc + (x.toNat - 128) * 128 ^ i) r
def Vb (l : List UInt8) : Value :=
 match scan 0 0 l with
 | none => .tuple #[.int .u64 0, .slice none 0 0, .int .i64 11]
 | some (m, rest) => .tuple #[.int .u64 (m : Nat), by_ 2 rest, .int .i64 0]
theorem zu.stop (x0 x1 x2 x3 x4 x5 x6 x7 x8 x9 x10 x11 x12 x13 x14 x15 x16 x17 x18 x19 x20 x21 x22 x23 x24 x25 x26 x27 x28 x29 x30 x31 x32 x33 x34 x35 x36 x37 x38 x39 x40 x41 x42 x43 x44 x45 : Value) (i x : Int) (S : zi) (h6 : x6 = .int .i64 i) (h7 : x7 = .int .u8 x) : ∃ y15 y16 y17 y18 y19 y20 y21 y22 y23 y24 y25 y26 y27, je Try.prog ⟨false, false, false⟩ (zV Try.prog O) (reg Try.f42 5) (reg Try.f42 5).toList (x0 :: x1 :: x2 :: x3 :: x4 :: x5 :: x6 :: x7 :: x8 :: x9 :: x10 :: x11 :: x12 :: x13 :: x14 :: x15 :: x16 :: x17 :: x18 :: x19 :: x20 :: x21 :: x22 :: x23 :: x24 :: x25 :: x26 :: x27 :: x28 :: x29 :: x30 :: x31 :: x32 :: x33 :: x34 :: x35 :: x36 :: x37 :: x38 :: x39 :: x40 :: x41 :: x42 :: x43 :: x44 :: x45 :: []) S =
  some ((x0 :: x1 :: x2 :: x3 :: x4 :: x5 :: x6 :: x7 :: x8 :: x9 :: x10 :: x11 :: x12 :: x13 :: x14 :: y15 :: y16 :: y17 :: y18 :: y19 :: y20 :: y21 :: y22 :: y23 :: y24 :: y25 :: y26 :: y27 :: .bool (decide ((i = 9 ∧ 1 < x) ∨ (0 < i ∧ x = 0))) :: x29 :: x30 :: x31 :: x32 :: x33 :: x34 :: x35 :: x36 :: x37 :: x38 :: x39 :: x40 :: x41 :: x42 :: x43 :: x44 :: x45 :: []), S) := by
 subst h6 h7
 rw [zu.r5]
 simp only [zSs, reduceIte, Nat.reduceEqDiff, Int.reduceEq, Int.reduceLT, Int.reduceLE]
 rcases Bool.eq_false_or_eq_true (decide (i = 9)) with d1 | d1 <;> rcases Bool.eq_false_or_eq_true (decide (1 < x)) with d2 | d2 <;> rcases Bool.eq_false_or_eq_true (decide (0 < i)) with d3 | d3 <;> rcases Bool.eq_false_or_eq_true (decide (x = 0)) with d4 | d4 <;>
  simp only [d1, d2, d3, d4, zSs, reduceIte, Nat.reduceEqDiff, Int.reduceEq, Int.reduceLT, Int.reduceLE] <;> simp only [decide_eq_true_eq, decide_eq_false_iff_not] at d1 d2 d3 d4 <;>
  simp only [d1, d2, d3, d4, true_and, false_and, and_true, and_false, or_true, true_or, or_false, false_or, decide_true, decide_false, not_true, not_false_iff, Int.reduceLT, Int.reduceEq, and_self, or_self] <;> first | exact ⟨_, _, _, _, _, _, _, _, _, _, _, _, _, rfl⟩ | omega
theorem afy : ∀ m : Fin 256, afV .u8 (m.val : Int) 127 = ((m.val % 128 : Nat) : Int) := by decide +kernel
theorem acP (x : UInt8) : afV .u8 (x.toNat : Int) 127 = ((x.toNat % 128 : Nat) : Int) := afy ⟨x.toNat, x.toNat_lt⟩
theorem qB {n : Nat} (h : n < 2 ^ 64) : IntKind.u64.wrap (n : Int) = (n : Int) := by
 rw [wrap_u64, Nat.mod_eq_of_lt h]
theorem aeE {a c i : Nat} (ha : a < 2 ^ i) (h : c * 2 ^ i < 2 ^ 64) (h2 : a < 2 ^ 64) : orI .u64 (a : Int) ((c * 2 ^ i : Nat) : Int) = ((a + c * 2 ^ i : Nat) : Int) := by
 have hor : a ||| c * 2 ^ i = a + c * 2 ^ i := by
  have := Nat.shiftLeft_add_eq_or_of_lt ha c
  rw [Nat.shiftLeft_eq] at this
  rw [Nat.or_comm, ← this, Nat.add_comm]
 have hlt : a ||| c * 2 ^ i < 2 ^ 64 := Nat.or_lt_two_pow h2 h
 unfold orI
 rw [BitVec.ofInt_natCast, BitVec.ofInt_natCast, BitVec.toNat_or, BitVec.toNat_ofNat, BitVec.toNat_ofNat]
 rw [show IntKind.bits .u64 = 64 from rfl, Nat.mod_eq_of_lt h2, Nat.mod_eq_of_lt h, qB hlt, hor]
theorem agm {c i : Nat} (hi : i ≤ 9) (h : c * 128 ^ i < 2 ^ 64) : IntKind.u64.wrap ((c : Int) * 2 ^ (min (Int.toNat (7 * (i : Int))) (IntKind.bits .u64))) = ((c * 2 ^ (7 * i) : Nat) : Int) := by
 have e1 : min (Int.toNat (7 * (i : Int))) (IntKind.bits .u64) = 7 * i := by
  rw [show IntKind.bits .u64 = 64 from rfl]; omega
 have e2 : (128 : Nat) ^ i = 2 ^ (7 * i) := by rw [Nat.pow_mul]
 rw [e1, show (c : Int) * 2 ^ (7 * i) = ((c * 2 ^ (7 * i) : Nat) : Int) by simp, qB (by rw [← e2]; exact h)]
theorem ac3 {l pre suf : List UInt8} {x : UInt8} (hl : l = pre ++ x :: suf) : (l.drop ((pre.length : Int) + 1).toNat).take ((l.length : Int).toNat - ((pre.length : Int) + 1).toNat) = suf := by
 rw [show ((pre.length : Int) + 1).toNat = pre.length + 1 by omega, show (l.length : Int).toNat = l.length by omega, hl]
 rw [show pre ++ x :: suf = (pre ++ [x]) ++ suf by simp, show pre.length + 1 = (pre ++ [x]).length by simp, List.drop_left]
 rw [List.take_of_length_le]; simp; omega
theorem zu.round {k : Nat} {l : List UInt8} (hv : Okl k l) (hk : k ≠ 2) (hlen : l.length ≤ 140737488355328) {S : zi} : ∀ (suf pre : List UInt8) (acc : Nat) {T : List Value} {r : St}, wS (zD Try.prog O false zu.jd) T S = r → T.length = 46 →
  T.getD 0 undef = by_ k l → T.getD 8 undef = by_ k l → T.getD 9 undef = .int .i64 l.length → T.getD 10 undef = .int .i64 pre.length → T.getD 5 undef = .int .u64 acc → l = pre ++ suf → acc < 128 ^ pre.length → pre.length ≤ 9 →
  ∃ e T', r = some (e, T', S) ∧ match scan pre.length acc suf with
   | none => e = .exit 0 ∧ T'.length = 46
   | some (m, rest) => e = .ret ∧ m < 2 ^ 64 ∧ T'.getD 2 undef = .int .u64 m ∧ T'.getD 3 undef = by_ 2 rest ∧ T'.getD 4 undef = .int .i64 0 := by
 intro suf
 induction suf with
 | nil =>
  intro pre acc T r hL hT h0 h8 h9 h10 h5 hl hacc hpre
  obtain ⟨x0, x1, x2, x3, x4, x5, x6, x7, x8, x9, x10, x11, x12, x13, x14, x15, x16, x17, x18, x19, x20, x21, x22, x23, x24, x25, x26, x27, x28, x29, x30, x31, x32, x33, x34, x35, x36, x37, x38, x39, x40, x41, x42, x43, x44, x45, hTe⟩ := zu.list hT
  rw [hTe] at h0 h8 h9 h10 h5
  simp only [List.getD_cons_succ, List.getD_cons_zero] at h0 h8 h9 h10 h5
  subst h0 h8 h9 h10 h5
  have hr : zD Try.prog O false zu.jd T S = zD Try.prog O false zu.jd T S := rfl
  have hd : decide ((pre.length : Int) < (l.length : Int)) = false := by rw [hl]; simp
  conv at hr =>
   rhs
   rw [hTe]
   simp only [zu.jd, zSs, reduceIte, Nat.reduceEqDiff, Int.reduceEq, Int.reduceLT, Int.reduceLE, zu.r3, hd]
  exact ⟨_, _, hL.symm.trans (jm hr (by simp)), rfl, rfl⟩
 | cons x suf ih =>
  intro pre acc T r hL hT h0 h8 h9 h10 h5 hl hacc hpre
  obtain ⟨x0, x1, x2, x3, x4, x5, x6, x7, x8, x9, x10, x11, x12, x13, x14, x15, x16, x17, x18, x19, x20, x21, x22, x23, x24, x25, x26, x27, x28, x29, x30, x31, x32, x33, x34, x35, x36, x37, x38, x39, x40, x41, x42, x43, x44, x45, hTe⟩ := zu.list hT
  rw [hTe] at h0 h8 h9 h10 h5
  simp only [List.getD_cons_succ, List.getD_cons_zero] at h0 h8 h9 h10 h5
  subst h0 h8 h9 h10 h5
  have hr : zD Try.prog O false zu.jd T S = zD Try.prog O false zu.jd T S := rfl
  have hlt : (pre.length : Int) < (l.length : Int) := by rw [hl]; simp; omega
  have hd : decide ((pre.length : Int) < (l.length : Int)) = true := by simpa using hlt
  have k0 : k ≠ 0 := fun h => by have := hv.nil h; rw [this] at hl; simp at hl
  have e1 : ∀ S, zZ Try.prog 26 (by_ k l) (.int .i64 pre.length) S = some (EP [.int .u8 x.toNat], S) := fun S => by
   rw [af5 hv (by omega) hlt]; rw [adn hl]
  obtain ⟨y15, y16, y17, y18, y19, y20, y21, y22, y23, y24, y25, y26, y27, e3⟩ := zu.stop (by_ k l) x1 x2 x3 x4 (.int .u64 acc) (.int .i64 pre.length) (.int .u8 x.toNat) (by_ k l) (.int .i64 l.length) (.int .i64 pre.length) (.bool true) (.int .i64 pre.length) (EP [.int .u8 x.toNat]) (.int .u8 x.toNat) x15 x16 x17 x18 x19 x20 x21 x22 x23 x24 x25 x26 x27 x28 x29 x30 x31 x32 x33 x34 x35 x36 x37 x38 x39 x40 x41 x42 x43 x44 x45 (pre.length : Int) (x.toNat : Int) S rfl rfl
  conv at hr =>
   rhs
   rw [hTe]
   simp only [zu.jd, zSs, reduceIte, Nat.reduceEqDiff, Int.reduceEq, Int.reduceLT, Int.reduceLE, zu.r3, hd, zu.r4, e1, ad1, if_neg hk, e3]
  have hst : ((pre.length : Int) = 9 ∧ 1 < (x.toNat : Int) ∨ 0 < (pre.length : Int) ∧ (x.toNat : Int) = 0) ↔ ((pre.length = 9 ∧ 1 < x.toNat) ∨ (0 < pre.length ∧ x.toNat = 0)) := by omega
  by_cases hs : (pre.length = 9 ∧ 1 < x.toNat) ∨ (0 < pre.length ∧ x.toNat = 0)
  ·
   have hs2 := decide_eq_true (hst.2 hs)
   conv at hr =>
    rhs
    simp only [hs2, zSs, reduceIte, Nat.reduceEqDiff, Int.reduceEq, Int.reduceLT, Int.reduceLE]
   refine ⟨_, _, hL.symm.trans (jm hr (by simp)), ?_⟩
   rw [scan, if_pos hs]
   exact ⟨rfl, rfl⟩
  ·
   have hs2 := decide_eq_false (fun h => hs (hst.1 h))
   have hx256 := x.toNat_lt
   have hpw : 128 ^ pre.length ≤ 128 ^ 9 := Nat.pow_le_pow_right (by omega) hpre
   have hc64 : x.toNat % 128 * 128 ^ pre.length < 2 ^ 64 := by
    by_cases h9 : pre.length = 9
    ·
     rw [h9]; have : x.toNat % 128 ≤ 1 := by omega
     exact Nat.lt_of_le_of_lt (Nat.mul_le_mul_right _ this) (by decide)
    ·
     have h8 : 128 ^ pre.length ≤ 128 ^ 8 := Nat.pow_le_pow_right (by omega) (by omega)
     exact Nat.lt_of_le_of_lt (Nat.mul_le_mul (by omega : x.toNat % 128 ≤ 127) h8) (by decide)
   have hm : IntKind.i64.wrap (7 * (pre.length : Int)) = 7 * (pre.length : Int) := wrap_i64 (by omega) (by omega)
   have e128 : (128 : Nat) ^ pre.length = 2 ^ (7 * pre.length) := by rw [Nat.pow_mul]
   have hor := aeE (a := acc) (c := x.toNat % 128) (i := 7 * pre.length) (by rw [← e128]; exact hacc) (by rw [← e128]; exact hc64) (Nat.lt_of_lt_of_le hacc (Nat.le_trans hpw (by decide)))
   conv at hr =>
    rhs
    simp only [hs2, zSs, reduceIte, Nat.reduceEqDiff, Int.reduceEq, Int.reduceLT, Int.reduceLE, zu.r6, ace, acP, Ju, qB (show x.toNat % 128 < 2 ^ 64 by omega), hm, acj _ _ _ _ (show (0 : Int) ≤ 7 * (pre.length : Int) by omega), agm hpre hc64, Vy, hor, zu.r7]
   rw [← e128] at hr
   have hadd : acc + x.toNat % 128 * 128 ^ pre.length < 128 ^ (pre.length + 1) := by
    rw [Nat.pow_succ]
    have : x.toNat % 128 * 128 ^ pre.length ≤ 127 * 128 ^ pre.length := Nat.mul_le_mul_right _ (by omega)
    omega
   have hi1 : IntKind.i64.wrap ((pre.length : Int) + 1) = (pre.length : Int) + 1 := wrap_i64 (by omega) (by omega)
   by_cases hxs : x.toNat < 128
   ·
    have hd2 : decide ((x.toNat : Int) < 128) = true := by simp; omega
    have e4 : ∀ S, yA Try.prog 26 (by_ k l) (some (.int .i64 ((pre.length : Int) + 1))) none S = some (by_ k suf, S) := fun S => by
     rw [vK hv (lo := some (.int .i64 ((pre.length : Int) + 1))) (hi := none) (i := (pre.length : Int) + 1) (j := l.length) rfl rfl (by omega) (by omega) (by omega), ac3 hl, if_neg hk]
    have ok2 : Okl k suf := ⟨hv.le, fun h => absurd h k0⟩
    have e5 : ∀ S, zV Try.prog O slices_Clone.id [by_ k suf] S = some (by_ 2 suf, S) := fun S => by
     rw [slices_Clone.v ok2 hk (by have := congrArg List.length hl; simp at this; omega), if_neg k0]
    conv at hr =>
     rhs
     simp only [hd2, zSs, reduceIte, Nat.reduceEqDiff, Int.reduceEq, Int.reduceLT, Int.reduceLE, zu.r8, hi1, if_neg hk, e4, e5]
    refine ⟨_, _, hL.symm.trans (jm hr (by simp)), ?_⟩
    rw [scan, if_neg hs, if_pos hxs]
    have hxm : x.toNat % 128 = x.toNat := by omega
    rw [hxm]
    refine ⟨rfl, ?_, rfl, rfl, rfl⟩
    rw [hxm] at hadd
    by_cases h9 : pre.length = 9
    ·
     rw [h9] at hacc ⊢
     have : x.toNat ≤ 1 := by omega
     have h1 : x.toNat * 128 ^ 9 ≤ 1 * 128 ^ 9 := Nat.mul_le_mul_right _ this
     have h2 : (128 : Nat) ^ 9 + 1 * 128 ^ 9 = 2 ^ 64 := by decide
     omega
    ·
     have h8 : 128 ^ (pre.length + 1) ≤ 128 ^ 9 := Nat.pow_le_pow_right (by omega) (by omega)
     exact Nat.lt_of_lt_of_le hadd (Nat.le_trans h8 (by decide))
   ·
    have hd2 : decide ((x.toNat : Int) < 128) = false := by simp; omega
    conv at hr =>
     rhs
     simp only [hd2, zSs, reduceIte, Nat.reduceEqDiff, Int.reduceEq, Int.reduceLT, Int.reduceLE, zu.r9, hi1]
    obtain ⟨e, T', g1, g3⟩ := ih (pre ++ [x]) (acc + x.toNat % 128 * 128 ^ pre.length) ((jY hr).symm.trans hL) rfl rfl rfl rfl (by simp) rfl (by simp [hl]) (by simpa using hadd) (by simp; omega)
    refine ⟨e, T', g1, ?_⟩
    rw [scan, if_neg hs, if_neg hxs]
    have hxm : x.toNat % 128 = x.toNat - 128 := by omega
    rw [hxm] at g3
    simpa using g3
theorem zu.v {k : Nat} {l : List UInt8} (hv : Okl k l) (hk : k ≠ 2) (hlen : l.length ≤ 140737488355328) (S : zi) : zV Try.prog O zu.id [by_ k l] S = some (Vb l, S) := by
 obtain ⟨T, hTe⟩ : ∃ T, T = (by_ k l :: undef :: undef :: undef :: undef :: undef :: undef :: undef :: undef :: undef :: undef :: undef :: undef :: undef :: undef :: undef :: undef :: undef :: undef :: undef :: undef :: undef :: undef :: undef :: undef :: undef :: undef :: undef :: undef :: undef :: undef :: undef :: undef :: undef :: undef :: undef :: undef :: undef :: undef :: undef :: undef :: undef :: undef :: undef :: undef :: undef :: []) := ⟨_, rfl⟩
 have hr : zD Try.prog O false zu.code T S = zD Try.prog O false zu.code T S := rfl
 conv at hr =>
  rhs
  rw [hTe]
  simp only [zu.code, zSs, reduceIte, Nat.reduceEqDiff, Int.reduceEq, Int.reduceLT, Int.reduceLE, zu.r0, zu.r1, zu.r2, if_neg hk, qc hv]
 generalize hL : wS (zD Try.prog O false zu.jd) _ _ = r at hr
 obtain ⟨e, T', rfl, g3⟩ := zu.round hv hk hlen l [] 0 hL rfl rfl rfl rfl rfl rfl rfl (by simp) (by simp)
 simp only [List.length_nil] at g3
 unfold Vb
 cases hsc : scan 0 0 l with
 | none =>
  rw [hsc] at g3
  obtain ⟨rfl, hT'⟩ := g3
  obtain ⟨x0, x1, x2, x3, x4, x5, x6, x7, x8, x9, x10, x11, x12, x13, x14, x15, x16, x17, x18, x19, x20, x21, x22, x23, x24, x25, x26, x27, x28, x29, x30, x31, x32, x33, x34, x35, x36, x37, x38, x39, x40, x41, x42, x43, x44, x45, hTe'⟩ := zu.list hT'
  conv at hr =>
   rhs
   rw [hTe']
   simp only [zSs, reduceIte, Nat.reduceEqDiff, Int.reduceEq, Int.reduceLT, Int.reduceLE, zu.r10]
  rw [hTe] at hr
  exact zu.runs hr (.inr rfl) rfl rfl rfl
 | some mr =>
  obtain ⟨m, rest⟩ := mr
  rw [hsc] at g3
  obtain ⟨rfl, hm, h2, h3, h4⟩ := g3
  conv at hr =>
   rhs
   simp only [zSs, reduceIte, Nat.reduceEqDiff, Int.reduceEq, Int.reduceLT, Int.reduceLE]
  rw [hTe] at hr
  have hrun := zu.runs hr (.inr rfl) (by rw [h2]; rfl) (by rw [h3]; exact zQ) (by rw [h4]; rfl)
  rw [h2, h3, h4] at hrun
  exact hrun
theorem KF : ∀ (suf : List UInt8) (i acc : Nat), acc < 128 ^ i → i ≤ 9 → ∀ m rest, scan i acc suf = some (m, rest) → m < 2 ^ 64 ∧ rest.length < suf.length := by
 intro suf
 induction suf with
 | nil => intro i acc _ _ m rest h; cases h
 | cons x suf ih =>
  intro i acc hacc hi m rest h
  rw [scan] at h
  have hx256 := x.toNat_lt
  split at h
  ·
   cases h
  ·
   rename_i hs
   split at h
   ·
    rename_i hx
    cases h
    refine ⟨?_, by simp⟩
    by_cases h9 : i = 9
    ·
     subst h9
     have : x.toNat ≤ 1 := by omega
     have h1 : x.toNat * 128 ^ 9 ≤ 1 * 128 ^ 9 := Nat.mul_le_mul_right _ this
     have h2 : (128 : Nat) ^ 9 + 1 * 128 ^ 9 = 2 ^ 64 := by decide
     omega
    ·
     have h8 : 128 ^ (i + 1) ≤ 128 ^ 9 := Nat.pow_le_pow_right (by omega) (by omega)
     have h3 : acc + x.toNat * 128 ^ i < 128 ^ (i + 1) := by
      rw [Nat.pow_succ]
      have : x.toNat * 128 ^ i ≤ 127 * 128 ^ i := Nat.mul_le_mul_right _ (by omega)
      omega
     exact Nat.lt_of_lt_of_le h3 (Nat.le_trans h8 (by decide))
   ·
    rename_i hx
    have h9 : i ≠ 9 := by omega
    have hadd : acc + (x.toNat - 128) * 128 ^ i < 128 ^ (i + 1) := by
     rw [Nat.pow_succ]
     have : (x.toNat - 128) * 128 ^ i ≤ 127 * 128 ^ i := Nat.mul_le_mul_right _ (by omega)
     omega
    obtain ⟨h1, h2⟩ := ih (i + 1) _ hadd (by omega) m rest h
    exact ⟨h1, by simp; omega⟩
end Go.Proofs.Ytblpnklfimkfoaa
namespace Go.Proofs.Ytblpnklfimkfoaa
open Go.Abs
theorem ZY (n : Nat) : 0 < (enc n).length := by
 by_cases h : n < 128
 ·
  rw [qC h]; simp
 ·
  rw [Jz h]; simp
section
variable {k : Nat} {l : List UInt8} {S : zi}
end
end Go.Proofs.Ytblpnklfimkfoaa
namespace Go.Proofs.Ytblpnklfimkfoaa
open Go.Abs
def Wj (l : List UInt8) : List UInt8 := enc l.length ++ l
def ach (l : List UInt8) : Value := if 4096 < l.length then .tuple #[.slice none 0 0, .int .i64 11] else .tuple #[by_ 2 (Wj l), .int .i64 0]
def JY (l : List UInt8) : Option (List UInt8 × List UInt8) :=
 match scan 0 0 l with
 | some (m, rest) => if m ≤ 4096 ∧ m ≤ rest.length then some (rest.take m, rest.drop m) else none
 | none => none
def Xq (k : Nat) (l : List UInt8) : Value :=
 match JY l with
 | some (a, b) => .tuple #[by_ k a, by_ k b, .int .i64 0]
 | none => .tuple #[.slice none 0 0, .slice none 0 0, .int .i64 11]
section
variable {k : Nat} {l : List UInt8}
theorem jq.v (hv : Okl k l) (hk : k ≠ 2) (S : zi) : zV Try.prog O jq.id [by_ k l] S = some (ach l, S) := by
 obtain ⟨T, hTe⟩ : ∃ T, T = (by_ k l :: undef :: undef :: undef :: undef :: undef :: undef :: undef :: undef :: undef :: undef :: undef :: undef :: []) := ⟨_, rfl⟩
 have hr : zD Try.prog O false jq.code T S = zD Try.prog O false jq.code T S := rfl
 conv at hr =>
  rhs
  rw [hTe]
  simp only [jq.code, zSs, reduceIte, Nat.reduceEqDiff, Int.reduceEq, Int.reduceLT, Int.reduceLE, jq.r0, jq.r1, if_neg hk, qc hv, goInt]
 unfold ach
 by_cases hl : 4096 < l.length
 ·
  have hd : decide ((4096 : Int) < (l.length : Int)) = true := by rw [decide_eq_true_eq]; omega
  conv at hr =>
   rhs
   simp only [hd, zSs, reduceIte, Nat.reduceEqDiff, Int.reduceEq, Int.reduceLT, Int.reduceLE, jq.r2]
  rw [hTe] at hr
  rw [if_pos hl]
  exact jq.runs hr (.inr rfl) (by simp only [List.getD_cons_succ, List.getD_cons_zero, zQ, zL, zG, zI, zM]) (by simp only [List.getD_cons_succ, List.getD_cons_zero, zQ, zL, zG, zI, zM])
 ·
  have hd : decide ((4096 : Int) < (l.length : Int)) = false := by rw [decide_eq_false_iff_not]; omega
  have h10 := kV (n := l.length) (by omega)
  have hp := ZY l.length
  have e1 : ∀ S, jl Try.prog 26 26 (by_ 2 (enc l.length)) (by_ k l) S = some (by_ 2 (Wj l), S) := fun S => by
   rw [yu Okl.own (by decide) hv (by omega)]; rfl
  conv at hr =>
   rhs
   simp only [hd, zSs, reduceIte, Nat.reduceEqDiff, Int.reduceEq, Int.reduceLT, Int.reduceLE, jq.r3, if_neg hk, qc hv, goInt, yY, qB (show l.length < 2 ^ 64 by omega), zX.v _ (show l.length < 2 ^ 64 by omega), e1]
  rw [hTe] at hr
  rw [if_neg hl]
  exact jq.runs hr (.inr rfl) (by simp only [List.getD_cons_succ, List.getD_cons_zero, zQ, zL, zG, zI, zM]) (by simp only [List.getD_cons_succ, List.getD_cons_zero, zQ, zL, zG, zI, zM])
theorem zF.v (hv : Okl k l) (hk : k ≠ 2) (hlen : l.length ≤ 140737488355328) (S : zi) : zV Try.prog O zF.id [by_ k l] S = some (Xq 2 l, S) := by
 obtain ⟨T, hTe⟩ : ∃ T, T = (by_ k l :: undef :: undef :: undef :: undef :: undef :: undef :: undef :: undef :: undef :: undef :: undef :: undef :: undef :: undef :: undef :: undef :: undef :: undef :: undef :: undef :: undef :: undef :: undef :: undef :: undef :: undef :: undef :: undef :: undef :: undef :: undef :: undef :: undef :: undef :: []) := ⟨_, rfl⟩
 have hr : zD Try.prog O false zF.code T S = zD Try.prog O false zF.code T S := rfl
 have e1 : ∀ S, zV Try.prog O 42 [by_ k l] S = some (Vb l, S) := zu.v hv hk hlen
 conv at hr =>
  rhs
  rw [hTe]
  simp only [zF.code, zSs, reduceIte, Nat.reduceEqDiff, Int.reduceEq, Int.reduceLT, Int.reduceLE, zF.r0, zF.r1, if_neg hk, e1]
 unfold Xq JY
 unfold Vb at hr
 cases hsc : scan 0 0 l with
 | none =>
  rw [hsc] at hr
  have d1 : decide ((11 : Int) = 0) = false := by decide
  conv at hr =>
   rhs
   simp only [zSs, reduceIte, Nat.reduceEqDiff, Int.reduceEq, Int.reduceLT, Int.reduceLE, zF.r2, d1, zF.r3]
  rw [hTe] at hr
  exact zF.runs hr (.inr rfl) (by simp only [List.getD_cons_succ, List.getD_cons_zero, zQ, zL, zG, zI, zM]) (by simp only [List.getD_cons_succ, List.getD_cons_zero, zQ, zL, zG, zI, zM]) (by simp only [List.getD_cons_succ, List.getD_cons_zero, zQ, zL, zG, zI, zM])
 | some mr =>
  obtain ⟨m, rest⟩ := mr
  obtain ⟨hm, hrl⟩ := KF l 0 0 (by decide) (by omega) m rest hsc
  rw [hsc] at hr
  have d1 : decide ((0 : Int) = 0) = true := by decide
  dsimp only
  by_cases h1 : m ≤ 4096
  ·
   have d2 : decide ((4096 : Int) < (m : Int)) = false := by rw [decide_eq_false_iff_not]; omega
   by_cases h2 : m ≤ rest.length
   ·
    have d3 : decide ((rest.length : Int) < (m : Int)) = false := by rw [decide_eq_false_iff_not]; omega
    have s1 : ∀ S, yA Try.prog 26 (by_ 1 rest) none (some (.int .u64 m)) S = some (by_ 1 (rest.take m), S) := fun S => by
     rw [vK Okl.read (lo := none) (hi := some (.int .u64 m)) (i := 0) (j := m) rfl rfl (by omega) (by omega) (by omega)]; simp
    have s2 : ∀ S, yA Try.prog 26 (by_ 1 rest) (some (.int .u64 m)) none S = some (by_ 1 (rest.drop m), S) := fun S => by
     rw [vK Okl.read (lo := some (.int .u64 m)) (hi := none) (i := m) (j := rest.length) rfl rfl (by omega) (by omega) (by omega)]
     simp only [Int.toNat_natCast]
     rw [List.take_of_length_le (by simp)]; rfl
    have c1 : ∀ S, zV Try.prog O 43 [by_ 1 (rest.take m)] S = some (by_ 2 (rest.take m), S) := fun S => slices_Clone.v Okl.read (by decide) (by simp; omega) S
    have c2 : ∀ S, zV Try.prog O 43 [by_ 1 (rest.drop m)] S = some (by_ 2 (rest.drop m), S) := fun S => slices_Clone.v Okl.read (by decide) (by simp; omega) S
    conv at hr =>
     rhs
     simp only [zSs, reduceIte, Nat.reduceEqDiff, Int.reduceEq, Int.reduceLT, Int.reduceLE, zF.r2, d1, d2, qc (Okl.read), goInt, yY, qB (show rest.length < 2 ^ 64 by omega), d3, zF.r4, s1, s2, c1, c2]
    rw [hTe] at hr
    rw [if_pos ⟨h1, h2⟩]
    exact zF.runs hr (.inr rfl) (by simp only [List.getD_cons_succ, List.getD_cons_zero, zQ, zL, zG, zI, zM]) (by simp only [List.getD_cons_succ, List.getD_cons_zero, zQ, zL, zG, zI, zM]) (by simp only [List.getD_cons_succ, List.getD_cons_zero, zQ, zL, zG, zI, zM])
   ·
    have d3 : decide ((rest.length : Int) < (m : Int)) = true := by rw [decide_eq_true_eq]; omega
    conv at hr =>
     rhs
     simp only [zSs, reduceIte, Nat.reduceEqDiff, Int.reduceEq, Int.reduceLT, Int.reduceLE, zF.r2, d1, d2, qc (Okl.read), goInt, yY, qB (show rest.length < 2 ^ 64 by omega), d3, zF.r3]
    rw [hTe] at hr
    rw [if_neg (fun h => h2 h.2)]
    exact zF.runs hr (.inr rfl) (by simp only [List.getD_cons_succ, List.getD_cons_zero, zQ, zL, zG, zI, zM]) (by simp only [List.getD_cons_succ, List.getD_cons_zero, zQ, zL, zG, zI, zM]) (by simp only [List.getD_cons_succ, List.getD_cons_zero, zQ, zL, zG, zI, zM])
  ·
   have d2 : decide ((4096 : Int) < (m : Int)) = true := by rw [decide_eq_true_eq]; omega
   conv at hr =>
    rhs
    simp only [zSs, reduceIte, Nat.reduceEqDiff, Int.reduceEq, Int.reduceLT, Int.reduceLE, zF.r2, d1, d2, zF.r3]
   rw [hTe] at hr
   rw [if_neg (fun h => h1 h.1)]
   exact zF.runs hr (.inr rfl) (by simp only [List.getD_cons_succ, List.getD_cons_zero, zQ, zL, zG, zI, zM]) (by simp only [List.getD_cons_succ, List.getD_cons_zero, zQ, zL, zG, zI, zM]) (by simp only [List.getD_cons_succ, List.getD_cons_zero, zQ, zL, zG, zI, zM])
end
end Go.Proofs.Ytblpnklfimkfoaa
namespace Go.Proofs.Ytblpnklfimkfoaa
open Go.Abs
theorem Jh {n : Nat} (h : n < 256) : (UInt8.ofNat n).toNat = n := by rw [UInt8.toNat_ofNat']; omega
theorem KL : ∀ (n i acc : Nat) (r : List UInt8), i ≤ 9 → (0 < i → 0 < n) → n * 128 ^ i < 2 ^ 64 → scan i acc (enc n ++ r) = some (acc + n * 128 ^ i, r) := by
 intro n
 induction n using Nat.strongRecOn with
 | _ n ih =>
  intro i acc r hi hn hlt
  have h9 : i = 9 → n ≤ 1 := by
   intro h; subst h
   have : (128 : Nat) ^ 9 = 2 ^ 63 := by decide
   omega
  by_cases hs : n < 128
  ·
   rw [qC hs, List.singleton_append, scan, Jh (by omega), if_neg (by rintro (⟨h1, h2⟩ | ⟨h1, h2⟩); exact absurd (h9 h1) (by omega); exact absurd (hn h1) (by omega)), if_pos hs]
  ·
   rw [Jz hs, List.cons_append, scan, Jh (by omega)]
   have hi9 : i ≠ 9 := fun h => by have := h9 h; omega
   rw [if_neg (by rintro (⟨h1, h2⟩ | ⟨h1, h2⟩); exact hi9 h1; omega), if_neg (by omega)]
   have hmul : n / 128 * 128 ^ (i + 1) ≤ n * 128 ^ i := by
    rw [Nat.pow_succ, ← Nat.mul_assoc, Nat.mul_right_comm]
    exact Nat.mul_le_mul_right _ (by omega)
   rw [ih (n / 128) (by omega) (i + 1) _ r (by omega) (fun _ => by omega) (Nat.lt_of_le_of_lt hmul hlt)]
   congr 2
   have : n = n % 128 + n / 128 * 128 := by omega
   have e1 : (n % 128 + 128 - 128) * 128 ^ i + n / 128 * 128 ^ (i + 1) = n * 128 ^ i := by
    rw [Nat.pow_succ]
    conv => rhs; rw [this, Nat.add_mul]
    rw [Nat.add_sub_cancel, Nat.mul_comm (128 ^ i) 128, ← Nat.mul_assoc]
   omega
theorem Xg {n : Nat} (h : n < 2 ^ 64) (r : List UInt8) : scan 0 0 (enc n ++ r) = some (n, r) := by
 rw [KL n 0 0 r (by omega) (by omega) (by simpa using h)]; simp
theorem Qd : ∀ (l : List UInt8) (i acc m : Nat) (r : List UInt8), scan i acc l = some (m, r) → ∃ n, l = enc n ++ r ∧ m = acc + n * 128 ^ i ∧ (0 < i → 0 < n) := by
 intro l
 induction l with
 | nil => intro i acc m r h; cases h
 | cons x l ih =>
  intro i acc m r h
  rw [scan] at h
  have hx := x.toNat_lt
  split at h
  ·
   cases h
  ·
   rename_i hs
   split at h
   ·
    rename_i hx2
    cases h
    refine ⟨x.toNat, ?_, rfl, fun hi => by omega⟩
    rw [qC hx2]; simp
   ·
    rename_i hx2
    obtain ⟨n, h1, h2, h3⟩ := ih _ _ _ _ h
    refine ⟨x.toNat - 128 + n * 128, ?_, ?_, fun _ => ?_⟩
    ·
     have hn := h3 (by omega)
     rw [Jz (by omega), show (x.toNat - 128 + n * 128) / 128 = n by omega, show (x.toNat - 128 + n * 128) % 128 + 128 = x.toNat by omega, h1]
     simp
    ·
     rw [h2, Nat.pow_succ, Nat.add_mul]
     rw [Nat.mul_comm (128 ^ i) 128, ← Nat.mul_assoc]; omega
    ·
     have := h3 (by omega); omega
theorem Y1 {l r : List UInt8} {m : Nat} (h : scan 0 0 l = some (m, r)) : l = enc m ++ r ∧ m < 2 ^ 64 := by
 obtain ⟨n, h1, h2, _⟩ := Qd l 0 0 m r h
 have : m = n := by simpa using h2
 subst this
 exact ⟨h1, (KF l 0 0 (by decide) (by omega) m r h).1⟩
end Go.Proofs.Ytblpnklfimkfoaa
namespace Go.Proofs.Ytblpnklfimkfoaa
open Go.Abs
theorem wY {l r : List UInt8} (h : l.length ≤ 4096) : JY (Wj l ++ r) = some (l, r) := by
 unfold JY Wj
 rw [List.append_assoc, Xg (by omega)]
 dsimp only
 rw [if_pos ⟨h, by simp⟩]
 simp
theorem Wl {l a b : List UInt8} (h : JY l = some (a, b)) : l = Wj a ++ b ∧ a.length ≤ 4096 := by
 unfold JY at h
 cases hs : scan 0 0 l with
 | none => rw [hs] at h; cases h
 | some mr =>
  obtain ⟨m, rest⟩ := mr
  rw [hs] at h
  dsimp only at h
  split at h
  ·
   rename_i hc
   cases h
   obtain ⟨h1, h2⟩ := Y1 hs
   have hl : (rest.take m).length = m := by simp; omega
   refine ⟨?_, by omega⟩
   unfold Wj
   rw [hl, List.append_assoc, List.take_append_drop]
   exact h1
  ·
   cases h
end Go.Proofs.Ytblpnklfimkfoaa
namespace Go.Proofs.Ytblpnklfimkfoaa
open Go.Abs
abbrev zn.id : FuncId := 44
noncomputable def zn.jd : Code := (Code.seq (Code.region 6 (reg Try.f44 6) false) (Code.seq (Code.cond (Operand.tmp 22) Code.skip (Code.exit 0)) (Code.seq (Code.block 1 (Code.seq (Code.region 7 (reg Try.f44 7) false) (Code.seq (Code.seq (Code.region 8 (reg Try.f44 8) false) (Code.cond (Operand.tmp 34) (Code.seq (Code.region 9 (reg Try.f44 9) false) Code.ret) Code.skip)) (Code.seq (Code.region 10 (reg Try.f44 10) false) (Code.region 11 (reg Try.f44 11) false))))) (Code.region 12 (reg Try.f44 12) false))))
noncomputable def zn.code : Code := (Code.seq (Code.region 0 (reg Try.f44 0) false) (Code.seq (Code.seq (Code.region 1 (reg Try.f44 1) false) (Code.cond (Operand.tmp 17) (Code.seq (Code.region 2 (reg Try.f44 2) false) Code.ret) Code.skip)) (Code.seq (Code.region 3 (reg Try.f44 3) false) (Code.seq (Code.region 4 (reg Try.f44 4) false) (Code.seq (Code.seq (Code.region 5 (reg Try.f44 5) false) (Code.block 0 (Code.loop zn.jd))) (Code.seq (Code.region 13 (reg Try.f44 13) false) Code.ret))))))
theorem zn.body : Try.f44.body = some zn.code := by kernel_rfl
theorem zn.eta {T : List Value} (h : T.length = 45) : T = [T.getD 0 undef,T.getD 1 undef,T.getD 2 undef,T.getD 3 undef,T.getD 4 undef,T.getD 5 undef,T.getD 6 undef,T.getD 7 undef,T.getD 8 undef,T.getD 9 undef,T.getD 10 undef,T.getD 11 undef,T.getD 12 undef,T.getD 13 undef,T.getD 14 undef,T.getD 15 undef,T.getD 16 undef,T.getD 17 undef,T.getD 18 undef,T.getD 19 undef,T.getD 20 undef,T.getD 21 undef,T.getD 22 undef,T.getD 23 undef,T.getD 24 undef,T.getD 25 undef,T.getD 26 undef,T.getD 27 undef,T.getD 28 undef,T.getD 29 undef,T.getD 30 undef,T.getD 31 undef,T.getD 32 undef,T.getD 33 undef,T.getD 34 undef,T.getD 35 undef,T.getD 36 undef,T.getD 37 undef,T.getD 38 undef,T.getD 39 undef,T.getD 40 undef,T.getD 41 undef,T.getD 42 undef,T.getD 43 undef,T.getD 44 undef] := (yI T 45 h).trans (by kernel_rfl)
variable (P N V W X Y Z Q R U b a f g i k l m n o c d p q r s t u w x y z A B C D E F G H I J K L M : Value) (S : zi)
theorem zn.r0  : je Try.prog ⟨false, false, false⟩ (zV Try.prog O) (reg Try.f44 0) (reg Try.f44 0).toList ([P,N,V,W,X,Y,Z,Q,R,U,b,a,f,g,i,k,l,m,n,o,c,d,p,q,r,s,t,u,w,x,y,z,A,B,C,D,E,F,G,H,I,J,K,L,M]) S =
  ( some ([P,N,V,W,Value.slice none 0 0,Value.slice none 0 0,Value.int IntKind.i64 0,Q,R,U,b,a,f,g,i,k,l,m,n,o,c,d,p,q,r,s,t,u,w,x,y,z,A,B,C,D,E,F,G,H,I,J,K,L,M], S)) := by
 kernel_rfl
theorem zn.r1  : je Try.prog ⟨false, false, false⟩ (zV Try.prog O) (reg Try.f44 1) (reg Try.f44 1).toList ([P,N,V,W,X,Y,Z,Q,R,U,b,a,f,g,i,k,l,m,n,o,c,d,p,q,r,s,t,u,w,x,y,z,A,B,C,D,E,F,G,H,I,J,K,L,M]) S =
  (zO (jM Try.prog BinOp.lss 3 (dem N) (Value.int IntKind.i64 0) S) (fun v1 S1 => gdK (dem v1) false (ret N) S1 (fun v3 S2 => gdK (dem v1) false (jM Try.prog BinOp.gtr 3 (dem v3) (Value.int IntKind.i64 64)) S2 (fun v4 S3 => zO (qg (dem v1) (Value.bool true) v4 S3) (fun v5 S4 => some ([P,N,V,W,X,Y,Z,Q,R,U,b,a,dem N,v1,dem v1,dem v3,v4,v5,n,o,c,d,p,q,r,s,t,u,w,x,y,z,A,B,C,D,E,F,G,H,I,J,K,L,M], S4)) ()) ()) ()) ()) := by
 refine sP Try.f44 1 0 (v := N) ?_
 refine sD Try.f44 1 1 (fun v1 S1 => ?_)
 refine sP Try.f44 1 2 (v := v1) ?_
 refine sG Try.f44 1 3 (j := 2) (fun v3 S2 => ?_)
 refine sG Try.f44 1 4 (j := 2) (fun v4 S3 => ?_)
 refine sD Try.f44 1 5 (fun v5 S4 => ?_)
 kernel_rfl
theorem zn.r2  : je Try.prog ⟨false, false, false⟩ (zV Try.prog O) (reg Try.f44 2) (reg Try.f44 2).toList ([P,N,V,W,X,Y,Z,Q,R,U,b,a,f,g,i,k,l,m,n,o,c,d,p,q,r,s,t,u,w,x,y,z,A,B,C,D,E,F,G,H,I,J,K,L,M]) S =
  ( some ([P,N,V,W,Value.slice none 0 0,Value.slice none 0 0,Value.int IntKind.i64 11,Q,R,U,b,a,f,g,i,k,l,m,n,o,c,d,p,q,r,s,t,u,w,x,y,z,A,B,C,D,E,F,G,H,I,J,K,L,M], S)) := by
 kernel_rfl
theorem zn.r3  : je Try.prog ⟨false, false, false⟩ (zV Try.prog O) (reg Try.f44 3) (reg Try.f44 3).toList ([P,N,V,W,X,Y,Z,Q,R,U,b,a,f,g,i,k,l,m,n,o,c,d,p,q,r,s,t,u,w,x,y,z,A,B,C,D,E,F,G,H,I,J,K,L,M]) S =
  (zO ((zV Try.prog O) 43 [(dem (dem P))] S) (fun v1 S1 => some ([P,N,V,W,X,Y,Z,v1,R,U,b,a,f,g,i,k,l,m,dem P,dem v1,c,d,p,q,r,s,t,u,w,x,y,z,A,B,C,D,E,F,G,H,I,J,K,L,M], S1)) ()) := by
 kernel_rfl
theorem zn.r4  : je Try.prog ⟨false, false, false⟩ (zV Try.prog O) (reg Try.f44 4) (reg Try.f44 4).toList ([P,N,V,W,X,Y,Z,Q,R,U,b,a,f,g,i,k,l,m,n,o,c,d,p,q,r,s,t,u,w,x,y,z,A,B,C,D,E,F,G,H,I,J,K,L,M]) S =
  ( some ([P,N,V,W,X,Y,Z,Q,Value.slice none 0 0,U,b,a,f,g,i,k,l,m,n,o,c,d,p,q,r,s,t,u,w,x,y,z,A,B,C,D,E,F,G,H,I,J,K,L,M], S)) := by
 kernel_rfl
theorem zn.r5  : je Try.prog ⟨false, false, false⟩ (zV Try.prog O) (reg Try.f44 5) (reg Try.f44 5).toList ([P,N,V,W,X,Y,Z,Q,R,U,b,a,f,g,i,k,l,m,n,o,c,d,p,q,r,s,t,u,w,x,y,z,A,B,C,D,E,F,G,H,I,J,K,L,M]) S =
  ( some ([P,N,V,W,X,Y,Z,Q,R,U,b,a,f,g,i,k,l,m,n,o,dem N,Value.int IntKind.i64 0,p,q,r,s,t,u,w,x,y,z,A,B,C,D,E,F,G,H,I,J,K,L,M], S)) := by
 kernel_rfl
theorem zn.r6  : je Try.prog ⟨false, false, false⟩ (zV Try.prog O) (reg Try.f44 6) (reg Try.f44 6).toList ([P,N,V,W,X,Y,Z,Q,R,U,b,a,f,g,i,k,l,m,n,o,c,d,p,q,r,s,t,u,w,x,y,z,A,B,C,D,E,F,G,H,I,J,K,L,M]) S =
  (zO (jM Try.prog BinOp.lss 3 d c S) (fun v0 S1 => some ([P,N,V,W,X,Y,Z,Q,R,U,b,a,f,g,i,k,l,m,n,o,c,d,v0,q,r,s,t,u,w,x,y,z,A,B,C,D,E,F,G,H,I,J,K,L,M], S1)) ()) := by
 kernel_rfl
theorem zn.r7  : je Try.prog ⟨false, false, false⟩ (zV Try.prog O) (reg Try.f44 7) (reg Try.f44 7).toList ([P,N,V,W,X,Y,Z,Q,R,U,b,a,f,g,i,k,l,m,n,o,c,d,p,q,r,s,t,u,w,x,y,z,A,B,C,D,E,F,G,H,I,J,K,L,M]) S =
  (zO ((zV Try.prog O) 42 [(dem (dem Q))] S) (fun v1 S1 => zO (zC v1 0 S1) (fun v3 S2 => zO (zC (zK 0 v1) 1 S2) (fun v4 S3 => zO (zC (zK 1 (zK 0 v1)) 2 S3) (fun v5 S4 => some ([P,N,V,W,X,Y,Z,Q,R,v3,v4,v5,f,g,i,k,l,m,n,o,c,d,p,zK 2 (zK 1 (zK 0 v1)),dem Q,dem v1,dem v3,dem v4,dem v5,x,y,z,A,B,C,D,E,F,G,H,I,J,K,L,M], S4)) ()) ()) ()) ()) := by
 kernel_rfl
theorem zn.r8  : je Try.prog ⟨false, false, false⟩ (zV Try.prog O) (reg Try.f44 8) (reg Try.f44 8).toList ([P,N,V,W,X,Y,Z,Q,R,U,b,a,f,g,i,k,l,m,n,o,c,d,p,q,r,s,t,u,w,x,y,z,A,B,C,D,E,F,G,H,I,J,K,L,M]) S =
  (zO (jM Try.prog BinOp.neq 29 (dem a) (Value.int IntKind.i64 0) S) (fun v1 S1 => gdK (dem v1) false (ret U) S1 (fun v3 S2 => gdK (dem v1) false (jM Try.prog BinOp.gtr 75 (dem v3) (Value.int IntKind.u64 4611686018427387905)) S2 (fun v4 S3 => zO (qg (dem v1) (Value.bool true) v4 S3) (fun v5 S4 => some ([P,N,V,W,X,Y,Z,Q,R,U,b,a,f,g,i,k,l,m,n,o,c,d,p,q,r,s,t,u,w,dem a,v1,dem v1,dem v3,v4,v5,D,E,F,G,H,I,J,K,L,M], S4)) ()) ()) ()) ()) := by
 refine sP Try.f44 8 0 (v := a) ?_
 refine sD Try.f44 8 1 (fun v1 S1 => ?_)
 refine sP Try.f44 8 2 (v := v1) ?_
 refine sG Try.f44 8 3 (j := 2) (fun v3 S2 => ?_)
 refine sG Try.f44 8 4 (j := 2) (fun v4 S3 => ?_)
 refine sD Try.f44 8 5 (fun v5 S4 => ?_)
 kernel_rfl
theorem zn.r9  : je Try.prog ⟨false, false, false⟩ (zV Try.prog O) (reg Try.f44 9) (reg Try.f44 9).toList ([P,N,V,W,X,Y,Z,Q,R,U,b,a,f,g,i,k,l,m,n,o,c,d,p,q,r,s,t,u,w,x,y,z,A,B,C,D,E,F,G,H,I,J,K,L,M]) S =
  ( some ([P,N,V,W,Value.slice none 0 0,Value.slice none 0 0,Value.int IntKind.i64 11,Q,R,U,b,a,f,g,i,k,l,m,n,o,c,d,p,q,r,s,t,u,w,x,y,z,A,B,C,D,E,F,G,H,I,J,K,L,M], S)) := by
 kernel_rfl
theorem zn.r10  : je Try.prog ⟨false, false, false⟩ (zV Try.prog O) (reg Try.f44 10) (reg Try.f44 10).toList ([P,N,V,W,X,Y,Z,Q,R,U,b,a,f,g,i,k,l,m,n,o,c,d,p,q,r,s,t,u,w,x,y,z,A,B,C,D,E,F,G,H,I,J,K,L,M]) S =
  (zO (jO Try.prog false false 75 3 (dem U) S) (fun v2 S1 => zO (jM Try.prog BinOp.sub 3 v2 (Value.int IntKind.i64 1) S1) (fun v3 S2 => zO (zW Try.prog 56 1 [(0, v3)] S2) (fun v4 S3 => zO (jl Try.prog 56 56 R v4 S3) (fun v5 S4 => some ([P,N,V,W,X,Y,Z,Q,v5,U,b,a,f,g,i,k,l,m,n,o,c,d,p,q,r,s,t,u,w,x,y,z,A,B,C,dem R,dem U,v2,v3,v4,dem v5,J,K,L,M], S4)) ()) ()) ()) ()) := by
 kernel_rfl
theorem zn.r11  : je Try.prog ⟨false, false, false⟩ (zV Try.prog O) (reg Try.f44 11) (reg Try.f44 11).toList ([P,N,V,W,X,Y,Z,Q,R,U,b,a,f,g,i,k,l,m,n,o,c,d,p,q,r,s,t,u,w,x,y,z,A,B,C,D,E,F,G,H,I,J,K,L,M]) S =
  ( some ([P,N,V,W,X,Y,Z,b,R,U,dem b,a,f,g,i,k,l,m,n,o,c,d,p,q,r,s,t,u,w,x,y,z,A,B,C,D,E,F,G,H,I,dem b,K,L,M], S)) := by
 kernel_rfl
theorem zn.r12  : je Try.prog ⟨false, false, false⟩ (zV Try.prog O) (reg Try.f44 12) (reg Try.f44 12).toList ([P,N,V,W,X,Y,Z,Q,R,U,b,a,f,g,i,k,l,m,n,o,c,d,p,q,r,s,t,u,w,x,y,z,A,B,C,D,E,F,G,H,I,J,K,L,M]) S =
  (zO (jM Try.prog BinOp.add 3 d (Value.int IntKind.i64 1) S) (fun v0 S1 => some ([P,N,V,W,X,Y,Z,Q,R,U,b,a,f,g,i,k,l,m,n,o,c,dem v0,p,q,r,s,t,u,w,x,y,z,A,B,C,D,E,F,G,H,I,J,v0,L,M], S1)) ()) := by
 kernel_rfl
theorem zn.r13  : je Try.prog ⟨false, false, false⟩ (zV Try.prog O) (reg Try.f44 13) (reg Try.f44 13).toList ([P,N,V,W,X,Y,Z,Q,R,U,b,a,f,g,i,k,l,m,n,o,c,d,p,q,r,s,t,u,w,x,y,z,A,B,C,D,E,F,G,H,I,J,K,L,M]) S =
  ( some ([P,N,V,W,R,Q,Value.int IntKind.i64 0,dem Q,dem R,U,b,a,f,g,i,k,l,m,n,o,c,d,p,q,r,s,t,u,w,x,y,z,A,B,C,D,E,F,G,H,I,J,K,dem R,dem Q], S)) := by
 kernel_rfl
theorem zn.rs : type_of% (And.intro @zn.r0 (And.intro @zn.r1 (And.intro @zn.r2 (And.intro @zn.r3 (And.intro @zn.r4 (And.intro @zn.r5 (And.intro @zn.r6 (And.intro @zn.r7 (And.intro @zn.r8 (And.intro @zn.r9 (And.intro @zn.r10 (And.intro @zn.r11 (And.intro @zn.r12 (@zn.r13)))))))))))))) := And.intro @zn.r0 (And.intro @zn.r1 (And.intro @zn.r2 (And.intro @zn.r3 (And.intro @zn.r4 (And.intro @zn.r5 (And.intro @zn.r6 (And.intro @zn.r7 (And.intro @zn.r8 (And.intro @zn.r9 (And.intro @zn.r10 (And.intro @zn.r11 (And.intro @zn.r12 (@zn.r13)))))))))))))
theorem zn.runs {P N : Value} {S S1 : zi} {e : AEx} {T : List Value} (h : zD Try.prog O false zn.code ([P,N,undef,undef,undef,undef,undef,undef,undef,undef,undef,undef,undef,undef,undef,undef,undef,undef,undef,undef,undef,undef,undef,undef,undef,undef,undef,undef,undef,undef,undef,undef,undef,undef,undef,undef,undef,undef,undef,undef,undef,undef,undef,undef,undef]) S = some (e, T, S1)) (he : e = .normal ∨ e = .ret)  (h0 : jg (T.getD 4 undef) = true) (h1 : jg (T.getD 5 undef) = true) (h2 : jg (T.getD 6 undef) = true) : zV Try.prog O 44 [P, N] S = some (Value.tuple #[T.getD 4 undef, T.getD 5 undef, T.getD 6 undef], S1) :=
 wU rfl rfl Try.func44 (by decide) zn.body (by exact h) he ((yK ((show zN Try.prog T S1 Try.f44.results.toList = zN Try.prog T S1 [(ResultVar.tmp 4), (ResultVar.tmp 5), (ResultVar.tmp 6)] from by kernel_rfl).trans (by simp only [zN])) (by kernel_rfl) (by simp only [List.all_cons, List.all_nil, h0, h1, h2, Bool.and_true])).trans rfl)
end Go.Proofs.Ytblpnklfimkfoaa
namespace Go.Proofs.Ytblpnklfimkfoaa
open Go.Abs
abbrev zA.id : FuncId := 32
noncomputable def zA.jd : Code := (Code.seq (Code.region 5 (reg Try.f32 5) false) (Code.seq (Code.cond (Operand.tmp 13) Code.skip (Code.exit 0)) (Code.seq (Code.block 1 (Code.seq (Code.region 6 (reg Try.f32 6) false) (Code.seq (Code.seq (Code.region 7 (reg Try.f32 7) false) (Code.cond (Operand.tmp 17) (Code.seq (Code.region 8 (reg Try.f32 8) false) Code.ret) Code.skip)) (Code.region 9 (reg Try.f32 9) false)))) (Code.region 10 (reg Try.f32 10) false))))
noncomputable def zA.code : Code := (Code.seq (Code.region 0 (reg Try.f32 0) false) (Code.seq (Code.seq (Code.region 1 (reg Try.f32 1) false) (Code.cond (Operand.tmp 9) (Code.seq (Code.region 2 (reg Try.f32 2) false) Code.ret) Code.skip)) (Code.seq (Code.region 3 (reg Try.f32 3) false) (Code.seq (Code.seq (Code.region 4 (reg Try.f32 4) false) (Code.block 0 (Code.loop zA.jd))) (Code.seq (Code.region 11 (reg Try.f32 11) false) Code.ret)))))
theorem zA.body : Try.f32.body = some zA.code := by kernel_rfl
theorem zA.eta {T : List Value} (h : T.length = 26) : T = [T.getD 0 undef,T.getD 1 undef,T.getD 2 undef,T.getD 3 undef,T.getD 4 undef,T.getD 5 undef,T.getD 6 undef,T.getD 7 undef,T.getD 8 undef,T.getD 9 undef,T.getD 10 undef,T.getD 11 undef,T.getD 12 undef,T.getD 13 undef,T.getD 14 undef,T.getD 15 undef,T.getD 16 undef,T.getD 17 undef,T.getD 18 undef,T.getD 19 undef,T.getD 20 undef,T.getD 21 undef,T.getD 22 undef,T.getD 23 undef,T.getD 24 undef,T.getD 25 undef] := (yI T 26 h).trans (by kernel_rfl)
variable (s v A B u w t x y z b c a d f g i j k l m n o p q r : Value) (S : zi)
theorem zA.r0  : je Try.prog ⟨false, false, false⟩ (zV Try.prog O) (reg Try.f32 0) (reg Try.f32 0).toList ([s,v,A,B,u,w,t,x,y,z,b,c,a,d,f,g,i,j,k,l,m,n,o,p,q,r]) S =
  ( some ([s,v,Value.slice none 0 0,Value.int IntKind.i64 0,u,w,t,x,y,z,b,c,a,d,f,g,i,j,k,l,m,n,o,p,q,r], S)) := by
 kernel_rfl
theorem zA.r1  : je Try.prog ⟨false, false, false⟩ (zV Try.prog O) (reg Try.f32 1) (reg Try.f32 1).toList ([s,v,A,B,u,w,t,x,y,z,b,c,a,d,f,g,i,j,k,l,m,n,o,p,q,r]) S =
  (zO (qA Try.prog 56 (dem s) S) (fun D C => zO (jM Try.prog BinOp.gtr 3 D (Value.int IntKind.i64 64) C) (fun G F => some ([s,v,A,B,u,w,t,dem s,D,G,b,c,a,d,f,g,i,j,k,l,m,n,o,p,q,r], F)) ()) ()) := by
 kernel_rfl
theorem zA.r2  : je Try.prog ⟨false, false, false⟩ (zV Try.prog O) (reg Try.f32 2) (reg Try.f32 2).toList ([s,v,A,B,u,w,t,x,y,z,b,c,a,d,f,g,i,j,k,l,m,n,o,p,q,r]) S =
  ( some ([s,v,Value.slice none 0 0,Value.int IntKind.i64 11,u,w,t,x,y,z,b,c,a,d,f,g,i,j,k,l,m,n,o,p,q,r], S)) := by
 kernel_rfl
theorem zA.r3  : je Try.prog ⟨false, false, false⟩ (zV Try.prog O) (reg Try.f32 3) (reg Try.f32 3).toList ([s,v,A,B,u,w,t,x,y,z,b,c,a,d,f,g,i,j,k,l,m,n,o,p,q,r]) S =
  ( some ([s,v,A,B,Value.slice none 0 0,w,t,x,y,z,b,c,a,d,f,g,i,j,k,l,m,n,o,p,q,r], S)) := by
 kernel_rfl
theorem zA.r4  : je Try.prog ⟨false, false, false⟩ (zV Try.prog O) (reg Try.f32 4) (reg Try.f32 4).toList ([s,v,A,B,u,w,t,x,y,z,b,c,a,d,f,g,i,j,k,l,m,n,o,p,q,r]) S =
  (zO (qA Try.prog 56 (dem s) S) (fun D C => some ([s,v,A,B,u,w,t,x,y,z,dem s,D,Value.int IntKind.i64 0,d,f,g,i,j,k,l,m,n,o,p,q,r], C)) ()) := by
 kernel_rfl
theorem zA.r5  : je Try.prog ⟨false, false, false⟩ (zV Try.prog O) (reg Try.f32 5) (reg Try.f32 5).toList ([s,v,A,B,u,w,t,x,y,z,b,c,a,d,f,g,i,j,k,l,m,n,o,p,q,r]) S =
  (zO (jM Try.prog BinOp.lss 3 a c S) (fun E C => some ([s,v,A,B,u,w,t,x,y,z,b,c,a,E,f,g,i,j,k,l,m,n,o,p,q,r], C)) ()) := by
 kernel_rfl
theorem zA.r6  : je Try.prog ⟨false, false, false⟩ (zV Try.prog O) (reg Try.f32 6) (reg Try.f32 6).toList ([s,v,A,B,u,w,t,x,y,z,b,c,a,d,f,g,i,j,k,l,m,n,o,p,q,r]) S =
  (zO (zZ Try.prog 56 b a S) (fun E C => zO (ji Try.prog false 3 E C) (fun D F => some ([s,v,A,B,u,w,D,x,y,z,b,c,a,d,E,dem D,i,j,k,l,m,n,o,p,q,r], F)) ()) ()) := by
 kernel_rfl
theorem zA.r7  : je Try.prog ⟨false, false, false⟩ (zV Try.prog O) (reg Try.f32 7) (reg Try.f32 7).toList ([s,v,A,B,u,w,t,x,y,z,b,c,a,d,f,g,i,j,k,l,m,n,o,p,q,r]) S =
  (zO (jM Try.prog BinOp.lss 3 (dem t) (Value.int IntKind.i64 (-1)) S) (fun D C => some ([s,v,A,B,u,w,t,x,y,z,b,c,a,d,f,g,dem t,D,k,l,m,n,o,p,q,r], C)) ()) := by
 kernel_rfl
theorem zA.r8  : je Try.prog ⟨false, false, false⟩ (zV Try.prog O) (reg Try.f32 8) (reg Try.f32 8).toList ([s,v,A,B,u,w,t,x,y,z,b,c,a,d,f,g,i,j,k,l,m,n,o,p,q,r]) S =
  ( some ([s,v,Value.slice none 0 0,Value.int IntKind.i64 11,u,w,t,x,y,z,b,c,a,d,f,g,i,j,k,l,m,n,o,p,q,r], S)) := by
 kernel_rfl
theorem zA.r9  : je Try.prog ⟨false, false, false⟩ (zV Try.prog O) (reg Try.f32 9) (reg Try.f32 9).toList ([s,v,A,B,u,w,t,x,y,z,b,c,a,d,f,g,i,j,k,l,m,n,o,p,q,r]) S =
  (zO (jO Try.prog false false 3 75 (dem t) S) (fun G C => zO (jM Try.prog BinOp.add 75 G (Value.int IntKind.u64 1) C) (fun H F => zO ((zV Try.prog O) 45 [(dem H)] F) (fun I K => zO (jl Try.prog 26 26 u I K) (fun J L => some ([s,v,A,B,J,w,t,x,y,z,b,c,a,d,f,g,i,j,dem u,dem t,G,H,I,dem J,q,r], L)) ()) ()) ()) ()) := by
 kernel_rfl
theorem zA.r10  : je Try.prog ⟨false, false, false⟩ (zV Try.prog O) (reg Try.f32 10) (reg Try.f32 10).toList ([s,v,A,B,u,w,t,x,y,z,b,c,a,d,f,g,i,j,k,l,m,n,o,p,q,r]) S =
  (zO (jM Try.prog BinOp.add 3 a (Value.int IntKind.i64 1) S) (fun E C => some ([s,v,A,B,u,w,t,x,y,z,b,c,dem E,d,f,g,i,j,k,l,m,n,o,p,E,r], C)) ()) := by
 kernel_rfl
theorem zA.r11  : je Try.prog ⟨false, false, false⟩ (zV Try.prog O) (reg Try.f32 11) (reg Try.f32 11).toList ([s,v,A,B,u,w,t,x,y,z,b,c,a,d,f,g,i,j,k,l,m,n,o,p,q,r]) S =
  ( some ([s,v,u,Value.int IntKind.i64 0,dem u,w,t,x,y,z,b,c,a,d,f,g,i,j,k,l,m,n,o,p,q,dem u], S)) := by
 kernel_rfl
theorem zA.rs : type_of% (And.intro @zA.r0 (And.intro @zA.r1 (And.intro @zA.r2 (And.intro @zA.r3 (And.intro @zA.r4 (And.intro @zA.r5 (And.intro @zA.r6 (And.intro @zA.r7 (And.intro @zA.r8 (And.intro @zA.r9 (And.intro @zA.r10 (@zA.r11)))))))))))) := And.intro @zA.r0 (And.intro @zA.r1 (And.intro @zA.r2 (And.intro @zA.r3 (And.intro @zA.r4 (And.intro @zA.r5 (And.intro @zA.r6 (And.intro @zA.r7 (And.intro @zA.r8 (And.intro @zA.r9 (And.intro @zA.r10 (@zA.r11)))))))))))
theorem zA.runs {s : Value} {S C : zi} {e : AEx} {T : List Value} (h : zD Try.prog O false zA.code ([s,undef,undef,undef,undef,undef,undef,undef,undef,undef,undef,undef,undef,undef,undef,undef,undef,undef,undef,undef,undef,undef,undef,undef,undef,undef]) S = some (e, T, C)) (he : e = .normal ∨ e = .ret)  (h0 : jg (T.getD 2 undef) = true) (h1 : jg (T.getD 3 undef) = true) : zV Try.prog O 32 [s] S = some (Value.tuple #[T.getD 2 undef, T.getD 3 undef], C) :=
 wU rfl rfl Try.func32 (by decide) zA.body (by exact h) he ((yK ((show zN Try.prog T C Try.f32.results.toList = zN Try.prog T C [(ResultVar.tmp 2), (ResultVar.tmp 3)] from by kernel_rfl).trans (by simp only [zN])) (by kernel_rfl) (by simp only [List.all_cons, List.all_nil, h0, h1, Bool.and_true])).trans rfl)
end Go.Proofs.Ytblpnklfimkfoaa
namespace Go.Proofs.Ytblpnklfimkfoaa
open Go.Abs
theorem af6 (x : Int) : sv 2 1 1 [.int .i64 x] = iz 2 [x] := rfl
theorem ad9 {k : Nat} {l : List Int} {x : Int} {S : zi} (h : Okl k l) (hk : k ≠ 1) (hl : l.length ≤ 17592186044000) : jl Try.prog 56 56 (iz k l) (iz 2 [x]) S = some (iz 2 (l ++ [x]), S) := by
 rw [abe h hk Okl.own (by simp; omega), if_neg (fun h => by have := h.2; simp at this)]
end Go.Proofs.Ytblpnklfimkfoaa
namespace Go.Abs
open Go.RowKit
theorem afd {b : Nat} {e : Ty} {α : Type} (f : α → List Value) (Q : α → Prop) (h : ∀ x, e.Good x → ∃ y, e.ZJ x = f y ∧ Q y) (hf : ∀ y, (f y).length = e.sz) (x : (Ty.slc b e).Val) (hg : (Ty.slc b e).Good x) :
  ∃ k l, Okl k l ∧ k ≠ 2 ∧ (Ty.slc b e).ZJ x = [vs f e.sz k l] ∧ l.length * b ≤ 140737488351232 ∧ ∀ y ∈ l, Q y := by
 match x, hg with
 | none, _ => exact ⟨0, [], Okl.none, by decide, rfl, by simp, fun y hy => by cases hy⟩
 | some xs, hg =>
  obtain ⟨h1, h2, h3⟩ := hg
  have key : ∀ xs : List e.Val, (∀ n ∈ xs, e.Good n) → ∃ l : List α, xs.flatMap e.ZJ = l.flatMap f ∧ l.length = xs.length ∧ ∀ y ∈ l, Q y := by
   intro xs
   induction xs with
   | nil => intro _; exact ⟨[], rfl, rfl, fun y hy => by cases hy⟩
   | cons n xs ih =>
    intro hn
    obtain ⟨y, hy, hq⟩ := h n (hn n (by simp))
    obtain ⟨l, k1, k2, k3⟩ := ih (fun m hm => hn m (by simp [hm]))
    refine ⟨y :: l, by rw [List.flatMap_cons, List.flatMap_cons, hy, k1], by simp [k2], fun z hz => ?_⟩
    rcases List.mem_cons.1 hz with rfl | hz
    ·
     exact hq
    ·
     exact k3 z hz
  obtain ⟨l, k1, k2, k3⟩ := key xs h3
  refine ⟨1, l, Okl.read, by decide, ?_, by rw [k2]; exact h1, k3⟩
  show [SL 1 e.sz (List.length xs) (List.flatMap e.ZJ xs)] = [_]
  unfold vs
  rw [sv1, k1, k2]
theorem Zt {cs xs : List Value} (h : cs.length = xs.length) : splice cs 0 xs = xs := by
 unfold splice
 rw [List.take_zero, List.nil_append, Nat.zero_add, ← h, List.drop_length, List.append_nil]
theorem afI {k e n : Nat} {cs : List Value} : (sv k e n cs).oneCell' = true := by unfold sv; split <;> rfl
theorem afE {α : Type} {f : α → List Value} {e k : Nat} {l : List α} : (vs f e k l).oneCell' = true := afI
theorem aeR {k : IntKind} {n : Int} : (Value.int k n).oneCell' = true := rfl
theorem VU {P : Program} {t : TypeId} {z xs : List Value} {x : Value} (S : zi) (hx : x.cells.toList = xs) (hs : yV P t = some z.length) (hl : xs.length = z.length) (h1 : xs.all (·.oneCell') = true) :
  ∃ S2, qm P t (.pointer (some ⟨S.next, 0, none⟩)) x (S.push (.cells z (.own []) 0)) = some (undef, S2) ∧ S2.get S.next = some (.cells xs (.own []) 0) ∧ Ext S S2 ∧ S.next < S2.next := by
 have hg : (S.push (.cells z (.own []) 0)).get S.next = some (.cells z (.own []) 0) := by rw [zi.zT, if_pos rfl]
 refine ⟨_, QB hg hs (by rw [← Array.length_toList, hx, hl]) (by rw [hx]; exact h1) (by simp), ?_, (Ext.push S _).set (Nat.le_refl _) _, by simp [zi.kills]⟩
 rw [zi.jk, if_pos rfl, hx, Zt hl.symm]
end Go.Abs
namespace Go.Proofs.Ytblpnklfimkfoaa
open Go.Abs
theorem bb0 (S : zi) : zW Try.prog 26 0 [] S = some (by_ 2 [], S) := by rw [kU]; rfl
structure Tb where
 k : Nat
 b : List UInt8
structure Tb.Ok (t : Tb) : Prop where
 okl : Okl t.k t.b
 ne : t.k ≠ 2
 le : t.b.length ≤ 140737488351232
end Go.Proofs.Ytblpnklfimkfoaa
namespace Go.Proofs.Ytblpnklfimkfoaa
open Go.Abs
def encs (l : List Int) : List UInt8 := l.flatMap fun n => enc (n + 1).toNat
def abN (k : Nat) (l : List Int) : Value := if 64 < l.length ∨ ∃ n ∈ l, n < -1 then .tuple #[.slice none 0 0, .int .i64 11] else .tuple #[by_ (if l = [] then k else 2) (encs l), .int .i64 0]
theorem Vk {n : Int} (h : -1 ≤ n) (h2 : n < 9223372036854775808) : IntKind.u64.wrap (IntKind.u64.wrap n + 1) = ((n + 1).toNat : Int) := by
 simp [IntKind.wrap, IntKind.bits, IntKind.signed]
 omega
theorem KG (a b : List Int) : encs (a ++ b) = encs a ++ encs b := by simp [encs]
theorem abR (n : Int) : encs [n] = enc (n + 1).toNat := by simp [encs]
theorem YK {l : List Int} (h : ∀ n ∈ l, n < 9223372036854775808) : (encs l).length ≤ l.length * 10 := by
 induction l with
 | nil => simp [encs]
 | cons n l ih =>
  have h1 := ih fun m hm => h m (by simp [hm])
  have h2 : (enc (n + 1).toNat).length ≤ 10 := kV (by have := h n (by simp); omega)
  simp only [encs, List.flatMap_cons, List.length_append, List.length_cons] at *
  omega
theorem zA.round {k : Nat} {l : List Int} (hv : Okl k l) (hk : k ≠ 2) (h64 : l.length ≤ 64) (hb : ∀ n ∈ l, n < 9223372036854775808) {S : zi} : ∀ (suf pre : List Int) {T : List Value} {r : St}, wS (zD Try.prog O false zA.jd) T S = r → T.length = 26 →
  T.getD 10 undef = iz k l → T.getD 11 undef = .int .i64 l.length → T.getD 12 undef = .int .i64 pre.length → T.getD 4 undef = by_ (if pre = [] then 0 else 2) (encs pre) → l = pre ++ suf →
  ∃ e T', r = some (e, T', S) ∧ if (∃ n ∈ suf, n < -1) then e = .ret ∧ T'.getD 2 undef = .slice none 0 0 ∧ T'.getD 3 undef = .int .i64 11 else e = .exit 0 ∧ T'.length = 26 ∧ T'.getD 4 undef = by_ (if l = [] then 0 else 2) (encs l) := by
 intro suf
 induction suf with
 | nil =>
  intro pre T r hL hT ha hb hc h4 hl
  have hTe := zA.eta hT
  rw [ha, hb, hc, h4] at hTe
  have hr : zD Try.prog O false zA.jd T S = zD Try.prog O false zA.jd T S := rfl
  have hd : ¬ (pre.length : Int) < (l.length : Int) := by rw [hl]; simp
  conv at hr =>
   rhs
   rw [hTe]
   simp only [zA.jd, zA.code, zA.rs, zSs, reduceIte, Nat.reduceEqDiff, Int.reduceEq, Int.reduceLT, Int.reduceLE, hd]
  refine ⟨_, _, hL.symm.trans (jm hr (by simp)), ?_⟩
  rw [if_neg (by simp)]
  simp only [List.append_nil] at hl
  subst hl
  exact ⟨rfl, rfl, rfl⟩
 | cons n suf ih =>
  intro pre T r hL hT ha hbb hc h4 hl
  have hTe := zA.eta hT
  rw [ha, hbb, hc, h4] at hTe
  have hr : zD Try.prog O false zA.jd T S = zD Try.prog O false zA.jd T S := rfl
  have hll : l.length = pre.length + (suf.length + 1) := by rw [hl]; simp
  have hlt : (pre.length : Int) < (l.length : Int) := by omega
  have e1 : ∀ S, zZ Try.prog 56 (iz k l) (.int .i64 pre.length) S = some (EP [.int .i64 n], S) := fun S => by
   rw [aeW hv (by omega) hlt]; rw [Qk hl]
  have hn := hb n (by rw [hl]; simp)
  by_cases h1 : n < -1
  ·
   conv at hr =>
    rhs
    rw [hTe]
    simp only [zA.jd, zA.code, zA.rs, zSs, reduceIte, Nat.reduceEqDiff, Int.reduceEq, Int.reduceLT, Int.reduceLE, hlt, e1, Zk, h1]
   refine ⟨_, _, hL.symm.trans (jm hr (by simp)), ?_⟩
   rw [if_pos ⟨n, by simp, h1⟩]
   exact ⟨rfl, rfl, rfl⟩
  ·
   have w1 := Vk (n := n) (by omega) (by omega)
   have hpb : (encs pre).length ≤ pre.length * 10 := YK fun m hm => hb m (by rw [hl]; simp [hm])
   have hp10 : (enc (n + 1).toNat).length ≤ 10 := kV (by omega)
   have hpp := ZY (n + 1).toNat
   have g1 := fun S => zX.v (n + 1).toNat (by omega) S
   have e2 : ∀ S, jl Try.prog 26 26 (by_ (if pre = [] then 0 else 2) (encs pre)) (by_ 2 (enc (n + 1).toNat)) S = some (by_ 2 (encs (pre ++ [n])), S) := fun S => by
    have ok : Okl (if pre = [] then 0 else 2) (encs pre) := ⟨by split <;> omega, fun h => by split at h <;> first | (rename_i hp; subst hp; rfl) | omega⟩
    rw [yu ok (by split <;> omega) Okl.own (by omega), if_neg (fun h => by have := h.2; omega), KG, abR]
   have wi : IntKind.i64.wrap ((pre.length : Int) + 1) = ((pre ++ [n]).length : Int) := by rw [wrap_i64 (by omega) (by omega)]; simp
   conv at hr =>
    rhs
    rw [hTe]
    simp only [zA.jd, zA.code, zA.rs, zSs, reduceIte, Nat.reduceEqDiff, Int.reduceEq, Int.reduceLT, Int.reduceLE, hlt, e1, Zk, h1, yY, w1, g1, e2, wi]
   obtain ⟨e, T', g1, g2⟩ := ih (pre ++ [n]) ((jY hr).symm.trans hL) rfl rfl rfl rfl (by rw [if_neg (show ¬ pre ++ [n] = [] by simp)]; rfl) (by simp [hl])
   refine ⟨e, T', g1, ?_⟩
   by_cases h2 : ∃ m ∈ suf, m < -1
   ·
    rw [if_pos h2] at g2
    obtain ⟨m, hm, hm2⟩ := h2
    rw [if_pos ⟨m, by simp [hm], hm2⟩]
    exact g2
   ·
    rw [if_neg h2] at g2
    rw [if_neg (by rintro ⟨m, hm, hm2⟩; rcases List.mem_cons.1 hm with rfl | hm; exact h1 hm2; exact h2 ⟨m, hm, hm2⟩)]
    exact g2
theorem zA.v {k : Nat} {l : List Int} (hv : Okl k l) (hk : k ≠ 2) (hb : ∀ n ∈ l, n < 9223372036854775808) (S : zi) : zV Try.prog O zA.id [iz k l] S = some (abN 0 l, S) := by
 obtain ⟨T, hTe⟩ : ∃ T, T = (iz k l :: undef :: undef :: undef :: undef :: undef :: undef :: undef :: undef :: undef :: undef :: undef :: undef :: undef :: undef :: undef :: undef :: undef :: undef :: undef :: undef :: undef :: undef :: undef :: undef :: undef :: []) := ⟨_, rfl⟩
 have hr : zD Try.prog O false zA.code T S = zD Try.prog O false zA.code T S := rfl
 unfold abN
 by_cases h1 : 64 < l.length
 ·
  have d1 : (64 : Int) < (l.length : Int) := by omega
  conv at hr =>
   rhs
   rw [hTe]
   simp only [zA.code, zA.rs, zSs, reduceIte, Nat.reduceEqDiff, Int.reduceEq, Int.reduceLT, Int.reduceLE, if_neg hk, V9 hv, goInt, d1]
  rw [hTe] at hr
  rw [if_pos (.inl h1)]
  exact zA.runs hr (.inr rfl) (by simp only [List.getD_cons_succ, List.getD_cons_zero, zQ, zL, zG, zI, zM]) (by simp only [List.getD_cons_succ, List.getD_cons_zero, zQ, zL, zG, zI, zM])
 ·
  have d1 : ¬ (64 : Int) < (l.length : Int) := by omega
  conv at hr =>
   rhs
   rw [hTe]
   simp only [zA.code, zA.rs, zSs, reduceIte, Nat.reduceEqDiff, Int.reduceEq, Int.reduceLT, Int.reduceLE, if_neg hk, V9 hv, goInt, d1, kU, afh]
  generalize hL : wS (zD Try.prog O false zA.jd) _ _ = r at hr
  obtain ⟨e, T', rfl, g⟩ := zA.round hv hk (by omega) hb l [] hL rfl rfl rfl rfl rfl rfl
  by_cases h2 : ∃ n ∈ l, n < -1
  ·
   rw [if_pos h2] at g
   obtain ⟨rfl, g2, g3⟩ := g
   conv at hr =>
    rhs
    simp only [zSs, reduceIte, Nat.reduceEqDiff, Int.reduceEq, Int.reduceLT, Int.reduceLE]
   rw [hTe] at hr
   rw [if_pos (.inr h2)]
   have hrun := zA.runs hr (.inr rfl) (by rw [g2]; rfl) (by rw [g3]; rfl)
   rw [g2, g3] at hrun
   exact hrun
  ·
   rw [if_neg h2] at g
   obtain ⟨rfl, g2, g3⟩ := g
   have hTe' := zA.eta g2
   rw [g3] at hTe'
   conv at hr =>
    rhs
    rw [hTe']
    simp only [zA.code, zA.rs, zSs, reduceIte, Nat.reduceEqDiff, Int.reduceEq, Int.reduceLT, Int.reduceLE]
   rw [hTe] at hr
   rw [if_neg (by rintro (h | h); exact h1 h; exact h2 h)]
   exact zA.runs hr (.inr rfl) (by simp only [List.getD_cons_succ, List.getD_cons_zero, zQ, zL, zG, zI, zM]) (by simp only [List.getD_cons_succ, List.getD_cons_zero, zQ, zL, zG, zI, zM])
end Go.Proofs.Ytblpnklfimkfoaa
namespace Go.Proofs.Ytblpnklfimkfoaa
open Go.Abs
def yx : Nat → List UInt8 → Option (List Int × List UInt8)
 | 0, l => some ([], l)
 | m + 1, l => match scan 0 0 l with
  | some (n, r) => if n ≤ 4611686018427387905 then (match yx m r with
   | some (a, b) => some (((n : Int) - 1) :: a, b)
   | none => none) else none
  | none => none
def JK (k0 k1 : Nat) (many : Int) (l : List UInt8) : Value :=
 if many < 0 ∨ 64 < many then .tuple #[.slice none 0 0, .slice none 0 0, .int .i64 11]
 else match yx many.toNat l with
  | some (a, b) => .tuple #[iz (if many = 0 then k0 else 2) a, by_ (if many = 0 then k1 else 2) b, .int .i64 0]
  | none => .tuple #[.slice none 0 0, .slice none 0 0, .int .i64 11]
theorem zn.round {many : Int} (hmany : many ≤ 64) {S : zi} : ∀ (m : Nat) (i : Int) (rest : List UInt8) (kr : Nat) (out : List Int) (ko : Nat) {T : List Value} {r : St}, wS (zD Try.prog O false zn.jd) T S = r → T.length = 45 →
  T.getD 20 undef = .int .i64 many → T.getD 21 undef = .int .i64 i → T.getD 7 undef = by_ kr rest → T.getD 8 undef = iz ko out → 0 ≤ i → many = i + m → Okl kr rest → rest.length ≤ 140737488355328 → Okl ko out → ko ≠ 1 → (out.length : Int) = i →
  ∃ e T', r = some (e, T', S) ∧ match yx m rest with
   | none => e = .ret ∧ T'.getD 4 undef = .slice none 0 0 ∧ T'.getD 5 undef = .slice none 0 0 ∧ T'.getD 6 undef = .int .i64 11
   | some (a, b) => e = .exit 0 ∧ T'.length = 45 ∧ T'.getD 8 undef = iz (if m = 0 then ko else 2) (out ++ a) ∧ T'.getD 7 undef = by_ (if m = 0 then kr else 2) b := by
 intro m
 induction m with
 | zero =>
  intro i rest kr out ko T r hL hT h1 h2 h3 h4 h0 hm hkr hlen hko hk1 hol
  have hTe := zn.eta hT
  rw [h1, h2, h3, h4] at hTe
  have hr : zD Try.prog O false zn.jd T S = zD Try.prog O false zn.jd T S := rfl
  have hd : ¬ i < many := by omega
  conv at hr =>
   rhs
   rw [hTe]
   simp only [zn.jd, zn.code, zn.rs, zSs, reduceIte, Nat.reduceEqDiff, Int.reduceEq, Int.reduceLT, Int.reduceLE, hd]
  exact ⟨_, _, hL.symm.trans (jm hr (by simp)), rfl, rfl, by simp, rfl⟩
 | succ m ih =>
  intro i rest kr out ko T r hL hT h1 h2 h3 h4 h0 hm hkr hlen hko hk1 hol
  have hTe := zn.eta hT
  rw [h1, h2, h3, h4] at hTe
  have hr : zD Try.prog O false zn.jd T S = zD Try.prog O false zn.jd T S := rfl
  have hd : i < many := by omega
  have g1 : ∀ S, zV Try.prog O zu.id [by_ (if kr = 2 then 1 else kr) rest] S = some (Vb rest, S) := zu.v hkr.dem (by split <;> omega) hlen
  unfold Vb at g1
  rw [yx]
  cases hsc : scan 0 0 rest with
  | none =>
   rw [hsc] at g1
   have d11 : ¬ (11 : Int) = 0 := by omega
   conv at hr =>
    rhs
    rw [hTe]
    simp only [zn.jd, zn.code, zn.rs, zSs, reduceIte, Nat.reduceEqDiff, Int.reduceEq, Int.reduceLT, Int.reduceLE, afU, hd, g1, d11]
   exact ⟨_, _, hL.symm.trans (jm hr (by simp)), rfl, rfl, rfl, rfl⟩
  | some nr =>
   obtain ⟨n, r'⟩ := nr
   rw [hsc] at g1
   obtain ⟨hn, hrl⟩ := KF rest 0 0 (by decide) (by omega) n r' hsc
   dsimp only
   by_cases h5 : n ≤ 4611686018427387905
   ·
    have d1 : ¬ (4611686018427387905 : Int) < (n : Int) := by omega
    have w1 : IntKind.i64.wrap (n : Int) = (n : Int) := wrap_i64 (by omega) (by omega)
    have w2 : IntKind.i64.wrap ((n : Int) - 1) = (n : Int) - 1 := wrap_i64 (by omega) (by omega)
    have w3 : IntKind.i64.wrap (i + 1) = i + 1 := wrap_i64 (by omega) (by omega)
    have e1 : ∀ x S, jl Try.prog 56 56 (iz ko out) (iz 2 [x]) S = some (iz 2 (out ++ [x]), S) := fun x S => ad9 hko hk1 (by omega)
    conv at hr =>
     rhs
     rw [hTe]
     simp only [zn.jd, zn.code, zn.rs, zSs, reduceIte, Nat.reduceEqDiff, Int.reduceEq, Int.reduceLT, Int.reduceLE, afU, hd, g1, d1, Yu, w1, w2, w3, XQ, af6, e1]
    obtain ⟨e, T', g2, g3⟩ := ih (i + 1) r' 2 (out ++ [(n : Int) - 1]) 2 ((jY hr).symm.trans hL) rfl rfl rfl rfl rfl (by omega) (by omega) Okl.own (by omega) Okl.own (by decide) (by simp; omega)
    refine ⟨e, T', g2, ?_⟩
    rw [if_pos h5]
    cases hrn : yx m r' with
    | none => rw [hrn] at g3; exact g3
    | some ab =>
     obtain ⟨a, b⟩ := ab
     rw [hrn] at g3
     obtain ⟨q1, q2, q3, q4⟩ := g3
     refine ⟨q1, q2, ?_, ?_⟩
     ·
      rw [q3]; simp
     ·
      rw [q4]; simp
   ·
    have d1 : (4611686018427387905 : Int) < (n : Int) := by omega
    conv at hr =>
     rhs
     rw [hTe]
     simp only [zn.jd, zn.code, zn.rs, zSs, reduceIte, Nat.reduceEqDiff, Int.reduceEq, Int.reduceLT, Int.reduceLE, afU, hd, g1, d1]
    refine ⟨_, _, hL.symm.trans (jm hr (by simp)), ?_⟩
    rw [if_neg h5]
    exact ⟨rfl, rfl, rfl, rfl⟩
theorem zn.v {k : Nat} {l : List UInt8} {many : Int} (hv : Okl k l) (hk : k ≠ 2) (hlen : l.length ≤ 140737488355328) (S : zi) : zV Try.prog O zn.id [by_ k l, .int .i64 many] S = some (JK 0 (if k = 0 then 0 else 2) many l, S) := by
 obtain ⟨T, hTe⟩ : ∃ T, T = (by_ k l :: .int .i64 many :: undef :: undef :: undef :: undef :: undef :: undef :: undef :: undef :: undef :: undef :: undef :: undef :: undef :: undef :: undef :: undef :: undef :: undef :: undef :: undef :: undef :: undef :: undef :: undef :: undef :: undef :: undef :: undef :: undef :: undef :: undef :: undef :: undef :: undef :: undef :: undef :: undef :: undef :: undef :: undef :: undef :: undef :: undef :: []) := ⟨_, rfl⟩
 have hr : zD Try.prog O false zn.code T S = zD Try.prog O false zn.code T S := rfl
 have c1 : ∀ S, zV Try.prog O 43 [by_ k l] S = some (by_ (if k = 0 then 0 else 2) l, S) := slices_Clone.v hv hk hlen
 unfold JK
 by_cases h1 : many < 0
 ·
  conv at hr =>
   rhs
   rw [hTe]
   simp only [zn.code, zn.rs, zSs, reduceIte, Nat.reduceEqDiff, Int.reduceEq, Int.reduceLT, Int.reduceLE, h1]
  rw [hTe] at hr
  rw [if_pos (.inl h1)]
  exact zn.runs hr (.inr rfl) (by simp only [List.getD_cons_succ, List.getD_cons_zero, zQ, zL, zG, zI, zM]) (by simp only [List.getD_cons_succ, List.getD_cons_zero, zQ, zL, zG, zI, zM]) (by simp only [List.getD_cons_succ, List.getD_cons_zero, zQ, zL, zG, zI, zM])
 ·
  by_cases h2 : 64 < many
  ·
   conv at hr =>
    rhs
    rw [hTe]
    simp only [zn.code, zn.rs, zSs, reduceIte, Nat.reduceEqDiff, Int.reduceEq, Int.reduceLT, Int.reduceLE, h1, h2]
   rw [hTe] at hr
   rw [if_pos (.inr h2)]
   exact zn.runs hr (.inr rfl) (by simp only [List.getD_cons_succ, List.getD_cons_zero, zQ, zL, zG, zI, zM]) (by simp only [List.getD_cons_succ, List.getD_cons_zero, zQ, zL, zG, zI, zM]) (by simp only [List.getD_cons_succ, List.getD_cons_zero, zQ, zL, zG, zI, zM])
  ·
   rw [if_neg (by omega)]
   conv at hr =>
    rhs
    rw [hTe]
    simp only [zn.code, zn.rs, zSs, reduceIte, Nat.reduceEqDiff, Int.reduceEq, Int.reduceLT, Int.reduceLE, h1, h2, if_neg hk, c1]
   generalize hL : wS (zD Try.prog O false zn.jd) _ _ = r at hr
   have okr : Okl (if k = 0 then 0 else 2) l := ⟨by split <;> omega, fun h => by split at h <;> first | (rename_i hp; exact hv.nil hp) | omega⟩
   obtain ⟨e, T', rfl, g⟩ := zn.round (many := many) (by omega) many.toNat 0 l (if k = 0 then 0 else 2) [] 0 hL rfl rfl rfl rfl rfl (by omega) (by omega) okr hlen Okl.none (by decide) rfl
   cases hrn : yx many.toNat l with
   | none =>
    rw [hrn] at g
    obtain ⟨rfl, g2, g3, g4⟩ := g
    conv at hr =>
     rhs
     simp only [zSs, reduceIte, Nat.reduceEqDiff, Int.reduceEq, Int.reduceLT, Int.reduceLE]
    rw [hTe] at hr
    have hrun := zn.runs hr (.inr rfl) (by rw [g2]; rfl) (by rw [g3]; rfl) (by rw [g4]; rfl)
    rw [g2, g3, g4] at hrun
    exact hrun
   | some ab =>
    obtain ⟨a, b⟩ := ab
    rw [hrn] at g
    obtain ⟨rfl, g2, g3, g4⟩ := g
    have hTe' := zn.eta g2
    rw [g3, g4] at hTe'
    have hz : (many.toNat = 0) ↔ (many = 0) := by omega
    simp only [hz, List.nil_append] at hTe'
    conv at hr =>
     rhs
     rw [hTe']
     simp only [zn.code, zn.rs, zSs, reduceIte, Nat.reduceEqDiff, Int.reduceEq, Int.reduceLT, Int.reduceLE]
    rw [hTe] at hr
    exact zn.runs hr (.inr rfl) (by simp only [List.getD_cons_succ, List.getD_cons_zero, zQ, zL, zG, zI, zM]) (by simp only [List.getD_cons_succ, List.getD_cons_zero, zQ, zL, zG, zI, zM]) (by simp only [List.getD_cons_succ, List.getD_cons_zero, zQ, zL, zG, zI, zM])
end Go.Proofs.Ytblpnklfimkfoaa
namespace Go.Proofs.Ytblpnklfimkfoaa
open Go.Abs
def Few (n : Int) : Prop := -1 ≤ n ∧ n ≤ 4611686018427387904
theorem Zv : ∀ (m : Nat) (l : List UInt8) (a : List Int) (b : List UInt8), yx m l = some (a, b) ↔ a.length = m ∧ l = encs a ++ b ∧ ∀ n ∈ a, Few n := by
 intro m
 induction m with
 | zero =>
  intro l a b
  constructor
  ·
   intro h; cases h; exact ⟨rfl, rfl, fun n h => by cases h⟩
  ·
   rintro ⟨h1, h2, _⟩
   have : a = [] := List.length_eq_zero_iff.mp h1
   subst this
   rw [h2]; rfl
 | succ m ih =>
  intro l a b
  rw [yx]
  constructor
  ·
   intro h
   cases hsc : scan 0 0 l with
   | none => rw [hsc] at h; cases h
   | some nr =>
    obtain ⟨n, r⟩ := nr
    rw [hsc] at h
    dsimp only at h
    split at h
    ·
     rename_i hn
     cases hr : yx m r with
     | none => rw [hr] at h; cases h
     | some ab =>
      obtain ⟨a', b'⟩ := ab
      rw [hr] at h
      obtain ⟨h1, h2, h3⟩ := (ih r a' b').mp hr
      cases h
      obtain ⟨f1, f2⟩ := Y1 hsc
      refine ⟨by simp [h1], ?_, fun x hx => ?_⟩
      ·
       rw [f1, h2]
       have : ((n : Int) - 1 + 1).toNat = n := by omega
       simp [encs, this]
      ·
       rcases List.mem_cons.1 hx with rfl | hx
       ·
        unfold Few; omega
       ·
        exact h3 x hx
    ·
     cases h
  ·
   rintro ⟨h1, h2, h3⟩
   cases a with
   | nil => simp at h1
   | cons x a =>
    have hx : Few x := h3 x (by simp)
    unfold Few at hx
    have he : encs (x :: a) ++ b = enc (x + 1).toNat ++ (encs a ++ b) := by simp [encs]
    rw [h2, he, Xg (by omega)]
    dsimp only
    rw [if_pos (by omega), (ih (encs a ++ b) a b).mpr ⟨by simpa using h1, rfl, fun n hn => h3 n (by simp [hn])⟩]
    have : ((x + 1).toNat : Int) - 1 = x := by omega
    simp only [this]
theorem XH {m : Nat} {l : List UInt8} {a : List Int} {b : List UInt8} (h : yx m l = some (a, b)) : a.length = m ∧ b.length ≤ l.length := by
 obtain ⟨h1, h2, _⟩ := (Zv m l a b).mp h
 exact ⟨h1, by rw [h2]; simp⟩
theorem abX {k : Nat} {l : List Int} (h : l.length ≤ 64) (h1 : ∀ n ∈ l, -1 ≤ n) (h0 : l ≠ []) : abN k l = .tuple #[by_ 2 (encs l), .int .i64 0] := by
 unfold abN
 rw [if_neg (by rintro (h2 | ⟨n, h2, h3⟩); { omega }; { have := h1 n h2; omega }), if_neg h0]
theorem Kt {k0 k1 m : Nat} {l : List UInt8} (h0 : 0 < m) (h : m ≤ 64) : JK k0 k1 m l = match yx m l with
  | some (a, b) => .tuple #[iz 2 a, by_ 2 b, .int .i64 0]
  | none => .tuple #[.slice none 0 0, .slice none 0 0, .int .i64 11] := by
 unfold JK
 rw [if_neg (by omega), Int.toNat_natCast]
 have : (m : Int) ≠ 0 := by omega
 simp only [if_neg this]
 all_goals (cases yx m l <;> rfl)
end Go.Proofs.Ytblpnklfimkfoaa
namespace Go.Abs
open Go.RowKit
def gv (x b : Bool) (v : Value) : Value := if x = b then v else undef
theorem adH (x b : Bool) (v : Value) : dem (gv x b v) = gv x b (dem v) := by
 unfold gv; split
 ·
  rfl
 ·
  exact Z4
theorem Jq {R : Type} {K : Value → zi → Option R} {p : vV K} {m : M Value} {S : zi} (x b : Bool) : gdK (.bool x) b m S K p = if x = b then zO (m S) K p else K undef S := by
 cases x <;> cases b <;> rfl
section
variable {R : Type} {K : Value → zi → Option R} {p : vV K} {S : zi} {x b c y z : Bool} {m m' : M Value} {P : Program} {O : Ora} {t : TypeId} {v w u : Value}
theorem jF (h : x = b → m S = m' S) : gdK (.bool x) b m S K p = gdK (.bool x) b m' S K p := by
 rw [Jq, Jq]
 split
 ·
  rename_i hx; rw [h hx]
 ·
  rfl
theorem jT (h : m S = some (v, S)) : gdK (.bool x) b m S K p = K (gv x b v) S := by
 rw [Jq]
 unfold gv
 split
 ·
  rw [h]; rfl
 ·
  rfl
theorem kQ (h : x = b) : gv x b v = v := if_pos h
theorem abv {fx : Bool} : gdK (.bool x) b (ji P fx t (gv x b v)) S K p = gdK (.bool x) b (ji P fx t v) S K p := jF fun h => by rw [kQ h]
theorem ZG {f : Nat} : gdK (.bool x) b (zS P t (gv x b v) f) S K p = gdK (.bool x) b (zS P t v f) S K p := jF fun h => by rw [kQ h]
theorem JI : gdK (.bool x) b (yL (gv x b v)) S K p = gdK (.bool x) b (yL v) S K p := jF fun h => by rw [kQ h]
theorem adf : gdK (.bool x) b (qA P t (gv x b v)) S K p = gdK (.bool x) b (qA P t v) S K p := jF fun h => by rw [kQ h]
theorem vG : gdK (.bool x) b (zZ P t (gv x b v) w) S K p = gdK (.bool x) b (zZ P t v w) S K p := jF fun h => by rw [kQ h]
theorem vO : gdK (.bool x) b (zZ P t v (gv x b w)) S K p = gdK (.bool x) b (zZ P t v w) S K p := jF fun h => by rw [kQ h]
theorem afj {op : UnOp} : gdK (.bool x) b (aUn P op (gv x b v)) S K p = gdK (.bool x) b (aUn P op v) S K p := jF fun h => by rw [kQ h]
theorem aaI {hp dr : Bool} {t2 : TypeId} : gdK (.bool x) b (jO P hp dr t t2 (gv x b v)) S K p = gdK (.bool x) b (jO P hp dr t t2 v) S K p := jF fun h => by rw [kQ h]
theorem Vu {op : BinOp} : gdK (.bool x) b (jM P op t (gv x b v) w) S K p = gdK (.bool x) b (jM P op t v w) S K p := jF fun h => by rw [kQ h]
theorem VJ {op : BinOp} : gdK (.bool x) b (jM P op t v (gv x b w)) S K p = gdK (.bool x) b (jM P op t v w) S K p := jF fun h => by rw [kQ h]
theorem Xr {g : FuncId} {l : List Value} : gdK (.bool x) b (zV P O g (gv x b v :: l)) S K p = gdK (.bool x) b (zV P O g (v :: l)) S K p := jF fun h => by rw [kQ h]
theorem Xl {g : FuncId} {l : List Value} : gdK (.bool x) b (zV P O g (u :: gv x b v :: l)) S K p = gdK (.bool x) b (zV P O g (u :: v :: l)) S K p := jF fun h => by rw [kQ h]
theorem QC {g : FuncId} {l : List Value} : gdK (.bool x) b (abY (zV P O) g (gv x b v :: l)) S K p = gdK (.bool x) b (abY (zV P O) g (v :: l)) S K p := jF fun h => by rw [kQ h]
theorem Qn {g : FuncId} {l : List Value} : gdK (.bool x) b (abY (zV P O) g (u :: gv x b v :: l)) S K p = gdK (.bool x) b (abY (zV P O) g (u :: v :: l)) S K p := jF fun h => by rw [kQ h]
theorem adP : gdK (.bool x) b (ret v) S K p = K (gv x b v) S := jT rfl
theorem afs : gv x b (gv x b v) = gv x b v := by unfold gv; split <;> rfl
theorem KZ : gdK (gv x c (.bool y)) b m S K p = gdK (.bool ((x == c) && (y == b))) true m S K p := by
 unfold gv
 cases x <;> cases c <;> cases y <;> cases b <;> rfl
theorem VI {fx : Bool} : gdK (.bool ((x == c) && (y == b))) true (ji P fx t (gv x c v)) S K p = gdK (.bool ((x == c) && (y == b))) true (ji P fx t v) S K p := jF fun h => by rw [kQ (by simp at h; exact h.1)]
theorem aaO {op : BinOp} : gdK (.bool ((x == c) && (y == b))) true (jM P op t (gv x c v) w) S K p = gdK (.bool ((x == c) && (y == b))) true (jM P op t v w) S K p := jF fun h => by rw [kQ (by simp at h; exact h.1)]
theorem abq {op : BinOp} : gdK (.bool ((x == c) && (y == b))) true (jM P op t v (gv x c w)) S K p = gdK (.bool ((x == c) && (y == b))) true (jM P op t v w) S K p := jF fun h => by rw [kQ (by simp at h; exact h.1)]
theorem adY : gdK (.bool x) c (qg (gv x c (.bool y)) (.bool true) (gv ((x == c) && (y == false)) true (.bool z))) S K p = K (gv x c (.bool (y || z))) S := by
 unfold gv
 cases x <;> cases c <;> cases y <;> cases z <;> rfl
theorem aai : gdK (.bool x) c (qg (gv x c (.bool y)) (gv ((x == c) && (y == true)) true (.bool z)) (.bool false)) S K p = K (gv x c (.bool (y && z))) S := by
 unfold gv
 cases x <;> cases c <;> cases y <;> cases z <;> rfl
theorem afB : (if x = true then Value.bool true else gv x false (.bool y)) = .bool (x || y) := by cases x <;> rfl
theorem adl : (if x = true then gv x true (.bool y) else Value.bool false) = .bool (x && y) := by cases x <;> rfl
theorem afO : gv true true v = v := rfl
theorem aft : gv false false v = v := rfl
theorem afz : gv true false v = undef := rfl
theorem afu : gv false true v = undef := rfl
theorem adx {k : IntKind} {a d : Int} : gdK (.bool x) b (jM P .lss t (.int k a) (.int k d)) S K p = K (gv x b (.bool (decide (a < d)))) S := jT (Yb k a d)
theorem ads {k : IntKind} {a d : Int} : gdK (.bool x) b (jM P .leq t (.int k a) (.int k d)) S K p = K (gv x b (.bool (decide (a ≤ d)))) S := jT (WL k a d)
theorem ady {k : IntKind} {a d : Int} : gdK (.bool x) b (jM P .gtr t (.int k a) (.int k d)) S K p = K (gv x b (.bool (decide (d < a)))) S := jT (Yj k a d)
theorem adW {k : IntKind} {a d : Int} : gdK (.bool x) b (jM P .geq t (.int k a) (.int k d)) S K p = K (gv x b (.bool (decide (d ≤ a)))) S := jT (Yq k a d)
theorem adV {k : IntKind} {a d : Int} : gdK (.bool x) b (jM P .eql t (.int k a) (.int k d)) S K p = K (gv x b (.bool (decide (a = d)))) S := jT (Yk k a d)
theorem adR {k : IntKind} {a d : Int} : gdK (.bool x) b (jM P .neq t (.int k a) (.int k d)) S K p = K (gv x b (.bool (!decide (a = d)))) S := jT (YH k a d)
theorem ada {k : IntKind} {a d : Int} : gdK (.bool x) b (jM P .add t (.int k a) (.int k d)) S K p = K (gv x b (.int k (k.wrap (a + d)))) S := jT (YF k a d)
theorem adw {k : IntKind} {a d : Int} : gdK (.bool x) b (jM P .sub t (.int k a) (.int k d)) S K p = K (gv x b (.int k (k.wrap (a - d)))) S := jT (WS k a d)
theorem adS : gdK (.bool x) b (aUn P .not (.bool y)) S K p = K (gv x b (.bool (!y))) S := jT (by cases y <;> rfl)
end
theorem gvw : type_of% (And.intro @adH (And.intro @abv (And.intro @ZG (And.intro @JI (And.intro @adf (And.intro @vG (And.intro @vO (And.intro @afj (And.intro @aaI (And.intro @Vu (And.intro @VJ (And.intro @Xr (And.intro @Xl (And.intro @QC (And.intro @Qn (And.intro @adP (And.intro @afs (And.intro @KZ (And.intro @VI (And.intro @aaO (And.intro @abq (And.intro @adY (And.intro @aai (And.intro @afB (And.intro @adl (And.intro @afO (And.intro @aft (And.intro @afz (And.intro @afu (And.intro @adx (And.intro @ads (And.intro @ady (And.intro @adW (And.intro @adV (And.intro @adR (And.intro @ada (And.intro @adw @adS))))))))))))))))))))))))))))))))))))) :=
 And.intro @adH (And.intro @abv (And.intro @ZG (And.intro @JI (And.intro @adf (And.intro @vG (And.intro @vO (And.intro @afj (And.intro @aaI (And.intro @Vu (And.intro @VJ (And.intro @Xr (And.intro @Xl (And.intro @QC (And.intro @Qn (And.intro @adP (And.intro @afs (And.intro @KZ (And.intro @VI (And.intro @aaO (And.intro @abq (And.intro @adY (And.intro @aai (And.intro @afB (And.intro @adl (And.intro @afO (And.intro @aft (And.intro @afz (And.intro @afu (And.intro @adx (And.intro @ads (And.intro @ady (And.intro @adW (And.intro @adV (And.intro @adR (And.intro @ada (And.intro @adw @adS))))))))))))))))))))))))))))))))))))
end Go.Abs
namespace Go.Proofs.Ytblpnklfimkfoaa
open Go.Abs
structure wE where
 kind : Int
 index : Int
 view : Int
 value : Int
 k : Nat
 txt : List UInt8
def fR (r : wE) : List Value := [.int .i64 r.kind, .int .i64 r.index, .int .i64 r.view, .int .i64 r.value, by_ r.k r.txt]
abbrev rv (r : wE) : Value := .agg [Value.int .i64 r.kind, .int .i64 r.index, .int .i64 r.view, .int .i64 r.value, by_ r.k r.txt].toArray
def Big (n : Int) : Prop := -9223372036854775808 ≤ n ∧ n < 9223372036854775808
structure wE.Ok (r : wE) : Prop where
 okl : Okl r.k r.txt
 ne : r.k ≠ 2
 len : r.txt.length ≤ 140737488351232
 kind : Big r.kind
 index : Big r.index
 view : Big r.view
 value : Big r.value
abbrev rz : wE := ⟨0, 0, 0, 0, 0, []⟩
theorem afA : rz.Ok := by
 have z : Big 0 := ⟨by omega, by omega⟩
 exact ⟨Okl.none, by decide, by simp, z, z, z, z⟩
theorem adE (r : wE) : (fR r).length = 5 := rfl
theorem Zh {r : wE} {d : Nat} (h : r.k ≤ 2) : jf (d + 6) (rv r) = true := by
 have h1 : jf (d + 5) (by_ r.k r.txt) = true := ZQ (d := d + 1) h fun _ _ => rfl
 refine aaX ?_
 simp only [List.all_cons, List.all_nil, h1, Bool.and_true]
 rfl
theorem aeG (r : wE) : (fR r).all (·.oneCell') = true := by
 simp only [fR, List.all_cons, List.all_nil, aeR, afE, Bool.and_true]
theorem adg (r : wE) : okq 3 (rv r) = true := by
 have h : okq 2 (by_ r.k r.txt) = true := by unfold by_ vs sv; split <;> rfl
 simp only [okq, List.toList_toArray, List.all_cons, List.all_nil, h, Bool.and_true]
section
variable {S : zi} {q e : Nat} {m : wE} {own : Own}
theorem ac8 (h : S.get q = some (.cells (fR m) own e)) : ji Try.prog false 3 (.pointer (some ⟨q, 0 + 0, none⟩)) S = some (.int .i64 m.kind, S) := ZR (t := 3) (o := 0 + 0) h abp rfl
theorem abQ (h : S.get q = some (.cells (fR m) own e)) : ji Try.prog false 3 (.pointer (some ⟨q, 0 + 1, none⟩)) S = some (.int .i64 m.index, S) := ZR (t := 3) (o := 0 + 1) h abp rfl
theorem acn (h : S.get q = some (.cells (fR m) own e)) : ji Try.prog false 3 (.pointer (some ⟨q, 0 + 2, none⟩)) S = some (.int .i64 m.view, S) := ZR (t := 3) (o := 0 + 2) h abp rfl
theorem ac1 (h : S.get q = some (.cells (fR m) own e)) : ji Try.prog false 3 (.pointer (some ⟨q, 0 + 3, none⟩)) S = some (.int .i64 m.value, S) := ZR (t := 3) (o := 0 + 3) h abp rfl
theorem ac2 (h : S.get q = some (.cells (fR m) own e)) (hk : m.k ≠ 2) : ji Try.prog false 26 (.pointer (some ⟨q, 0 + 4, none⟩)) S = some (by_ m.k m.txt, S) := by
 rw [YC (o := 0 + 4) (v := by_ m.k m.txt) h kS rfl (fun l h => by unfold by_ vs sv at h; split at h <;> cases h), aao, if_neg hk]
theorem Vr (h : S.get q = some (.cells (fR m) own e)) (hk : m.k ≠ 2) : ji Try.prog false 28 (.pointer (some ⟨q, 0, none⟩)) S = some (rv m, S) := by
 rw [Vq h]
 simp only [acG, aeA, if_neg hk]
end
abbrev aeJ (m : wE) : zi := zi.empty.push (.cells (fR m) (.own []) 0)
theorem afT (m : wE) : X5 (rv m) zi.empty = some (.pointer (some ⟨0, 0, none⟩), aeJ m) := rfl
theorem WO (m : wE) : (aeJ m).get 0 = some (.cells (fR m) (.own []) 0) := rfl
abbrev KJ (a b : wE) : zi := (aeJ a).push (.cells (fR b) (.own []) 0)
theorem afZ (a b : wE) : X5 (rv b) (aeJ a) = some (.pointer (some ⟨1, 0, none⟩), KJ a b) := by kernel_rfl
theorem abD (a b : wE) : (KJ a b).get 0 = some (.cells (fR a) (.own []) 0) := by kernel_rfl
theorem aax (a b : wE) : (KJ a b).get 1 = some (.cells (fR b) (.own []) 0) := by kernel_rfl
theorem aec (S : zi) : y8 Try.prog 28 S = some (.pointer (some ⟨S.next, 0, none⟩), S.push (.cells (fR rz) (.own []) 0)) := by kernel_rfl
abbrev adz (S : zi) (q : Nat) (x : wE) : zi := (S.kills []).set q (.cells (fR x) (.own []) 0)
theorem Zb (S : zi) (q : Nat) (x : wE) : (adz S q x).get q = some (.cells (fR x) (.own []) 0) := by rw [zi.jk, if_pos rfl]
theorem abE {S : zi} {q k : Nat} {x : wE} (h : k ≠ q) : (adz S q x).get k = S.get k := by rw [zi.jk, if_neg h]; rfl
theorem afk {S : zi} {q : Nat} {x : wE} (h : S.get q = some (.cells (fR x) (.own []) 0)) (y : wE) : qm Try.prog 28 (.pointer (some ⟨q, 0, none⟩)) (rv y) S = some (undef, adz S q y) := by
 rw [QB (x := rv y) (n := 5) h qE (by rw [kG]; rfl) (by rw [kG, List.toList_toArray]; exact aeG y) (by simp [fR]), kG, List.toList_toArray]; rfl
theorem Kv (m : wE) (S : zi) : ∃ S2, qm Try.prog 28 (.pointer (some ⟨S.next, 0, none⟩)) (rv m) (S.push (.cells (fR rz) (.own []) 0)) = some (undef, S2) ∧ S2.get S.next = some (.cells (fR m) (.own []) 0) ∧ Ext S S2 ∧ S.next < S2.next :=
 VU S (by rw [kG]; rfl) qE rfl (aeG m)
def ade (n : Int) : Bool := decide (-1 ≤ n) && decide (n ≤ 1073741824)
def xY (r : wE) : List Int := [r.kind, r.index, r.view, r.value]
def jV (r : wE) : Bool := (xY r).all ade && decide ((r.txt.length : Int) ≤ 1024)
theorem ZP {n : Int} : ade n = true ↔ -1 ≤ n ∧ n ≤ 1073741824 := by simp [ade]
theorem qQ {r : wE} (h : jV r = true) : (∀ n ∈ xY r, -1 ≤ n ∧ n ≤ 1073741824) ∧ r.txt.length ≤ 1024 := by
 unfold jV at h
 rw [Bool.and_eq_true, List.all_eq_true, decide_eq_true_eq] at h
 exact ⟨fun n hn => ZP.1 (h.1 n hn), by omega⟩
theorem bs4 (a b c d : Int) (S : zi) : zW Try.prog 56 4 [(0, .int .i64 a), (1, .int .i64 b), (2, .int .i64 c), (3, .int .i64 d)] S = some (iz 2 [a, b, c, d], S) := by kernel_rfl
theorem zq.round {k : Nat} {l : List Int} (hk : Okl k l) (hl : l.length = 4) {S : zi} : ∀ (suf pre : List Int) {T : List Value} {r : St}, wS (zD Try.prog O false zq.jd) T S = r → T.length = 30 →
  T.getD 13 undef = iz k l → T.getD 14 undef = .int .i64 4 → T.getD 15 undef = .int .i64 pre.length → l = pre ++ suf →
  ∃ e T', r = some (e, T', S) ∧ if suf.all ade then e = .exit 0 ∧ T'.length = 30 ∧ T'.getD 1 undef = T.getD 1 undef else e = .ret ∧ T'.getD 2 undef = .bool false := by
 intro suf
 induction suf with
 | nil =>
  intro pre T r hL hT h13 h14 h15 hpre
  have hTe := zq.eta hT
  rw [h13, h14, h15] at hTe
  have hr : zD Try.prog O false zq.jd T S = zD Try.prog O false zq.jd T S := rfl
  have d1 : ¬ (pre.length : Int) < 4 := by rw [hpre] at hl; simp at hl; omega
  conv at hr =>
   rhs
   rw [hTe]
   simp only [zq.jd, zq.code, zq.rs, zSs, reduceIte, Nat.reduceEqDiff, Int.reduceEq, Int.reduceLT, Int.reduceLE, d1]
  exact ⟨_, _, hL.symm.trans (jm hr (by simp)), rfl, rfl, rfl⟩
 | cons x suf ih =>
  intro pre T r hL hT h13 h14 h15 hpre
  have hTe := zq.eta hT
  rw [h13, h14, h15] at hTe
  have hr : zD Try.prog O false zq.jd T S = zD Try.prog O false zq.jd T S := rfl
  have d1 : (pre.length : Int) < 4 := by rw [hpre] at hl; simp at hl; omega
  have e1 : ∀ S, zZ Try.prog 56 (iz k l) (.int .i64 pre.length) S = some (EP [.int .i64 x], S) := fun S => by
   rw [aeW hk (by omega) (by omega)]; rw [Qk hpre]
  have wi : IntKind.i64.wrap ((pre.length : Int) + 1) = ((pre ++ [x]).length : Int) := by rw [wrap_i64 (by omega) (by omega)]; simp
  rw [List.all_cons]
  by_cases h1 : x < -1
  ·
   have hx : ade x = false := by rw [Bool.eq_false_iff]; intro h; have := ZP.1 h; omega
   rw [hx, Bool.false_and]
   conv at hr =>
    rhs
    rw [hTe]
    simp only [zq.jd, zq.code, zq.rs, zSs, reduceIte, Nat.reduceEqDiff, Int.reduceEq, Int.reduceLT, Int.reduceLE, d1, e1, Zk, decide_eq_true h1]
   exact ⟨_, _, hL.symm.trans (jm hr (by simp)), rfl, rfl⟩
  ·
   by_cases h2 : 1073741824 < x
   ·
    have hx : ade x = false := by rw [Bool.eq_false_iff]; intro h; have := ZP.1 h; omega
    rw [hx, Bool.false_and]
    conv at hr =>
     rhs
     rw [hTe]
     simp only [zq.jd, zq.code, zq.rs, zSs, reduceIte, Nat.reduceEqDiff, Int.reduceEq, Int.reduceLT, Int.reduceLE, d1, e1, Zk, decide_eq_false h1, decide_eq_true h2]
    exact ⟨_, _, hL.symm.trans (jm hr (by simp)), rfl, rfl⟩
   ·
    have hx : ade x = true := ZP.2 (by omega)
    rw [hx, Bool.true_and]
    conv at hr =>
     rhs
     rw [hTe]
     simp only [zq.jd, zq.code, zq.rs, zSs, reduceIte, Nat.reduceEqDiff, Int.reduceEq, Int.reduceLT, Int.reduceLE, d1, e1, Zk, decide_eq_false h1, decide_eq_false h2, wi]
    obtain ⟨e, T', g1, g2⟩ := ih (pre ++ [x]) ((jY hr).symm.trans hL) rfl rfl rfl rfl (by simp [hpre])
    exact ⟨e, T', g1, g2⟩
theorem zq.v {r : wE} (hr0 : r.Ok) (S : zi) : zV Try.prog O zq.id [rv r] S = some (.bool (jV r), S) := by
 obtain ⟨T, hTe⟩ : ∃ T, T = (rv r :: undef :: undef :: undef :: undef :: undef :: undef :: undef :: undef :: undef :: undef :: undef :: undef :: undef :: undef :: undef :: undef :: undef :: undef :: undef :: undef :: undef :: undef :: undef :: undef :: undef :: undef :: undef :: undef :: undef :: []) := ⟨_, rfl⟩
 have hr : zD Try.prog O false zq.code T zi.empty = zD Try.prog O false zq.code T zi.empty := rfl
 have g0 := WO r
 have hc : [rv r].all (jf 16) = true := all1 (Zh hr0.okl.le)
 have ln : ∀ S, qA Try.prog 56 (iz 2 [r.kind, r.index, r.view, r.value]) S = some (.int .i64 4, S) := fun S => V9 Okl.own
 conv at hr =>
  rhs
  rw [hTe]
  simp only [zq.code, zq.rs, zSs, reduceIte, Nat.reduceEqDiff, Int.reduceEq, Int.reduceLT, Int.reduceLE, afT, kY, xg, kJ, kP, ac8 g0, abQ g0, acn g0, ac1 g0, bs4, ln]
 generalize hL : wS (zD Try.prog O false zq.jd) _ _ = w at hr
 obtain ⟨e, T', rfl, g⟩ := zq.round (Okl.own (l := [r.kind, r.index, r.view, r.value])) rfl [r.kind, r.index, r.view, r.value] [] hL rfl rfl rfl rfl rfl
 unfold jV xY
 cases h : [r.kind, r.index, r.view, r.value].all ade with
 | true =>
  rw [h] at g
  obtain ⟨rfl, g2, g3⟩ := g
  have g3 : T'.getD 1 undef = .pointer (some ⟨0, 0, none⟩) := g3
  have hTe' := zq.eta g2
  rw [g3] at hTe'
  have lt : ∀ S, qA Try.prog 26 (by_ r.k r.txt) S = some (.int .i64 r.txt.length, S) := fun S => qc hr0.okl
  conv at hr =>
   rhs
   rw [hTe']
   simp only [zq.code, zq.rs, zSs, reduceIte, Nat.reduceEqDiff, Int.reduceEq, Int.reduceLT, Int.reduceLE, kR, ac2 g0 hr0.ne, lt]
  rw [hTe] at hr
  rw [Bool.true_and]
  exact zq.runs hr (.inr rfl) hc rfl
 | false =>
  rw [h] at g
  obtain ⟨rfl, g2⟩ := g
  conv at hr =>
   rhs
   simp only [zSs, reduceIte, Nat.reduceEqDiff, Int.reduceEq, Int.reduceLT, Int.reduceLE]
  rw [hTe] at hr
  have hrun := zq.runs (S := S) hr (.inr rfl) hc (by rw [g2]; rfl)
  rw [g2] at hrun
  rw [Bool.false_and]
  exact hrun
def ZB (r : wE) : List UInt8 := encs (xY r) ++ Wj r.txt
def jX (r : wE) : List UInt8 := Wj (ZB r)
def acB (r : wE) : Value := if jV r then .tuple #[by_ 2 (jX r), .int .i64 0] else .tuple #[.slice none 0 0, .int .i64 51]
theorem Yv {l : List UInt8} (h : l.length ≤ 1000000000) : (Wj l).length ≤ l.length + 10 := by
 unfold Wj
 have := kV (n := l.length) (by omega)
 rw [List.length_append]; omega
theorem Zy {r : wE} (h : jV r = true) : (ZB r).length ≤ 1100 := by
 obtain ⟨h1, h2⟩ := qQ h
 have e1 : (encs (xY r)).length ≤ 40 := YK (l := xY r) (fun n hn => by have := h1 n hn; omega)
 have e2 := Yv (l := r.txt) (by omega)
 unfold ZB
 rw [List.length_append]; omega
theorem KR {r : wE} (h : jV r = true) : (jX r).length ≤ 1200 := by
 have := Zy h
 have := Yv (l := ZB r) (by omega)
 unfold jX; omega
theorem Ze (r : wE) : 0 < (jX r).length := by
 unfold jX Wj
 have := ZY (ZB r).length
 rw [List.length_append]; omega
theorem zy.w {r : wE} (hr0 : r.Ok) (hR : jV r = true) : (∀ S, zV Try.prog O 32 [iz 1 [r.kind, r.index, r.view, r.value]] S = some (.tuple #[by_ 2 (encs (xY r)), .int .i64 0], S)) ∧ (∀ S, zV Try.prog O 33 [by_ r.k r.txt] S = some (.tuple #[by_ 2 (Wj r.txt), .int .i64 0], S)) ∧
  (∀ S, zV Try.prog O 33 [by_ 1 (ZB r)] S = some (.tuple #[by_ 2 (jX r), .int .i64 0], S)) ∧ (∀ S, jl Try.prog 26 26 (by_ 2 (encs (xY r))) (by_ 1 (Wj r.txt)) S = some (by_ 2 (ZB r), S)) := by
 obtain ⟨few, hl⟩ := qQ hR
 have hi := Zy hR
 have el := Yv (l := r.txt) (by omega)
 refine ⟨fun S => ?_, fun S => ?_, fun S => ?_, fun S => ?_⟩
 ·
  rw [zA.v (l := [r.kind, r.index, r.view, r.value]) Okl.read (by decide) (fun n hn => by have := few n hn; omega) S, abX (l := [r.kind, r.index, r.view, r.value]) (by simp) (fun n hn => (few n hn).1) (by simp)]; rfl
 ·
  rw [jq.v hr0.okl hr0.ne S, ach, if_neg (by omega)]
 ·
  rw [jq.v (l := ZB r) Okl.read (by decide) S, ach, if_neg (by omega)]; rfl
 ·
  have e1 : (encs (xY r)).length ≤ 40 := YK (l := xY r) (fun n hn => by have := few n hn; omega)
  rw [yu Okl.own (by decide) Okl.read (by omega), if_neg (by omega)]; rfl
theorem zy.v {r : wE} (hr0 : r.Ok) (S : zi) : zV Try.prog O zy.id [rv r] S = some (acB r, S) := by
 obtain ⟨T, hTe⟩ : ∃ T, T = (rv r :: undef :: undef :: undef :: undef :: undef :: undef :: undef :: undef :: undef :: undef :: undef :: undef :: undef :: undef :: undef :: undef :: undef :: undef :: undef :: undef :: undef :: undef :: undef :: undef :: undef :: undef :: undef :: undef :: undef :: undef :: undef :: undef :: undef :: undef :: undef :: undef :: undef :: undef :: undef :: undef :: undef :: []) := ⟨_, rfl⟩
 have hr : zD Try.prog O false zy.code T zi.empty = zD Try.prog O false zy.code T zi.empty := rfl
 have g0 := WO r
 have hc : [rv r].all (jf 16) = true := all1 (Zh hr0.okl.le)
 have c0 := fun S => zq.v hr0 S
 unfold acB
 cases hR : jV r
 ·
  rw [hR] at c0
  conv at hr =>
   rhs
   rw [hTe]
   simp only [zy.code, zy.rs, zSs, reduceIte, Nat.reduceEqDiff, Int.reduceEq, Int.reduceLT, Int.reduceLE, afT, Vr g0 hr0.ne, c0]
  rw [hTe] at hr
  exact zy.runs hr (.inr rfl) rfl rfl hc rfl
 ·
  rw [hR] at c0
  obtain ⟨w1, w2, w3, w4⟩ := zy.w hr0 hR
  conv at hr =>
   rhs
   rw [hTe]
   simp only [zy.code, zy.rs, zSs, reduceIte, Nat.reduceEqDiff, Int.reduceEq, Int.reduceLT, Int.reduceLE, afT, Vr g0 hr0.ne, c0, kY, xg, kJ, kP, kR, ac8 g0, abQ g0, acn g0, ac1 g0, ac2 g0 hr0.ne, if_neg hr0.ne, bs4, w1, w2, w3, w4]
  rw [hTe] at hr
  exact zy.runs hr (.inr rfl) (by simp only [List.getD_cons_succ, List.getD_cons_zero, zQ, zL, zG, zI, zM]) rfl hc (xZ (all2 (Yy (k := 2) (Nat.le_refl 2)) rfl))
end Go.Proofs.Ytblpnklfimkfoaa
namespace Go.Proofs.Ytblpnklfimkfoaa
open Go.Abs
theorem Xx {k : Nat} {l : List Int} {i : Int} {x : Int} {m : Nat} (h : Okl k l) (hi : i = (m : Int)) (hx : l[m]? = some x) (S : zi) : zZ Try.prog 56 (iz k l) (.int .i64 i) S = some (EP [.int .i64 x], S) := by
 obtain ⟨h1, h2⟩ := List.getElem?_eq_some_iff.mp hx
 subst hi
 rw [aeW h (by omega) (by omega)]
 simp [← h2]
theorem aeo (l : List UInt8) : yx 4 l = none ∨ ∃ a b c d r, yx 4 l = some ([a, b, c, d], r) ∧ r.length ≤ l.length := by
 cases h : yx 4 l with
 | none => exact .inl rfl
 | some ar =>
  obtain ⟨a, r⟩ := ar
  obtain ⟨h1, h2⟩ := XH h
  match a, h1 with
  | [x, y, z, w], _ => exact .inr ⟨x, y, z, w, r, rfl, h2⟩
theorem Zc {x : wE} (hx : jV x = true) (s : List UInt8) : yx 4 (ZB x ++ s) = some (xY x, Wj x.txt ++ s) := by
 obtain ⟨f1, _⟩ := qQ hx
 exact (Zv _ _ _ _).mpr ⟨rfl, by rw [ZB, List.append_assoc], fun n hn => by have := f1 n hn; unfold Few; omega⟩
def xJ (x y : wE) : Prop := x.kind = y.kind ∧ x.index = y.index ∧ x.view = y.view ∧ x.value = y.value ∧ x.txt = y.txt
theorem xJ.refl (x : wE) : xJ x x := ⟨rfl, rfl, rfl, rfl, rfl⟩
theorem xJ.symm {x y : wE} (h : xJ x y) : xJ y x := ⟨h.1.symm, h.2.1.symm, h.2.2.1.symm, h.2.2.2.1.symm, h.2.2.2.2.symm⟩
theorem xJ.trans {x y z : wE} (h : xJ x y) (k : xJ y z) : xJ x z := ⟨h.1.trans k.1, h.2.1.trans k.2.1, h.2.2.1.trans k.2.2.1, h.2.2.2.1.trans k.2.2.2.1, h.2.2.2.2.trans k.2.2.2.2⟩
theorem xJ.like {x y : wE} (h : xJ x y) : jV x = jV y ∧ ZB x = ZB y ∧ jX x = jX y := by
 obtain ⟨h1, h2, h3, h4, h5⟩ := h
 simp only [jV, jX, ZB, xY, h1, h2, h3, h4, h5, and_self]
theorem ab9 {x y : wE} {s t : List UInt8} (hx : jV x = true) (hy : jV y = true) (h : jX x ++ s = jX y ++ t) : xJ x y ∧ s = t := by
 have ix := Zy hx; have iy := Zy hy
 have e1 := wY (l := ZB x) (r := s) (by omega)
 have e2 := wY (l := ZB y) (r := t) (by omega)
 have h : Wj (ZB x) ++ s = Wj (ZB y) ++ t := h
 rw [h, e2] at e1
 simp only [Option.some.injEq, Prod.mk.injEq] at e1
 obtain ⟨e3, e4⟩ := e1
 have f1 := Zc hx []
 have f2 := Zc hy []
 rw [List.append_nil, List.append_nil] at f1 f2
 rw [← e3, f2] at f1
 simp only [Option.some.injEq, Prod.mk.injEq, xY, List.cons.injEq, and_true] at f1
 obtain ⟨⟨a1, a2, a3, a4⟩, a5⟩ := f1
 have t1 := wY (l := x.txt) (r := []) (by have := (qQ hx).2; omega)
 have t2 := wY (l := y.txt) (r := []) (by have := (qQ hy).2; omega)
 rw [List.append_nil] at t1 t2
 rw [← a5, t2] at t1
 simp only [Option.some.injEq, Prod.mk.injEq, and_true] at t1
 exact ⟨⟨a1.symm, a2.symm, a3.symm, a4.symm, t1.symm⟩, e4.symm⟩
def Yf (l : List UInt8) (r : wE) (ok : Bool) : Prop := r.Ok ∧ ((ok = true ∧ jV r = true ∧ l = ZB r) ∨ (ok = false ∧ ∀ x, jV x = true → l ≠ ZB x))
theorem WV {n : Int} (h : Few n) : Big n := by unfold Few at h; unfold Big; omega
theorem ac0 {l : List UInt8} (h : yx 4 l = none) : Yf l rz false := ⟨afA, .inr ⟨rfl, fun x hx hl => by
 have := Zc hx []
 rw [List.append_nil, ← hl, h] at this; cases this⟩⟩
theorem abj {l s : List UInt8} {a b c d : Int} (h : yx 4 l = some ([a, b, c, d], s)) (h2 : JY s = none) : Yf l rz false := ⟨afA, .inr ⟨rfl, fun x hx hl => by
 have := Zc hx []
 rw [List.append_nil, ← hl, h] at this
 simp only [Option.some.injEq, Prod.mk.injEq] at this
 have t := wY (l := x.txt) (r := []) (by have := (qQ hx).2; omega)
 rw [← this.2, h2] at t; cases t⟩⟩
theorem acf {l s t u : List UInt8} {a b c d : Int} (hl : l.length ≤ 140737488351232) (h : yx 4 l = some ([a, b, c, d], s)) (h2 : JY s = some (t, u)) : Yf l ⟨a, b, c, d, 1, t⟩ (decide ((u.length : Int) = 0) && jV ⟨a, b, c, d, 1, t⟩) := by
 obtain ⟨_, g2, few⟩ := (Zv _ _ _ _).mp h
 obtain ⟨f1, f2⟩ := Wl h2
 refine ⟨⟨Okl.read, by show (1 : Nat) ≠ 2; decide, by show t.length ≤ _; omega, WV (few _ (by simp)), WV (few _ (by simp)), WV (few _ (by simp)), WV (few _ (by simp))⟩, ?_⟩
 cases hR : (decide ((u.length : Int) = 0) && jV ⟨a, b, c, d, 1, t⟩)
 ·
  refine .inr ⟨rfl, fun x hx hl => ?_⟩
  have := Zc hx []
  rw [List.append_nil, ← hl, h] at this
  simp only [Option.some.injEq, Prod.mk.injEq, xY, List.cons.injEq, and_true] at this
  obtain ⟨⟨i1, i2, i3, i4⟩, i5⟩ := this
  have t2 := wY (l := x.txt) (r := []) (by have := (qQ hx).2; omega)
  rw [← i5, h2] at t2
  simp only [Option.some.injEq, Prod.mk.injEq] at t2
  have hs : xJ ⟨a, b, c, d, 1, t⟩ x := ⟨i1, i2, i3, i4, t2.1⟩
  rw [hs.like.1, hx, t2.2] at hR
  simp at hR
 ·
  rw [Bool.and_eq_true, decide_eq_true_eq] at hR
  refine .inl ⟨rfl, hR.2, ?_⟩
  have hu : u = [] := List.length_eq_zero_iff.1 (by omega)
  rw [g2, f1, hu, List.append_nil]
  rfl
theorem zx.v {k : Nat} {l : List UInt8} (hk : Okl k l) (k2 : k ≠ 2) (hl : l.length ≤ 140737488351232) : ∃ r ok, Yf l r ok ∧ ∀ S, zV Try.prog O zx.id [by_ k l] S = some (.tuple #[rv r, .bool ok], S) := by
 have a1 : y8 Try.prog 28 zi.empty = some (.pointer (some ⟨0, 0, none⟩), aeJ rz) := aec zi.empty
 have g1 := WO rz
 have ne0 : (0 : Nat) ≠ 2 := by decide
 have cl : [by_ k l].all (jf 16) = true := all1 (Yy (k := k) hk.le)
 obtain ⟨T, hTe⟩ : ∃ T, T = (by_ k l :: undef :: undef :: undef :: undef :: undef :: undef :: undef :: undef :: undef :: undef :: undef :: undef :: undef :: undef :: undef :: undef :: undef :: undef :: undef :: undef :: undef :: undef :: undef :: undef :: undef :: undef :: undef :: undef :: undef :: undef :: undef :: undef :: undef :: undef :: undef :: undef :: undef :: undef :: undef :: undef :: undef :: undef :: undef :: undef :: undef :: undef :: undef :: undef :: undef :: undef :: undef :: undef :: []) := ⟨_, rfl⟩
 have hr : zD Try.prog O false zx.code T zi.empty = zD Try.prog O false zx.code T zi.empty := rfl
 have c1 := fun S => zn.v (many := 4) hk k2 (by omega) S
 have r1 : ∀ k0 k1, JK k0 k1 4 l = _ := fun k0 k1 => Kt (m := 4) (by decide) (by decide)
 rw [r1] at c1
 have z0 : ∀ S, yC Try.prog 28 [] S = some (rv rz, S) := fun S => XJ S
 rcases aeo l with h | ⟨a, b, c, d, s, h, hlr⟩
 ·
  rw [h] at c1
  have s1 := afk g1 rz
  refine ⟨rz, false, ac0 h, fun S => ?_⟩
  conv at hr =>
   rhs
   rw [hTe]
   simp only [zx.code, zx.rs, zSs, reduceIte, Nat.reduceEqDiff, Int.reduceEq, Int.reduceLT, Int.reduceLE, if_neg k2, a1, c1, z0, s1]
  rw [hTe] at hr
  exact zx.runs hr (.inr rfl) (Vr (Zb _ 0 rz) ne0) rfl rfl cl rfl
 ·
  rw [h] at c1
  have c2 := fun S => zF.v (k := 1) (l := s) Okl.read (by decide) (by omega) S
  unfold Xq at c2
  have a2 : y8 Try.prog 28 (aeJ rz) = some (.pointer (some ⟨1, 0, none⟩), KJ rz rz) := aec (aeJ rz)
  have s1 := afk (aax rz rz) rz
  have g2 := Zb (KJ rz rz) 1 rz
  have g3 : (adz (KJ rz rz) 1 rz).get 0 = some (.cells (fR rz) (.own []) 0) := (abE (by decide)).trans (abD rz rz)
  generalize adz (KJ rz rz) 1 rz = A2 at s1 g2 g3
  cases ht : JY s with
  | none =>
   rw [ht] at c2
   have s3 := afk g3 rz
   refine ⟨rz, false, abj h ht, fun S => ?_⟩
   conv at hr =>
    rhs
    rw [hTe]
    simp only [zx.code, zx.rs, zSs, reduceIte, Nat.reduceEqDiff, Int.reduceEq, Int.reduceLT, Int.reduceLE, if_neg k2, a1, c1, c2, z0, a2, s1, Vr g2 ne0, adN (adg _), Js g2, s3]
   rw [hTe] at hr
   exact zx.runs hr (.inr rfl) (Vr (Zb _ 0 rz) ne0) rfl rfl cl rfl
  | some tu =>
   obtain ⟨t, u⟩ := tu
   rw [ht] at c2
   have i0 := fun S => Xx (k := 1) (i := 0) (m := 0) (l := [a, b, c, d]) Okl.read rfl rfl S
   have i1 := fun S => Xx (k := 1) (i := 1) (m := 1) (l := [a, b, c, d]) Okl.read rfl rfl S
   have i2 := fun S => Xx (k := 1) (i := 2) (m := 2) (l := [a, b, c, d]) Okl.read rfl rfl S
   have i3 := fun S => Xx (k := 1) (i := 3) (m := 3) (l := [a, b, c, d]) Okl.read rfl rfl S
   have hP := acf hl h ht
   have ne1 : (1 : Nat) ≠ 2 := by decide
   have bd := fun S => xK (y0 := .int .i64 a) (y1 := .int .i64 b) (y2 := .int .i64 c) (y3 := .int .i64 d) (y4 := by_ 1 t) vP vP vP vP abO S
   have s2 : qm Try.prog 28 (.pointer (some ⟨1, 0, none⟩)) (.agg [Value.int .i64 a, .int .i64 b, .int .i64 c, .int .i64 d, by_ 1 t].toArray) A2 = some (undef, adz A2 1 ⟨a, b, c, d, 1, t⟩) := afk g2 ⟨a, b, c, d, 1, t⟩
   have q1 := Zb A2 1 ⟨a, b, c, d, 1, t⟩
   have q0 : (adz A2 1 ⟨a, b, c, d, 1, t⟩).get 0 = some (.cells (fR rz) (.own []) 0) := (abE (by decide)).trans g3
   generalize adz A2 1 ⟨a, b, c, d, 1, t⟩ = A3 at s2 q1 q0
   have s3 := afk q0 ⟨a, b, c, d, 1, t⟩
   have c3 := fun S => zq.v hP.1 S
   have lu : ∀ S, qA Try.prog 26 (by_ 1 u) S = some (.int .i64 u.length, S) := fun S => qc Okl.read
   refine ⟨_, _, hP, fun S => ?_⟩
   conv at hr =>
    rhs
    rw [hTe]
    simp only [zx.code, zx.rs, zSs, reduceIte, Nat.reduceEqDiff, Int.reduceEq, Int.reduceLT, Int.reduceLE, if_neg k2, a1, c1, c2, z0, a2, s1, i0, i1, i2, i3, Zk, bd, s2, Vr q1 ne1, adN (adg _), lu, jT (Vr q1 ne1), jT (c3 _), gvw, Js q1, s3]
   rw [hTe] at hr
   exact zx.runs hr (.inr rfl) (Vr (Zb A3 0 ⟨a, b, c, d, 1, t⟩) ne1) rfl rfl cl (xZ (all2 (Zh hP.1.okl.le) rfl))
def YW (l : List UInt8) (rs : List wE) (n : Nat) : Prop := (∀ r ∈ rs, r.Ok ∧ jV r = true) ∧ n = (rs.flatMap jX).length ∧ ∃ rest, l = rs.flatMap jX ++ rest ∧ ∀ x t, jV x = true → rest ≠ jX x ++ t
inductive kH : List wE → List wE → Prop
 | nil : kH [] []
 | cons {x y : wE} {l m : List wE} (h : xJ x y) (k : kH l m) : kH (x :: l) (y :: m)
theorem Vp : ∀ (a b : List wE) (l : List UInt8) (n m : Nat), YW l a n → YW l b m → kH a b ∧ n = m := by
 intro a
 induction a with
 | nil =>
  intro b l n m ⟨_, h2, rest, h3, h4⟩ ⟨k1, k2, rest2, k3, k4⟩
  cases b with
  | nil => exact ⟨.nil, by rw [h2, k2]⟩
  | cons y b =>
   rw [List.flatMap_nil, List.nil_append] at h3
   exact absurd (h3.symm.trans (k3.trans (by rw [List.flatMap_cons, List.append_assoc]))) (h4 y _ (k1 y (by simp)).2)
 | cons x a ih =>
  intro b l n m ⟨h1, h2, rest, h3, h4⟩ ⟨k1, k2, rest2, k3, k4⟩
  cases b with
  | nil =>
   rw [List.flatMap_nil, List.nil_append] at k3
   exact absurd (k3.symm.trans (h3.trans (by rw [List.flatMap_cons, List.append_assoc]))) (k4 x _ (h1 x (by simp)).2)
  | cons y b =>
   rw [List.flatMap_cons, List.append_assoc] at h3 k3
   obtain ⟨e1, e2⟩ := ab9 (h1 x (by simp)).2 (k1 y (by simp)).2 (h3.symm.trans k3)
   obtain ⟨i1, i2⟩ := ih b (a.flatMap jX ++ rest) _ _ ⟨fun r hr => h1 r (by simp [hr]), rfl, rest, rfl, h4⟩ ⟨fun r hr => k1 r (by simp [hr]), rfl, rest2, e2, k4⟩
   refine ⟨.cons e1 i1, ?_⟩
   rw [h2, k2, List.flatMap_cons, List.flatMap_cons, List.length_append, List.length_append, i2, e1.like.2.2]
abbrev rl (k : Nat) (l : List wE) : Value := vs fR 5 k l
theorem aau (r : wE) (S : zi) : zW Try.prog 22 1 [(0, rv r)] S = some (rl 2 [r], S) := by kernel_rfl
theorem aaj {k : Nat} {l : List wE} {r : wE} {S : zi} (h : Okl k l) (hk : k ≠ 1) (hl : l.length ≤ 2000000000000) : jl Try.prog 22 22 (rl k l) (rl 2 [r]) S = some (rl 2 (l ++ [r]), S) := by
 rw [Jw qN qE VX rfl aaA (by omega) qN adE aeG h hk Okl.own (by simp; omega) (by simp; omega), if_neg (fun h => by have := h.2; simp at this)]
end Go.Proofs.Ytblpnklfimkfoaa
namespace Go.Proofs.Ytblpnklfimkfoaa
open Go.Abs
theorem aeg {k : Nat} {l : List UInt8} {m : Int} {S : zi} (h : Okl k l) (h0 : 0 ≤ m) (h1 : m ≤ l.length) : yA Try.prog 26 (by_ k l) (some (.int .i64 m)) none S = some (by_ (if k = 2 then 1 else k) (l.drop m.toNat), S) := by
 rw [vK h (i := m) (j := l.length) rfl rfl h0 h1 (by omega)]
 congr 2
 rw [List.take_of_length_le (by rw [List.length_drop]; omega)]
theorem YD : ∀ (rs : List wE), rs.length ≤ (rs.flatMap jX).length
 | [] => by simp
 | r :: rs => by
  have := YD rs; have := Ze r
  rw [List.flatMap_cons, List.length_append, List.length_cons]; omega
theorem acH {k d : Nat} {l : List wE} (h : k ≤ 2) (hl : ∀ r ∈ l, r.Ok) : jf (d + 12) (rl k l) = true := ZQ (d := d + 8) h fun r hr => by
 have h3 : jf (d + 8) (by_ r.k r.txt) = true := ZQ (d := d + 4) (hl r hr).okl.le fun _ _ => rfl
 simp only [fR, List.all_cons, List.all_nil, h3, Bool.and_true]
 rfl
section
variable {k : Nat} {l : List UInt8}
theorem zo.round (hk : Okl k l) (k2 : k ≠ 2) (hl : l.length ≤ 1000000000000) : ∀ (n : Nat) (suf : List UInt8) (out : List wE) {T : List Value} {r : St} {S : zi}, wS (zD Try.prog O false zo.jd) T S = r → T.length = 43 → suf.length ≤ n →
  T.getD 0 undef = by_ k l → T.getD 4 undef = rl (if out = [] then 0 else 2) out → T.getD 5 undef = .int .i64 (out.flatMap jX).length → l = out.flatMap jX ++ suf → (∀ r ∈ out, r.Ok ∧ jV r = true) →
  ∃ T' S' rs m, r = some (.exit 0, T', S') ∧ T'.length = 43 ∧ T'.getD 4 undef = rl (if rs = [] then 0 else 2) rs ∧ T'.getD 5 undef = .int .i64 (m : Nat) ∧ YW l rs m := by
 intro n
 induction n with
 | zero =>
  intro suf out T r S hL hT hn h0 h4 h5 hpre hout
  have hs : suf = [] := List.length_eq_zero_iff.1 (by omega)
  have hTe := zo.eta hT
  rw [h0, h4, h5] at hTe
  have hr : zD Try.prog O false zo.jd T S = zD Try.prog O false zo.jd T S := rfl
  have d1 : ¬ ((out.flatMap jX).length : Int) < (l.length : Int) := by rw [hpre, hs]; simp
  conv at hr =>
   rhs
   rw [hTe]
   simp only [zo.jd, zo.code, zo.rs, zSs, reduceIte, Nat.reduceEqDiff, Int.reduceEq, Int.reduceLT, Int.reduceLE, if_neg k2, qc hk, goInt, d1]
  refine ⟨_, _, out, _, hL.symm.trans (jm hr (by simp)), rfl, rfl, rfl, hout, rfl, [], by rw [hpre, hs], fun x t hx h => ?_⟩
  have := congrArg List.length h
  have := Ze x
  rw [List.length_append, List.length_nil] at *
  omega
 | succ n ih =>
  intro suf out T r S hL hT hn h0 h4 h5 hpre hout
  have hTe := zo.eta hT
  rw [h0, h4, h5] at hTe
  have hr : zD Try.prog O false zo.jd T S = zD Try.prog O false zo.jd T S := rfl
  have hll : l.length = (out.flatMap jX).length + suf.length := by rw [hpre, List.length_append]
  by_cases d1 : ((out.flatMap jX).length : Int) < (l.length : Int)
  ·
   have sl := fun S => aeg (S := S) hk (m := (out.flatMap jX).length) (by omega) (by omega)
   rw [Int.toNat_natCast, show l.drop (out.flatMap jX).length = suf by rw [hpre, List.drop_left], if_neg k2] at sl
   have hk0 : k = 1 := by
    have := hk.le
    by_cases h0 : k = 0
    ·
     have := hk.nil h0; rw [this] at d1; simp at d1; omega
    ·
     omega
   have c1 := fun S => zF.v (k := k) (l := suf) ⟨hk.le, fun h => by omega⟩ k2 (by omega) S
   unfold Xq at c1
   cases ht : JY suf with
   | none =>
    rw [ht] at c1
    conv at hr =>
     rhs
     rw [hTe]
     simp only [zo.jd, zo.code, zo.rs, zSs, reduceIte, Nat.reduceEqDiff, Int.reduceEq, Int.reduceLT, Int.reduceLE, if_neg k2, qc hk, goInt, d1, sl, c1]
    refine ⟨_, _, out, _, hL.symm.trans (jm hr (by simp)), rfl, rfl, rfl, hout, rfl, suf, hpre, fun x t hx h => ?_⟩
    have := wY (l := ZB x) (r := t) (by have := Zy hx; omega)
    rw [show Wj (ZB x) ++ t = suf from h.symm, ht] at this
    cases this
   | some tu =>
    obtain ⟨t, u⟩ := tu
    rw [ht] at c1
    obtain ⟨f1, f2⟩ := Wl ht
    obtain ⟨r1, ok, ⟨ro, hP⟩, c2⟩ := zx.v (k := 1) (l := t) Okl.read (by decide) (by omega)
    obtain ⟨S2, b1, b2, b3, b4⟩ := Kv r1 S
    rcases hP with ⟨rfl, hR, ht1⟩ | ⟨rfl, hno⟩
    ·
     have hsuf : suf = jX r1 ++ u := by rw [f1, ht1]; rfl
     have hout2 : ∀ r ∈ out ++ [r1], r.Ok ∧ jV r = true := fun r hr => by
      rcases List.mem_append.1 hr with hr | hr
      ·
       exact hout r hr
      ·
       rw [List.mem_singleton.1 hr]; exact ⟨ro, hR⟩
     have efl : (out ++ [r1]).flatMap jX = out.flatMap jX ++ jX r1 := by simp
     have hpre2 : l = (out ++ [r1]).flatMap jX ++ u := by rw [efl, List.append_assoc, ← hsuf]; exact hpre
     have hlu : l.length = ((out ++ [r1]).flatMap jX).length + u.length := by have h9 := congrArg List.length hpre2; rwa [List.length_append] at h9
     have rp := Ze r1
     have hol := YD out
     have lu : ∀ S, qA Try.prog 26 (by_ 1 u) S = some (.int .i64 u.length, S) := fun S => qc Okl.read
     have wi : IntKind.i64.wrap ((l.length : Int) - u.length) = (((out ++ [r1]).flatMap jX).length : Int) := by rw [wrap_i64 (by omega) (by omega)]; omega
     have c3 : ji Try.prog false 28 (.pointer (some ⟨S.next, 0, none⟩)) S2 = some (rv r1, S2) := Vr b2 ro.ne
     have ap := fun S => aaj (S := S) (r := r1) (k := if out = [] then 0 else 2) (l := out) ⟨by split <;> omega, fun h => by split at h <;> first | assumption | omega⟩ (by split <;> omega) (by omega)
     conv at hr =>
      rhs
      rw [hTe]
      simp only [zo.jd, zo.code, zo.rs, zSs, reduceIte, Nat.reduceEqDiff, Int.reduceEq, Int.reduceLT, Int.reduceLE, if_neg k2, qc hk, goInt, d1, sl, c1, c2, aec, b1, c3, aau, ap, lu, wi]
     exact ih u (out ++ [r1]) ((jY hr).symm.trans hL) rfl (by rw [hsuf, List.length_append] at hn; omega) rfl (by rw [show (if out ++ [r1] = [] then 0 else 2) = 2 from if_neg (by simp)]; rfl) rfl hpre2 hout2
    ·
     conv at hr =>
      rhs
      rw [hTe]
      simp only [zo.jd, zo.code, zo.rs, zSs, reduceIte, Nat.reduceEqDiff, Int.reduceEq, Int.reduceLT, Int.reduceLE, if_neg k2, qc hk, goInt, d1, sl, c1, c2, aec, b1]
     refine ⟨_, _, out, _, hL.symm.trans (jm hr (by simp)), rfl, rfl, rfl, hout, rfl, suf, hpre, fun x t hx h => ?_⟩
     have := wY (l := ZB x) (r := t) (by have := Zy hx; omega)
     rw [show Wj (ZB x) ++ t = suf from h.symm, ht] at this
     simp only [Option.some.injEq, Prod.mk.injEq] at this
     exact hno x hx this.1
  ·
   conv at hr =>
    rhs
    rw [hTe]
    simp only [zo.jd, zo.code, zo.rs, zSs, reduceIte, Nat.reduceEqDiff, Int.reduceEq, Int.reduceLT, Int.reduceLE, if_neg k2, qc hk, goInt, d1]
   have hs : suf = [] := List.length_eq_zero_iff.1 (by omega)
   refine ⟨_, _, out, _, hL.symm.trans (jm hr (by simp)), rfl, rfl, rfl, hout, rfl, [], by rw [← hs]; exact hpre, fun x t hx h => ?_⟩
   have := congrArg List.length h
   have := Ze x
   rw [List.length_append, List.length_nil] at *
   omega
theorem zo.v (hk : Okl k l) (k2 : k ≠ 2) (hl : l.length ≤ 1000000000000) : ∃ rs m, YW l rs m ∧ ∀ S, zV Try.prog O zo.id [by_ k l] S = some (.tuple #[rl (if rs = [] then 0 else 2) rs, .int .i64 (m : Nat)], S) := by
 obtain ⟨T, hTe⟩ : ∃ T, T = (by_ k l :: undef :: undef :: undef :: undef :: undef :: undef :: undef :: undef :: undef :: undef :: undef :: undef :: undef :: undef :: undef :: undef :: undef :: undef :: undef :: undef :: undef :: undef :: undef :: undef :: undef :: undef :: undef :: undef :: undef :: undef :: undef :: undef :: undef :: undef :: undef :: undef :: undef :: undef :: undef :: undef :: undef :: undef :: []) := ⟨_, rfl⟩
 have hr : zD Try.prog O false zo.code T zi.empty = zD Try.prog O false zo.code T zi.empty := rfl
 conv at hr =>
  rhs
  rw [hTe]
  simp only [zo.code, zo.rs, zSs, reduceIte, Nat.reduceEqDiff, Int.reduceEq, Int.reduceLT, Int.reduceLE]
 generalize hL : wS (zD Try.prog O false zo.jd) _ _ = r at hr
 obtain ⟨T', S', rs, m, rfl, g1, g2, g3, g4⟩ := zo.round hk k2 hl l.length l [] hL rfl (Nat.le_refl _) rfl rfl rfl rfl (fun r h => by cases h)
 have hT' := zo.eta g1
 rw [g2, g3] at hT'
 conv at hr =>
  rhs
  rw [hT']
  simp only [zo.code, zo.rs, zSs, reduceIte, Nat.reduceEqDiff, Int.reduceEq, Int.reduceLT, Int.reduceLE]
 rw [hTe] at hr
 refine ⟨rs, m, g4, fun S => ?_⟩
 have hkk : (if rs = [] then 0 else 2) ≤ 2 := by split <;> omega
 exact zo.runs hr (.inr rfl) (by simp only [List.getD_cons_succ, List.getD_cons_zero, zQ, zL, zG, zI, zM]) rfl (all1 (Yy (k := k) hk.le)) (xZ (all2 (acH (d := 3) hkk fun r h => (g4.1 r h).1) rfl))
end
end Go.Proofs.Ytblpnklfimkfoaa
namespace Go.Proofs.Ytblpnklfimkfoaa
open Go.Abs
def Jd (S : zi) (q : Nat) (a : Option Addr) (data : List UInt8) : Prop :=
 (a = none ∧ data = []) ∨ ∃ r anc rest, a = some ⟨r, 0, none⟩ ∧ S.get r = some (.cells (data.flatMap cb ++ rest) (.own anc) 1) ∧ q < r ∧ r < S.next ∧ ∀ a ∈ anc, q < a ∧ a < r
def Old (q : Nat) (S S1 : zi) : Prop := ∀ k, k < q → S1.get k = S.get k
theorem Old.refl (q : Nat) (S : zi) : Old q S S := fun _ _ => rfl
theorem Old.trans {q : Nat} {S S1 S2 : zi} (h : Old q S S1) (k : Old q S1 S2) : Old q S S2 := fun i hi => (k i hi).trans (h i hi)
theorem Old.set {q r : Nat} {S S1 : zi} (h : Old q S S1) (hr : q ≤ r) (o : wL) : Old q S (S1.set r o) := fun i hi => by rw [zi.jk, if_neg (by omega)]; exact h i hi
structure Dk (S : zi) (q : Nat) (data : List UInt8) (sy room : Int) : Prop where
 lt : q < S.next
 len : data.length ≤ 65536
 sy0 : 0 ≤ sy
 syl : sy ≤ data.length
 rm0 : 0 ≤ room
 rml : room ≤ 65536
 cell : ∃ a, S.get q = some (.cells [.slice a data.length data.length, .int .i64 sy, .int .i64 room] (.own []) 0) ∧ Jd S q a data
theorem Dk.ext {S S1 : zi} {q : Nat} {data : List UInt8} {sy room : Int} (h : Dk S q data sy room) (k : Ext S S1) : Dk S1 q data sy room := by
 obtain ⟨a, h1, h2⟩ := h.cell
 refine ⟨Nat.lt_of_lt_of_le h.lt k.1, h.len, h.sy0, h.syl, h.rm0, h.rml, a, by rw [k.2 q h.lt]; exact h1, ?_⟩
 rcases h2 with h2 | ⟨r, anc, rest, h3, h4, h5, h6, h7⟩
 ·
  exact .inl h2
 ·
  exact .inr ⟨r, anc, rest, h3, by rw [k.2 r h6]; exact h4, h5, Nat.lt_of_lt_of_le h6 k.1, h7⟩
theorem Dk.put {S : zi} {q : Nat} {data data' : List UInt8} {sy room sy' room' : Int} {a : Option Addr} (h : Dk S q data sy room) (hd : Jd S q a data') (h0 : data'.length ≤ 65536) (h1 : 0 ≤ sy') (h2 : sy' ≤ data'.length) (h3 : 0 ≤ room') (h4 : room' ≤ 65536) {cs : List Value} (hc : cs = [.slice a data'.length data'.length, .int .i64 sy', .int .i64 room']) :
  Dk (S.set q (.cells cs (.own []) 0)) q data' sy' room' := by
 subst hc
 refine ⟨by simpa using h.lt, h0, h1, h2, h3, h4, a, by rw [zi.jk, if_pos rfl], ?_⟩
 rcases hd with hd | ⟨r, anc, rest, k1, k2, k3, k4, k5⟩
 ·
  exact .inl hd
 ·
  exact .inr ⟨r, anc, rest, k1, by rw [zi.jk, if_neg (by omega)]; exact k2, k3, by simpa using k4, k5⟩
theorem Jd.take {S : zi} {q : Nat} {a : Option Addr} {data : List UInt8} (h : Jd S q a data) (n : Nat) : Jd S q a (data.take n) := by
 rcases h with ⟨h1, h2⟩ | ⟨r, anc, rest, k1, k2, k3, k4, k5⟩
 ·
  exact .inl ⟨h1, by rw [h2, List.take_nil]⟩
 ·
  refine .inr ⟨r, anc, (data.drop n).flatMap cb ++ rest, k1, ?_, k3, k4, k5⟩
  rw [k2, ← List.append_assoc, ← List.flatMap_append, List.take_append_drop]
section
variable {S : zi} {q : Nat} {data : List UInt8} {sy room : Int}
end
end Go.Proofs.Ytblpnklfimkfoaa
namespace Go.Proofs.Ytblpnklfimkfoaa
open Go.Abs
section
variable {S : zi} {q : Nat} {data : List UInt8} {sy room : Int}
theorem xW (l : List UInt8) : (l.flatMap cb).length = l.length := by rw [qM Qz, Nat.mul_one]
theorem adB (l : List UInt8) : (l.flatMap cb).all (·.oneCell') = true := by rw [List.all_flatMap, List.all_eq_true]; exact fun x _ => rfl
theorem Jd.append {a : Option Addr} {k : Nat} {b : List UInt8} (hd : Jd S q a data) (hq : q < S.next) (hk : Okl k b) (hl : data.length + b.length ≤ 65536) :
  ∃ a' S1, yc Try.prog true 26 26 (.slice a data.length data.length) (by_ k b) S = some (.slice a' (data ++ b).length (data ++ b).length, S1) ∧ Jd S1 q a' (data ++ b) ∧ S1.get q = S.get q ∧ q < S1.next ∧ Old q S S1 ∧ ∀ p, p < S.next → (∀ r, a = some ⟨r, 0, none⟩ → r < p) → S1.get p = S.get p := by
 have hsrc : JO Try.prog 26 1 (by_ k b) S = some (b.length, b.flatMap cb) := acK jw hk.okv (by rw [xW, Nat.mul_one]) (adB b)
 rcases hd with ⟨rfl, rfl⟩ | ⟨r, anc, rest, rfl, k2, k3, k4, k5⟩
 ·
  have e1 := XD (t := 26) (tx := 26) (S := S) jw yR Jf rfl JF (by decide) hsrc (by simp at hl; omega) (by simp at hl; omega)
  by_cases h0 : b.length = 0
  ·
   have hb : b = [] := List.length_eq_zero_iff.1 h0
   subst hb
   exact ⟨none, S, e1, .inl ⟨rfl, rfl⟩, rfl, hq, Old.refl _ _, fun _ _ _ => rfl⟩
  ·
   rw [if_neg h0, if_neg h0] at e1
   refine ⟨some ⟨S.next, 0, none⟩, _, e1, .inr ⟨S.next, [], [], rfl, ?_, by omega, by simp, by simp⟩, ?_, by simp; omega, fun k hk => by rw [zi.zT, if_neg (by omega)], fun p hp _ => by rw [zi.zT, if_neg (by omega)]⟩
   ·
    rw [zi.zT, if_pos rfl, List.append_nil, List.nil_append]
   ·
    rw [zi.zT, if_neg (by omega)]
 ·
  have hlen : (data.flatMap cb).length = data.length := xW data
  have htk : ((data.flatMap cb ++ rest).drop 0).take (data.length * 1) = data.flatMap cb := by
   rw [List.drop_zero, Nat.mul_one, ← hlen, List.take_left]
  have e1 := X7 (hp := true) (t := 26) (tx := 26) (o := 0) (n := data.length) (c := data.length) jw yR Jf rfl JF (by decide) hsrc k2 (by rw [List.length_append, hlen]; omega) (by omega) (by omega) (by rw [htk]; exact adB data)
  rw [htk, ← List.length_append] at e1
  by_cases h0 : 0 + data.length * 1 = (data.flatMap cb ++ rest).length
  ·
   rw [if_pos h0] at e1
   refine ⟨some ⟨S.next, 0, none⟩, _, e1, .inr ⟨S.next, _, [], rfl, by rw [zi.zT, zi.yT, if_pos rfl, List.append_nil, List.flatMap_append], by omega, by simp, ?_⟩, ?_, by simp; omega, fun k hk => by rw [zi.zT, zi.yT, if_neg (by omega), zi.jk, if_neg (by omega)], fun p hp hr => by have := hr r rfl; rw [zi.zT, zi.yT, if_neg (by omega), zi.jk, if_neg (by omega)]⟩
   ·
    split
    ·
     simp
    ·
     intro x h; rcases List.mem_cons.1 h with h | h
     ·
      omega
     ·
      have := k5 x h; omega
   ·
    rw [zi.zT, zi.yT, if_neg (by omega), zi.jk, if_neg (by omega)]
  ·
   rw [if_neg h0] at e1
   refine ⟨some ⟨S.next, 0, none⟩, _, e1, .inr ⟨S.next, [], [], rfl, by rw [zi.zT, zi.yT, zi.xB, if_pos rfl, List.append_nil, List.flatMap_append], by omega, by simp, by simp⟩, ?_, by simp; omega, fun k hk => by rw [zi.zT, zi.yT, zi.xB, if_neg (by omega), zi.jk, if_neg (by omega), zi.yP, if_neg (fun h => by have := k5 k h; omega)], fun p hp hr => by have := hr r rfl; rw [zi.zT, zi.yT, zi.xB, if_neg (by omega), zi.jk, if_neg (by omega), zi.yP, if_neg (fun h => by have := k5 p h; omega)]⟩
   rw [zi.zT, zi.yT, zi.xB, if_neg (by omega), zi.jk, if_neg (by omega), zi.yP, if_neg (fun h => by have := k5 q h; omega)]
theorem Jd.slice {a : Option Addr} {dr : Bool} (hd : Jd S q a data) {hi : Int} (h0 : 0 ≤ hi) (h1 : hi ≤ data.length) (hdr : dr = false) :
  ∃ a', wB Try.prog dr 26 (.slice a data.length data.length) none (some (.int .i64 hi)) S = some (.slice a' (data.take hi.toNat).length (data.take hi.toNat).length, S) ∧ Jd S q a' (data.take hi.toNat) := by
 have hd0 := hd
 rcases hd with ⟨rfl, rfl⟩ | ⟨r, anc, rest, rfl, k2, k3, k4, k5⟩
 ·
  have h1 : hi ≤ 0 := h1
  refine ⟨none, ?_, hd0.take _⟩
  rw [List.take_nil]
  exact aaT jw yR (l := 0) (h := hi) rfl rfl (by omega) h0 h1
 ·
  refine ⟨some ⟨r, 0, none⟩, ?_, hd0.take _⟩
  have := abd (P := Try.prog) (t := 26) (o := 0) (n := data.length) (c := data.length) (lo := none) (hi := some (.int .i64 hi)) (l := 0) (h := hi) hdr k2 jw yR rfl rfl (by omega) h0 h1
  rw [this]
  have e : hi.toNat - Int.toNat 0 = (data.take hi.toNat).length := by rw [List.length_take]; omega
  rw [e]
  rfl
end
end Go.Proofs.Ytblpnklfimkfoaa
namespace Go.Proofs.Ytblpnklfimkfoaa
open Go.Abs
theorem adK {t : TypeId} {a b : List UInt8} {S : zi} : xk Try.prog .eql t (.string ⟨a.toArray⟩) (.string ⟨b.toArray⟩) S = some (.bool (decide (a = b)), S) := by rw [XL]
end Go.Proofs.Ytblpnklfimkfoaa
namespace Go.Proofs.Ytblpnklfimkfoaa
open Go.Abs
theorem aeV {k : Nat} {l : List UInt8} {m : Int} {S : zi} (h : Okl k l) (h0 : 0 ≤ m) (h1 : m ≤ l.length) : yA Try.prog 26 (by_ k l) none (some (.int .i64 m)) S = some (by_ (if k = 2 then 1 else k) (l.take m.toNat), S) := by
 rw [vK h (i := 0) (j := m) rfl rfl (by omega) h0 h1]
 simp
end Go.Proofs.Ytblpnklfimkfoaa
namespace Go.Proofs.Ytblpnklfimkfoaa
open Go.Abs
theorem zH.v {a b : wE} (ha : a.Ok) (hb : b.Ok) (S : zi) : zV Try.prog O zH.id [rv a, rv b] S = some (.bool ((((decide (a.kind = b.kind) && decide (a.index = b.index)) && decide (a.view = b.view)) && decide (a.value = b.value)) && decide (a.txt = b.txt)), S) := by
 obtain ⟨T, hTe⟩ : ∃ T, T = (rv a :: rv b :: undef :: undef :: undef :: undef :: undef :: undef :: undef :: undef :: undef :: undef :: undef :: undef :: undef :: undef :: undef :: undef :: undef :: undef :: undef :: undef :: undef :: undef :: undef :: undef :: undef :: undef :: undef :: undef :: undef :: undef :: undef :: undef :: undef :: undef :: undef :: undef :: undef :: undef :: []) := ⟨_, rfl⟩
 have hr : zD Try.prog O false zH.code T zi.empty = zD Try.prog O false zH.code T zi.empty := rfl
 have g0 := abD a b
 have g1 := aax a b
 have hc : [rv a, rv b].all (jf 16) = true := all2 (Zh ha.okl.le) (Zh hb.okl.le)
 have s1 : ∀ S, kE Try.prog 26 9 (by_ a.k a.txt) S = some (.string ⟨a.txt.toArray⟩, S) := fun S => Xy ha.okl
 have s2 : ∀ S, kE Try.prog 26 9 (by_ b.k b.txt) S = some (.string ⟨b.txt.toArray⟩, S) := fun S => Xy hb.okl
 have s3 : ∀ S, jO Try.prog false false 26 9 (by_ a.k a.txt) S = some (.string ⟨a.txt.toArray⟩, S) := fun S => by rw [qF]; exact s1 S
 have s4 : ∀ S, jO Try.prog false false 26 9 (by_ b.k b.txt) S = some (.string ⟨b.txt.toArray⟩, S) := fun S => by rw [qF]; exact s2 S
 have cq : ∀ S, jM Try.prog .eql 9 (.string ⟨a.txt.toArray⟩) (.string ⟨b.txt.toArray⟩) S = some (.bool (decide (a.txt = b.txt)), S) := fun S => adK (t := 9)
 conv at hr =>
  rhs
  rw [hTe]
  simp only [zH.code, zH.rs, zSs, reduceIte, Nat.reduceEqDiff, Int.reduceEq, Int.reduceLT, Int.reduceLE, afT, afZ, kY, ac8 g0, ac8 g1, jT (xg _ _ _), jT (kJ _ _ _), jT (kP _ _ _), jT (kR _ _ _), jT (abQ g0), jT (abQ g1), jT (acn g0), jT (acn g1), jT (ac1 g0), jT (ac1 g1), jT (ac2 g0 ha.ne), jT (ac2 g1 hb.ne), jT (s1 _), jT (s2 _), jT (s3 _), jT (s4 _), jT (cq _), gvw]
 rw [hTe] at hr
 exact zH.runs hr (.inr rfl) hc rfl
theorem aaM {a b : wE} (ha : a.Ok) (hb : b.Ok) (h : xJ a b) (S : zi) : zV Try.prog O 38 [rv a, rv b] S = some (.bool true, S) := by
 obtain ⟨h1, h2, h3, h4, h5⟩ := h
 have := zH.v ha hb S
 simp only [h1, h2, h3, h4, h5, decide_true, Bool.and_self] at this
 exact this
theorem kH.len {a b : List wE} (h : kH a b) : a.length = b.length := by
 induction h with
 | nil => rfl
 | cons _ _ ih => simp [ih]
theorem kH.refl : ∀ l : List wE, kH l l
 | [] => .nil
 | x :: l => .cons (xJ.refl x) (kH.refl l)
theorem abT {k : Nat} {l pre suf : List wE} {x : wE} (hk : Okl k l) (hl : l = pre ++ x :: suf) (S : zi) : zZ Try.prog 22 (rl k l) (.int .i64 pre.length) S = some (EP [.int .i64 x.kind, .int .i64 x.index, .int .i64 x.view, .int .i64 x.value, by_ x.k x.txt], S) := by
 rw [aex qN qE adE hk (by omega) (by rw [hl]; simp; omega), adn hl]; rfl
theorem Ws {k : Nat} {l : List wE} (hk : Okl k l) (S : zi) : qA Try.prog 22 (rl k l) S = some (.int .i64 l.length, S) := aa5 qN hk
theorem zk.round {k j : Nat} {a b : List wE} (hk : Okl k a) (hj : Okl j b) (k2 : k ≠ 2) (j2 : j ≠ 2) (ha : ∀ r ∈ a, r.Ok) (hb : ∀ r ∈ b, r.Ok) (hl : a.length ≤ 2000000000000) {S : zi} : ∀ (sa sb pa pb : List wE) {T : List Value} {r : St}, kH sa sb → wS (zD Try.prog O false zk.jd) T S = r → T.length = 27 →
  T.getD 0 undef = rl k a → T.getD 1 undef = rl j b → T.getD 12 undef = .int .i64 a.length → T.getD 13 undef = .int .i64 pa.length → a = pa ++ sa → b = pb ++ sb → pa.length = pb.length →
  ∃ T', r = some (.exit 0, T', S) ∧ T'.length = 27 := by
 intro sa
 induction sa with
 | nil =>
  intro sb pa pb T r hs hL hT h0 h1 h12 h13 hpa hpb hp
  have hTe := zk.eta hT
  rw [h0, h1, h12, h13] at hTe
  have hr : zD Try.prog O false zk.jd T S = zD Try.prog O false zk.jd T S := rfl
  have d1 : ¬ (pa.length : Int) < (a.length : Int) := by rw [hpa]; simp
  conv at hr =>
   rhs
   rw [hTe]
   simp only [zk.jd, zk.code, zk.rs, zSs, reduceIte, Nat.reduceEqDiff, Int.reduceEq, Int.reduceLT, Int.reduceLE, d1]
  exact ⟨_, hL.symm.trans (jm hr (by simp)), rfl⟩
 | cons x sa ih =>
  intro sb pa pb T r hs hL hT h0 h1 h12 h13 hpa hpb hp
  cases hs with
  | @cons _ y _ sb hxy hs =>
  have hTe := zk.eta hT
  rw [h0, h1, h12, h13] at hTe
  have hr : zD Try.prog O false zk.jd T S = zD Try.prog O false zk.jd T S := rfl
  have hal : a.length = pa.length + sa.length + 1 := by rw [hpa]; simp; omega
  have d1 : (pa.length : Int) < (a.length : Int) := by omega
  have e1 := fun S => abT hk hpa S
  have e2 := fun S => abT hj hpb S
  rw [← hp] at e2
  have c1 := fun S => aaM (ha x (by rw [hpa]; simp)) (hb y (by rw [hpb]; simp)) hxy S
  have wi : IntKind.i64.wrap ((pa.length : Int) + 1) = ((pa ++ [x]).length : Int) := by rw [wrap_i64 (by omega) (by omega)]; simp
  conv at hr =>
   rhs
   rw [hTe]
   simp only [zk.jd, zk.code, zk.rs, zSs, reduceIte, Nat.reduceEqDiff, Int.reduceEq, Int.reduceLT, Int.reduceLE, if_neg k2, if_neg j2, d1, e1, e2, xC, c1, wi]
  exact ih sb (pa ++ [x]) (pb ++ [y]) hs ((jY hr).symm.trans hL) rfl rfl rfl rfl rfl (by simp [hpa]) (by simp [hpb]) (by simp [hp])
theorem zk.v {k j : Nat} {a b : List wE} (hk : Okl k a) (hj : Okl j b) (k2 : k ≠ 2) (j2 : j ≠ 2) (ha : ∀ r ∈ a, r.Ok) (hb : ∀ r ∈ b, r.Ok) (hl : a.length ≤ 2000000000000) (hs : kH a b) (S : zi) : zV Try.prog O zk.id [rl k a, rl j b] S = some (.bool true, S) := by
 obtain ⟨T, hTe⟩ : ∃ T, T = (rl k a :: rl j b :: undef :: undef :: undef :: undef :: undef :: undef :: undef :: undef :: undef :: undef :: undef :: undef :: undef :: undef :: undef :: undef :: undef :: undef :: undef :: undef :: undef :: undef :: undef :: undef :: undef :: []) := ⟨_, rfl⟩
 have hr : zD Try.prog O false zk.code T S = zD Try.prog O false zk.code T S := rfl
 have el : (b.length : Int) = (a.length : Int) := by rw [hs.len]
 conv at hr =>
  rhs
  rw [hTe]
  simp only [zk.code, zk.rs, zSs, reduceIte, Nat.reduceEqDiff, Int.reduceEq, Int.reduceLT, Int.reduceLE, if_neg k2, if_neg j2, Ws hk, Ws hj, el, decide_true, Bool.not_true]
 generalize hL : wS (zD Try.prog O false zk.jd) _ _ = r at hr
 obtain ⟨T', rfl, g1⟩ := zk.round hk hj k2 j2 ha hb hl a b [] [] hs hL rfl rfl rfl rfl rfl rfl rfl rfl
 have hT' := zk.eta g1
 conv at hr =>
  rhs
  rw [hT']
  simp only [zk.code, zk.rs, zSs, reduceIte, Nat.reduceEqDiff, Int.reduceEq, Int.reduceLT, Int.reduceLE]
 rw [hTe] at hr
 exact zk.runs hr (.inr rfl)
abbrev abl : Ty := .pair (.int .i64) (.pair (.int .i64) (.pair (.int .i64) (.pair (.int .i64) (.pair (.slc 1 (.int .u8)) .unit))))
theorem afx (x : abl.Val) (hg : abl.Good x) : ∃ r : wE, abl.ZJ x = fR r ∧ r.Ok := by
 obtain ⟨a, b, c, d, t, u⟩ := x
 obtain ⟨h1, h2, h3, h4, h5, _⟩ := hg
 obtain ⟨k, l, p1, p2, p3, p4⟩ := Xf t h5
 refine ⟨⟨a, b, c, d, k, l⟩, ?_, ⟨p1, p2, p4, KY h1, KY h2, KY h3, KY h4⟩⟩
 show [Value.int .i64 a] ++ ([Value.int .i64 b] ++ ([Value.int .i64 c] ++ ([Value.int .i64 d] ++ ((Ty.slc 1 (.int .u8)).ZJ t ++ [])))) = _
 rw [p3]; rfl
theorem aej (x : (Ty.slc 56 abl).Val) (hg : (Ty.slc 56 abl).Good x) : ∃ k l, Okl k l ∧ k ≠ 2 ∧ (Ty.slc 56 abl).ZJ x = [rl k l] ∧ l.length * 56 ≤ 140737488351232 ∧ ∀ t ∈ l, t.Ok :=
 afd (b := 56) (e := abl) fR wE.Ok (fun x hx => afx x hx) (fun _ => rfl) x hg
end Go.Proofs.Ytblpnklfimkfoaa
namespace Go.Proofs.Ytblpnklfimkfoaa
open Go.Abs
theorem qj.v : ∃ S1, zV Try.prog O 10 [] zi.empty = some (.bool true, S1) := by
 have h : (qh Try.prog O 40 10 [] zi.empty).map (·.1) = some (.bool true) := by kernel_rfl
 cases hc : qh Try.prog O 40 10 [] zi.empty with
 | none => rw [hc] at h; cases h
 | some r =>
  obtain ⟨v, S1⟩ := r
  rw [hc] at h
  cases h
  exact ⟨S1, ac5 hc⟩
end Go.Proofs.Ytblpnklfimkfoaa
namespace Go.Proofs.Ytblpnklfimkfoaa
open Go.Abs Go.RowKit
theorem acv {X : Type} (d : DataW X) : 1 ≤ Rows.uptoBulk d := by
 cases d with
 | lit l => cases l <;> simp [Rows.uptoBulk]
 | nil => simp [Rows.uptoBulk]
 | ptr d => simp [Rows.uptoBulk]
 | slice elems spare => simp [Rows.uptoBulk]
 | agg parts => simp [Rows.uptoBulk]
 | iface t d => simp [Rows.uptoBulk]
 | map entries => simp [Rows.uptoBulk]
 | held h => simp [Rows.uptoBulk]
theorem acN {X : Type} (l : List (DataW X)) : l.length ≤ Rows.uptoBulkAll l := by
 induction l with
 | nil => simp [Rows.uptoBulkAll]
 | cons x r ih => have := acv x; simp only [Rows.uptoBulkAll, List.length_cons]; omega
section
variable {P : Program} {b0 : Nat} {W : World} {X : Type} {enc : TypeId × Value → X}
theorem XY {t e : TypeId} {v : Value} {d : DataW X} {p : List MemPlace} (ht : P.underlying t = some (.slice e)) (h : DataW.Trod enc P W 0 (fun _ => true) true t v d p) {a : Option Addr} {k c : Nat} (hv : v = .slice a k c) : k ≤ Rows.uptoBulk d := by
 subst hv
 obtain ⟨fuel, hf⟩ := h
 rcases DataW.trod_slice ht hf with ⟨h1, h2⟩ | ⟨a', len, cap, elems, rest, n, _, h1, h2, _, _, _, h3, _⟩
 ·
  simp [Value.cells] at h1
  omega
 ·
  simp [Value.cells] at h1
  simp only [Prod.mk.injEq] at h2
  rw [h2.1]
  have := acN (elems.map (·.1))
  simp only [Rows.uptoBulk]
  rw [List.length_map] at this
  omega
theorem YL (hmix : P.follows .mixedOrders = true) {n : Nat} {ts : List TypeId} {cs : List (Bool × Ty)} (hts : WB P n ts = some cs) {f : FuncId} {j N : Nat}
  (hlaw : ∀ x : Args cs, Args.Good cs x → (∀ (a : Option Addr) (k c : Nat), (Args.place cs x zi.empty).1[j]? = some (.slice a k c) → k ≤ N) → ∃ k, (qH P k f (Args.place cs x zi.empty).1 (Args.place cs x zi.empty).2).map (·.1) = some (.bool true))
  {args : Array Value} {ds : List (DataW X)} {ps : List MemPlace} (hA : DataW.TrodAll enc P W 0 (fun _ => true) true ts args.toList ds ps)
  (hv : ∀ (j : Nat) t v, ts[j]? = some t → args[j]? = some v → Value.okWide P W .any b0 t v) (hsz : (DataW.weightsEach P ts ds).all (· ≤ reachBytes) = true)
  (hN : ∀ (a : Option Addr) (k c : Nat), args.toList[j]? = some (.slice a k c) → k ≤ N) :
  Calls P f args W fun e W' => e = .returned (.bool true) ∧ Below W.heap.size W W' := by
 obtain ⟨x, hx1, hx2⟩ := abw ts cs args.toList ds ps hts hA (fun j t v h1 h2 => hv j t v h1 (by simpa using h2)) (fun y hy => by simpa using List.all_eq_true.1 hsz y hy)
 obtain ⟨m, hm, hr, hl⟩ := hx2 W.heap.size W (fun _ => none) zi.empty (Nat.le_refl _) (abf W)
 obtain ⟨k, hk⟩ := hlaw x hx1 (fun a k c hi => by
  have h1 := hl.2 j
  have hj : j < args.toList.length := by
   rw [← hl.1]
   exact (List.getElem?_eq_some_iff.1 hi).1
  rw [List.getD_eq_getElem?_getD, hi, Option.getD_some, List.getD_eq_getElem?_getD, List.getElem?_eq_getElem hj, Option.getD_some] at h1
  have hN' : ∀ (a : Option Addr) (k c : Nat), args.toList[j] = .slice a k c → k ≤ N := fun a k c h => hN a k c (by rw [List.getElem?_eq_getElem hj, h])
  generalize args.toList[j] = v at h1 hN'
  cases h1 with
  | sliceNil => omega
  | slice h hn hl => exact hN' _ _ _ rfl
  | slice0 h hl ha => omega
  | sliceE a c => omega)
 obtain ⟨⟨v, H'⟩, hc, hv⟩ := Option.map_eq_some_iff.1 hk
 have hv' : v = .bool true := hv
 subst hv'
 have := (ad3 (P := P) (B := W.heap.size) (w0 := W) hmix k f _ _ _ _ hc m W args.toList hl hr).2
 rw [show args.toList.toArray = args by simp] at this
 refine this.mono fun e w' ⟨v', m', he, hvr, _, hr'⟩ => ⟨?_, hr'.below⟩
 cases hvr
 exact he
end
theorem abo (x : (Ty.slc 1 (.int .u8)).Val) (hg : (Ty.slc 1 (.int .u8)).Good x) (H : zi) : ∃ k l, Okl k l ∧ k ≠ 2 ∧ (Ty.slc 1 (.int .u8)).ZJ x = [by_ k l] ∧ ∃ a, ((Ty.slc 1 (.int .u8)).place x H).1 = [.slice a l.length l.length] := by
 obtain ⟨k, l, h1, h2, h3, _⟩ := Xf x hg
 refine ⟨k, l, h1, h2, h3, ?_⟩
 match x with
 | none =>
  have : l = [] := by
   have h3 : [Value.slice none 0 0] = [by_ k l] := h3
   by_cases hk : k = 0
   ·
    exact h1.nil hk
   ·
    simp only [by_, vs, sv, if_neg hk, List.cons.injEq, and_true] at h3
    cases h3
  rw [this]
  exact ⟨none, rfl⟩
 | some xs =>
  have hl : l.length = List.length (α := Int) xs := by
   have h3 : [SL 1 1 (List.length (α := Int) xs) ((show List Int from xs).flatMap fun n => [Value.int .u8 n])] = [by_ k l] := h3
   by_cases hk : k = 0
   ·
    subst hk
    simp only [by_, vs, sv, if_true, List.cons.injEq, and_true] at h3
    cases h3
   ·
    simp only [by_, vs, sv, if_neg hk, List.cons.injEq, and_true] at h3
    unfold SL at h3
    injection h3 with _ h3
    injection h3 with _ h3
    injection h3 with h3 _
    exact h3.symm
  match xs with
  | [] =>
   have hl : l.length = 0 := hl
   rw [hl]
   exact ⟨_, rfl⟩
  | y :: ys =>
   have hl : l.length = List.length (α := Int) ys + 1 := hl
   rw [hl]
   exact ⟨_, rfl⟩
end Go.Proofs.Ytblpnklfimkfoaa
namespace Go.Proofs.Ytblpnklfimkfoaa
open Go.Abs
namespace journalBack
def codes : List (Bool × Ty) := [(false, .slc 56 abl), (false, .slc 1 (.int .u8))]
theorem coded : WB Try.prog 9 [22, 26] = some codes := by kernel_rfl
theorem Ye : ∀ (want : List wE), (∀ t ∈ want, jV t = true) → (want.flatMap jX).length ≤ want.length * 1200
 | [], _ => by simp
 | x :: l, h => by
  have := Ye l fun t ht => h t (by simp [ht])
  have := KR (h x (by simp))
  rw [List.flatMap_cons, List.length_append, List.length_cons]; omega
theorem ad4 (r : wE) : 1 < (jX r).length := by
 have h1 := ZY (ZB r).length
 have h2 := ZY r.txt.length
 have h3 : (ZB r).length = (encs (xY r)).length + ((enc r.txt.length).length + r.txt.length) := by unfold ZB Wj; rw [List.length_append, List.length_append]
 unfold jX Wj
 rw [List.length_append]; omega
theorem aat {want : List wE} (h : ∀ t ∈ want, t.Ok ∧ jV t = true) : YW (want.flatMap jX ++ [0]) want (want.flatMap jX).length := by
 refine ⟨h, rfl, [0], rfl, fun x t _ e => ?_⟩
 have := congrArg List.length e
 have := ad4 x
 rw [List.length_append] at *
 simp at *
 omega
theorem round {k : Nat} {l : List wE} (hk : Okl k l) (k2 : k ≠ 2) (hl : l.length ≤ 40) (hg : ∀ t ∈ l, t.Ok) : ∀ (suf done : List wE) {T : List Value} {r : St} {S : zi} {want : List wE}, wS (zD Try.prog O false zh.jd) T S = r → T.length = 105 →
  T.getD 5 undef = by_ 2 (want.flatMap jX) → T.getD 6 undef = rl 2 want → T.getD 27 undef = rl k l → T.getD 28 undef = .int .i64 l.length → T.getD 29 undef = .int .i64 done.length → l = done ++ suf →
  (∀ t ∈ want, t.Ok ∧ jV t = true) → want.length ≤ done.length →
  ∃ T' S' want', r = some (.exit 0, T', S') ∧ T'.length = 105 ∧ T'.getD 1 undef = T.getD 1 undef ∧ T'.getD 5 undef = by_ 2 (want'.flatMap jX) ∧ T'.getD 6 undef = rl 2 want' ∧
   (∀ t ∈ want', t.Ok ∧ jV t = true) ∧ want'.length ≤ 40 := by
 intro suf
 induction suf with
 | nil =>
  intro done T r S want hL hT h5 h6 h27 h28 h29 hpre hw hwl
  have hTe := zh.eta hT
  rw [h5, h6, h27, h28, h29] at hTe
  have hr : zD Try.prog O false zh.jd T S = zD Try.prog O false zh.jd T S := rfl
  have d1 : ¬ (done.length : Int) < (l.length : Int) := by rw [hpre]; simp
  conv at hr =>
   rhs
   rw [hTe]
   simp only [zh.jd, zh.code, zh.rs, zSs, reduceIte, Nat.reduceEqDiff, Int.reduceEq, Int.reduceLT, Int.reduceLE, d1]
  exact ⟨_, _, want, hL.symm.trans (jm hr (by simp)), rfl, rfl, rfl, rfl, hw, by rw [hpre] at hl; simp at hl; omega⟩
 | cons x suf ih =>
  intro done T r S want hL hT h5 h6 h27 h28 h29 hpre hw hwl
  have hTe := zh.eta hT
  rw [h5, h6, h27, h28, h29] at hTe
  have hr : zD Try.prog O false zh.jd T S = zD Try.prog O false zh.jd T S := rfl
  have hll : l.length = done.length + suf.length + 1 := by rw [hpre]; simp; omega
  have d1 : (done.length : Int) < (l.length : Int) := by omega
  have xo := hg x (by rw [hpre]; simp)
  have e1 := fun S => abT hk hpre S
  have wi : IntKind.i64.wrap ((done.length : Int) + 1) = ((done ++ [x]).length : Int) := by rw [wrap_i64 (by omega) (by omega)]; simp
  obtain ⟨S2, b1, b2, b3, b4⟩ := Kv x S
  have c1 := fun S => zy.v xo S
  unfold acB at c1
  cases hR : jV x
  ·
   rw [hR] at c1
   conv at hr =>
    rhs
    rw [hTe]
    simp only [zh.jd, zh.code, zh.rs, zSs, reduceIte, Nat.reduceEqDiff, Int.reduceEq, Int.reduceLT, Int.reduceLE, d1, e1, xC, aec, b1, Vr b2 xo.ne, c1, wi]
   obtain ⟨T', S', w', q1, q2, q3, q4⟩ := ih (done ++ [x]) ((jY hr).symm.trans hL) rfl rfl rfl rfl rfl rfl (by simp [hpre]) hw (by simp; omega)
   exact ⟨T', S', w', q1, q2, q3, q4⟩
  ·
   rw [hR] at c1
   have rb := KR hR
   have fl := Ye want fun t ht => (hw t ht).2
   have ef : (want ++ [x]).flatMap jX = want.flatMap jX ++ jX x := by simp
   have a1 : ∀ S, jl Try.prog 26 26 (by_ 2 (want.flatMap jX)) (by_ 1 (jX x)) S = some (by_ 2 ((want ++ [x]).flatMap jX), S) := fun S => by
    rw [yu Okl.own (by decide) Okl.read (by omega), if_neg (by omega), ef]
   have ap := fun S => aaj (S := S) (r := x) (k := 2) (l := want) Okl.own (by decide) (by omega)
   conv at hr =>
    rhs
    rw [hTe]
    simp only [zh.jd, zh.code, zh.rs, zSs, reduceIte, Nat.reduceEqDiff, Int.reduceEq, Int.reduceLT, Int.reduceLE, d1, e1, xC, aec, b1, Vr b2 xo.ne, c1, a1, aau, ap, wi]
   obtain ⟨T', S', w', q1, q2, q3, q4⟩ := ih (done ++ [x]) (want := want ++ [x]) ((jY hr).symm.trans hL) rfl rfl rfl rfl rfl rfl (by simp [hpre]) (fun t ht => by
    rcases List.mem_append.1 ht with ht | ht
    ·
     exact hw t ht
    ·
     rw [List.mem_singleton.1 ht]; exact ⟨xo, hR⟩) (by simp; omega)
   exact ⟨T', S', w', q1, q2, q3, q4⟩
theorem afG {k : Nat} {l : List wE} (hk : Okl k l) (k2 : k ≠ 2) (hg : ∀ t ∈ l, t.Ok ∧ jV t = true) (hl : (l.flatMap jX).length ≤ 1000000000000) : ∀ (suf done : List wE) {T : List Value} {r : St} {S : zi}, wS (zD Try.prog O false zh.WZ) T S = r → T.length = 105 →
  T.getD 15 undef = by_ 2 (done.flatMap jX) → T.getD 75 undef = rl k l → T.getD 76 undef = .int .i64 l.length → T.getD 77 undef = .int .i64 done.length → l = done ++ suf →
  ∃ T' S', r = some (.exit 2, T', S') ∧ T'.length = 105 ∧ T'.getD 1 undef = T.getD 1 undef ∧ T'.getD 14 undef = T.getD 14 undef ∧ T'.getD 15 undef = by_ 2 (l.flatMap jX) := by
 intro suf
 induction suf with
 | nil =>
  intro done T r S hL hT h15 h75 h76 h77 hpre
  have hTe := zh.eta hT
  rw [h15, h75, h76, h77] at hTe
  have hr : zD Try.prog O false zh.WZ T S = zD Try.prog O false zh.WZ T S := rfl
  have d1 : ¬ (done.length : Int) < (l.length : Int) := by rw [hpre]; simp
  conv at hr =>
   rhs
   rw [hTe]
   simp only [zh.WZ, zh.code, zh.rs, zSs, reduceIte, Nat.reduceEqDiff, Int.reduceEq, Int.reduceLT, Int.reduceLE, d1]
  refine ⟨_, _, hL.symm.trans (jm hr (by simp)), rfl, rfl, rfl, ?_⟩
  rw [hpre, List.append_nil]; rfl
 | cons x suf ih =>
  intro done T r S hL hT h15 h75 h76 h77 hpre
  have hTe := zh.eta hT
  rw [h15, h75, h76, h77] at hTe
  have hr : zD Try.prog O false zh.WZ T S = zD Try.prog O false zh.WZ T S := rfl
  have hll : l.length = done.length + suf.length + 1 := by rw [hpre]; simp; omega
  have hfl : (l.flatMap jX).length = (done.flatMap jX).length + ((jX x).length + (suf.flatMap jX).length) := by rw [hpre]; simp
  have hrl := YD l
  have d1 : (done.length : Int) < (l.length : Int) := by omega
  have xo := hg x (by rw [hpre]; simp)
  have e1 := fun S => abT hk hpre S
  have wi : IntKind.i64.wrap ((done.length : Int) + 1) = ((done ++ [x]).length : Int) := by rw [wrap_i64 (by omega) (by omega)]; simp
  obtain ⟨S2, b1, b2, b3, b4⟩ := Kv x S
  have c1 := fun S => zy.v xo.1 S
  unfold acB at c1
  rw [xo.2] at c1
  have ef : (done ++ [x]).flatMap jX = done.flatMap jX ++ jX x := by simp
  have rp := Ze x
  have a1 : ∀ S, jl Try.prog 26 26 (by_ 2 (done.flatMap jX)) (by_ 1 (jX x)) S = some (by_ 2 ((done ++ [x]).flatMap jX), S) := fun S => by
   rw [yu Okl.own (by decide) Okl.read (by omega), if_neg (by omega), ef]
  conv at hr =>
   rhs
   rw [hTe]
   simp only [zh.WZ, zh.code, zh.rs, zSs, reduceIte, Nat.reduceEqDiff, Int.reduceEq, Int.reduceLT, Int.reduceLE, d1, e1, xC, aec, b1, Vr b2 xo.1.ne, c1, a1, wi]
  obtain ⟨T', S', q1, q2, q3, q4, q5⟩ := ih (done ++ [x]) ((jY hr).symm.trans hL) rfl rfl rfl rfl rfl (by simp [hpre])
  exact ⟨T', S', q1, q2, q3, q4, q5⟩
theorem run {k j : Nat} {l : List wE} {b : List UInt8} (hk : Okl k l) (k2 : k ≠ 2) (hg : ∀ t ∈ l, t.Ok) (hj : Okl j b) (j2 : j ≠ 2) (hb : b.length ≤ 1000000000000) : ∃ S', zV Try.prog O 7 [rl k l, by_ j b] zi.empty = some (.bool true, S') := by
 obtain ⟨T, hTe⟩ : ∃ T, T = (rl k l :: by_ j b :: undef :: undef :: undef :: undef :: undef :: undef :: undef :: undef :: undef :: undef :: undef :: undef :: undef :: undef :: undef :: undef :: undef :: undef :: undef :: undef :: undef :: undef :: undef :: undef :: undef :: undef :: undef :: undef :: undef :: undef :: undef :: undef :: undef :: undef :: undef :: undef :: undef :: undef :: undef :: undef :: undef :: undef :: undef :: undef :: undef :: undef :: undef :: undef :: undef :: undef :: undef :: undef :: undef :: undef :: undef :: undef :: undef :: undef :: undef :: undef :: undef :: undef :: undef :: undef :: undef :: undef :: undef :: undef :: undef :: undef :: undef :: undef :: undef :: undef :: undef :: undef :: undef :: undef :: undef :: undef :: undef :: undef :: undef :: undef :: undef :: undef :: undef :: undef :: undef :: undef :: undef :: undef :: undef :: undef :: undef :: undef :: undef :: undef :: undef :: undef :: undef :: undef :: undef :: []) := ⟨_, rfl⟩
 have hr : zD Try.prog O false zh.code T zi.empty = zD Try.prog O false zh.code T zi.empty := rfl
 obtain ⟨S1, c0⟩ := qj.v
 by_cases h1 : (40 : Int) < (l.length : Int)
 ·
  have dq := decide_eq_true h1
  conv at hr =>
   rhs
   rw [hTe]
   simp only [zh.code, zh.rs, zSs, reduceIte, Nat.reduceEqDiff, Int.reduceEq, Int.reduceLT, Int.reduceLE, c0, if_neg k2, Ws hk, dq]
  rw [hTe] at hr
  exact ⟨_, zh.runs hr (.inr rfl)⟩
 have dq := decide_eq_false h1
 have rl0 : ∀ S, zW Try.prog 22 0 [] S = some (rl 2 [], S) := fun S => by rw [JQ]; rfl
 conv at hr =>
  rhs
  rw [hTe]
  simp only [zh.code, zh.rs, zSs, reduceIte, Nat.reduceEqDiff, Int.reduceEq, Int.reduceLT, Int.reduceLE, c0, if_neg k2, Ws hk, dq, bb0, rl0]
 generalize hL : wS (zD Try.prog O false zh.jd) _ _ = r at hr
 obtain ⟨T', S2, want, rfl, g1, g2, g3, g4, g5, g6⟩ := round hk k2 (by omega) hg l [] (want := []) hL rfl rfl rfl rfl rfl rfl rfl (fun t ht => by cases ht) (Nat.le_refl _)
 have g2 : T'.getD 1 undef = by_ j b := g2
 have hT' := zh.eta g1
 rw [g2, g3, g4] at hT'
 have fl := Ye want fun t ht => (g5 t ht).2
 have lb : ∀ S, qA Try.prog 26 (by_ 1 (want.flatMap jX)) S = some (.int .i64 (want.flatMap jX).length, S) := fun S => qc Okl.read
 have b0 : ∀ S, zW Try.prog 26 1 [(0, .int .u8 0)] S = some (by_ 2 [0], S) := fun S => by kernel_rfl
 have cp : ∀ S, jl Try.prog 26 26 (by_ 2 []) (by_ 1 (want.flatMap jX)) S = some (by_ 2 (want.flatMap jX), S) := fun S => aa9 Okl.read (by omega)
 have cz : ∀ S, jl Try.prog 26 26 (by_ 2 (want.flatMap jX)) (by_ 2 [0]) S = some (by_ 2 (want.flatMap jX ++ [0]), S) := fun S => by
  rw [yu Okl.own (by decide) Okl.own (by rw [List.length_singleton]; omega), if_neg (by simp)]
 obtain ⟨rs, m, hs, c3⟩ := zo.v (k := 1) (l := want.flatMap jX ++ [0]) Okl.read (by decide) (by rw [List.length_append, List.length_singleton]; omega)
 obtain ⟨i1, i2⟩ := Vp _ _ _ _ _ hs (aat g5)
 subst i2
 have hk0 : Okl (if rs = [] then 0 else 2) rs := ⟨by split <;> omega, fun h => by split at h <;> first | assumption | omega⟩
 generalize (if rs = [] then 0 else 2) = k0 at c3 hk0
 have il := i1.len
 have c4 := fun S => zk.v hk0.dem (Okl.read (l := want)) (aaE _) (by decide) (fun t ht => (hs.1 t ht).1) (fun t ht => (g5 t ht).1) (by omega) i1 S
 have cb1 : ∀ S, jl Try.prog 26 26 (by_ 2 []) (by_ j b) S = some (by_ 2 b, S) := fun S => aa9 hj (by omega)
 obtain ⟨rs2, m2, hs2, c5⟩ := zo.v (k := 1) (l := b) Okl.read (by decide) hb
 have hk1 : Okl (if rs2 = [] then 0 else 2) rs2 := ⟨by split <;> omega, fun h => by split at h <;> first | assumption | omega⟩
 generalize (if rs2 = [] then 0 else 2) = k1 at c5 hk1
 obtain ⟨p1, p2, rest, p3, _⟩ := hs2
 subst p2
 have hbl : b.length = (rs2.flatMap jX).length + rest.length := by have := congrArg List.length p3; rwa [List.length_append] at this
 have e2 : decide (((rs2.flatMap jX).length : Int) ≤ (b.length : Int)) = true := decide_eq_true (by omega)
 have lb2 : ∀ S, qA Try.prog 26 (by_ j b) S = some (.int .i64 b.length, S) := fun S => qc hj
 have sl : ∀ S, yA Try.prog 26 (by_ j b) none (some (.int .i64 (rs2.flatMap jX).length)) S = some (by_ j (rs2.flatMap jX), S) := fun S => by
  rw [aeV hj (by omega) (by omega), if_neg j2, Int.toNat_natCast]
  rw [show b.take (rs2.flatMap jX).length = rs2.flatMap jX by rw [p3, List.take_left]]
 conv at hr =>
  rhs
  rw [hT']
  simp only [zh.code, zh.rs, zSs, reduceIte, Nat.reduceEqDiff, Int.reduceEq, Int.reduceLT, Int.reduceLE, bb0, cp, b0, cz, c3, afU, lb, Ws hk0.dem, c4, if_neg j2, cb1, c5, Ws hk1.dem]
 generalize hL2 : wS (zD Try.prog O false zh.WZ) _ _ = r at hr
 obtain ⟨T2, S3, rfl, f1, f2, f3, f4⟩ := afG hk1.dem (aaE _) p1 (by omega) rs2 [] hL2 rfl rfl rfl rfl rfl rfl
 have f2 : T2.getD 1 undef = by_ j b := f2
 have f3 : T2.getD 14 undef = .int .i64 (rs2.flatMap jX).length := f3
 have hT2 := zh.eta f1
 rw [f2, f3, f4] at hT2
 have s1 : ∀ S, kE Try.prog 26 9 (by_ 1 (rs2.flatMap jX)) S = some (.string ⟨(rs2.flatMap jX).toArray⟩, S) := fun S => Xy Okl.read
 have s2 : ∀ S, jO Try.prog false false 26 9 (by_ 1 (rs2.flatMap jX)) S = some (.string ⟨(rs2.flatMap jX).toArray⟩, S) := fun S => by rw [qF]; exact s1 S
 have hj3 : Okl j (rs2.flatMap jX) := ⟨hj.le, fun h => by
  have := hj.nil h
  rw [p3] at this
  exact (List.append_eq_nil_iff.1 this).1⟩
 have s3 : ∀ S, kE Try.prog 26 9 (by_ j (rs2.flatMap jX)) S = some (.string ⟨(rs2.flatMap jX).toArray⟩, S) := fun S => Xy hj3
 have s4 : ∀ S, jO Try.prog false false 26 9 (by_ j (rs2.flatMap jX)) S = some (.string ⟨(rs2.flatMap jX).toArray⟩, S) := fun S => by rw [qF]; exact s3 S
 have cq : ∀ S, jM Try.prog .eql 9 (.string ⟨(rs2.flatMap jX).toArray⟩) (.string ⟨(rs2.flatMap jX).toArray⟩) S = some (.bool true, S) := fun S => by
  have := adK (t := 9) (a := rs2.flatMap jX) (b := rs2.flatMap jX) (S := S)
  rw [decide_eq_true rfl] at this
  exact this
 conv at hr =>
  rhs
  rw [hT2]
  simp only [zh.code, zh.rs, zSs, reduceIte, Nat.reduceEqDiff, Int.reduceEq, Int.reduceLT, Int.reduceLE, if_neg j2, lb2, e2, s1, s2, sl, s3, s4, cq]
 rw [hTe] at hr
 exact ⟨_, zh.runs hr (.inr rfl)⟩
theorem law (x : Args codes) (h : Args.Good codes x) (hN : ∀ (a : Option Addr) (k c : Nat), (Args.place codes x zi.empty).1[1]? = some (.slice a k c) → k ≤ 1048576) : ∃ k, (qH Try.prog k 7 (Args.place codes x zi.empty).1 (Args.place codes x zi.empty).2).map (·.1) = some (.bool true) := by
 obtain ⟨a, b, u⟩ := x
 obtain ⟨h1, h2, _⟩ := h
 obtain ⟨k, l, p1, p2, p3, p4, p5⟩ := aej a h1
 obtain ⟨j, m, q1, q2, q3, ad, q4⟩ := abo b h2 ((Ty.slc 56 abl).place a zi.empty).2
 have hm : m.length ≤ 1048576 := by
  refine hN ad m.length m.length ?_
  show some (kD false ((Ty.slc 1 (.int .u8)).place b ((Ty.slc 56 abl).place a zi.empty).2).1) = _
  rw [q4]; rfl
 obtain ⟨S', e⟩ := run p1 p2 p5 q1 q2 (by omega)
 refine QO ae8 (S' := S') ?_
 have e2 : Args.ZJ codes (a, b, u) = [rl k l, by_ j m] := by
  show [kD false ((Ty.slc 56 abl).ZJ a), kD false ((Ty.slc 1 (.int .u8)).ZJ b)] = _
  rw [p3, q3]; rfl
 rw [e2]
 exact e
end journalBack
end Go.Proofs.Ytblpnklfimkfoaa
namespace Go.Proofs.Ytblpnklfimkfoaa.journalBack
open Go.ChangeShapes Go.WideShapes Go.ChangeAt Go.RowKit Go.Abs
theorem own : ownKnob Try.prog.godebug = none := by kernel_rfl
theorem laidOut : laidOutB Try.prog = true := by kernel_rfl
theorem mixes : Try.prog.follows .mixedOrders = true := by kernel_rfl
set_option maxRecDepth 100000 in
theorem lifted (os : Os) (started : os.Started) (H : Type) (enc : TypeId × Value → H) (F : Stop.Interp) :
  ReturnsInHanded {} Try.checked os 7 .any ((Rows.OpenSpec.upto Rows.journalBackSpec).pre6 enc Try.prog Try.f7 Rows.journalBackUptoRow.domain false) (((Rows.OpenSpec.upto Rows.journalBackSpec).at F).post enc Try.prog Try.f7 false true false false) := by
 refine returnsInHanded_of_cond_sized (C := Try.checked) (s := Rows.OpenSpec.upto Rows.journalBackSpec) (k := Rows.uptoSmall) rfl own started (by kernel_rfl) Try.func7
  (OpenSpec.witness (enc := enc) (C := Try.checked) (s := Rows.OpenSpec.upto Rows.journalBackSpec) (k := Rows.uptoSmall) rfl false ⟨#[], #[.slice none 0 0, .slice none 0 0], []⟩ 8 (by kernel_rfl) (by kernel_rfl) (by kernel_rfl) (x := ([.nil, .nil], [], [])) (by kernel_rfl) rfl (by kernel_rfl)) ?_
 intro W base args ds gs before hval0 hW hcnd hk hsz0 _
 have hW' := hW
 obtain ⟨p, q, hA0, hV, rfl, hfz, hnd⟩ := hW
 obtain ⟨rfl, rfl⟩ := trodVars_none hV
 have hsz1 : (DataW.weightsEach Try.prog (Try.f7.params.toList ++ Rows.journalBackSpec.plain.varTypes Try.prog) (ds ++ [])).all (· ≤ reachBytes) = true := hsz0
 have hval : ∀ (j : Nat) t v, Try.f7.params[j]? = some t → args[j]? = some v → Value.okWide Try.prog W .any base t v := hval0
 have hA1 : DataW.TrodAll enc Try.prog W 0 (fun _ => true) true Try.f7.params.toList args.toList ds p := hA0
 rw [Try.params7] at hA1 hsz1 hval
 have hA : DataW.TrodAll enc Try.prog W 0 (fun _ => true) true [22, 26] args.toList ds p := hA1
 have hsz : (DataW.weightsEach Try.prog [22, 26] ds).all (· ≤ reachBytes) = true := by rw [List.append_nil ds] at hsz1; exact hsz1
 clear hA0 hA1 hval0 hsz0 hsz1
 have r := hA
 obtain ⟨v0, vs0, d0, ds0, p0, q0, hargs0, rfl, hp0, h0, r0⟩ := trodAll_cons r
 obtain ⟨v1, vs1, d1, ds1, p1, q1, hargs1, rfl, hp1, h1, r1⟩ := trodAll_cons r0
 obtain ⟨_, rfl, _⟩ := trodAll_nil r1
 refine (YL mixes coded law hA (fun j t v h1 h2 => hval j t v (by rw [List.getElem?_toArray]; exact h1) h2) hsz (fun a k c hi => by
  rw [hargs0, hargs1] at hi
  have hi2 : v1 = .slice a k c := by simpa using hi
  have hb1 := XY Try.underlying26 h1 hi2
  have hb2 := of_decide_eq_true hk
  simp only [List.cons_append, List.nil_append, List.append_nil, Rows.uptoBulkAll] at hb2
  omega)).mono fun e W' ⟨he, bel⟩ => ?_
 subst he
 exact ⟨_, rfl, _, _, _, [], _, [], hW', trodAll_mk1 (shut_bool (by kernel_rfl) _), acS laidOut bel _ _ _ _ (by kernel_rfl) hA, rfl, bel.frame _, fun h => by cases h⟩
theorem over : Rows.JournalBackUptoSaid :=
 OpenClaim.holds_of_cond 7 Try.f7 rfl rfl rfl rfl rfl rfl rfl ⟨rfl, rfl, rfl, rfl, rfl⟩ rfl rfl rfl rfl rfl (by kernel_rfl) Try.func7 (by kernel_rfl)
  (of_decide_eq_true (by kernel_rfl)) (by unfold Func.isWrapper; first | (rw [if_pos (by decide +kernel)]; kernel_rfl) | (rw [if_neg (by decide +kernel)]; exact ⟨rfl, rfl⟩))
  (fun os started H enc _ F => lifted os started H enc F)
theorem proved : Rows.JournalBackUptoSaid := over
end Go.Proofs.Ytblpnklfimkfoaa.journalBack
namespace Go.Proofs.Ytblpnklfimkfoaa
theorem journalBack_holds : Rows.JournalBackUptoSaid := journalBack.proved
#print axioms journalBack_holds
end Go.Proofs.Ytblpnklfimkfoaa
