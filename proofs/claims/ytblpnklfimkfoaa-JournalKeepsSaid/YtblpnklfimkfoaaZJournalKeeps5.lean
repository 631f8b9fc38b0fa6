/-
The law JournalKeeps returns true for every input, and leaves it as it was; no condition. Part 5 of 5 of the texts (put together by a program: own names are short, what isn't needed is left out).
-/
import Derived.Test.YtblpnklfimkfoaaZJournalKeeps4
import Derived.Test.YtblpnklfimkfoaaChecked
import Derived.KernelRfl
import Derived.Test.YtblpnklfimkfoaaRows
import Derived.WalkKit
import Derived.ProofKit
import Derived.OpenShut
import Derived.ShutString
import Derived.ChangeOld
import Derived.Below
import Derived.SizedLaws
import Derived.Carry
set_option linter.unusedVariables false
set_option linter.unusedSimpArgs false
set_option maxRecDepth 100000
namespace Go.Proofs.Ytblpnklfimkfoaa
open Go.Abs
abbrev zC.id : FuncId := 11
noncomputable def zC.code : Code := (Code.seq (Code.region 0 (reg Try.f11 0) false) (Code.seq (Code.seq (Code.region 1 (reg Try.f11 1) false) (Code.cond (Operand.tmp 12) (Code.seq (Code.region 2 (reg Try.f11 2) false) Code.ret) Code.skip)) (Code.seq (Code.region 3 (reg Try.f11 3) false) (Code.seq (Code.region 4 (reg Try.f11 4) false) (Code.seq (Code.region 5 (reg Try.f11 5) false) (Code.seq (Code.seq (Code.region 6 (reg Try.f11 6) false) (Code.cond (Operand.tmp 40) (Code.seq (Code.region 7 (reg Try.f11 7) false) Code.ret) Code.skip)) (Code.seq (Code.region 8 (reg Try.f11 8) false) Code.ret)))))))
theorem zC.body : Try.f11.body = some zC.code := by kernel_rfl
variable (I J U V K P L Q M N a b c d f g i j k l m n o p q r s t u v w x y z A B C D E F G H : Value) (S : zi)
theorem zC.r0  : ji Try.prog ⟨false, false, false⟩ (zW Try.prog O) (reg Try.f11 0) (reg Try.f11 0).toList ([I,J,U,V,K,P,L,Q,M,N,a,b,c,d,f,g,i,j,k,l,m,n,o,p,q,r,s,t,u,v,w,x,y,z,A,B,C,D,E,F,G,H]) S =
  (zO (Y7 (dem I) S) (fun X R => some ([I,X,Value.slice none 0 0,Value.int IntKind.i64 0,K,P,L,Q,M,N,a,b,c,d,f,g,i,j,k,l,m,n,o,p,q,r,s,t,u,v,w,x,y,z,A,B,C,D,E,F,G,H], R)) ()) := by
 kernel_rfl
theorem zC.r1  : ji Try.prog ⟨false, false, false⟩ (zW Try.prog O) (reg Try.f11 1) (reg Try.f11 1).toList ([I,J,U,V,K,P,L,Q,M,N,a,b,c,d,f,g,i,j,k,l,m,n,o,p,q,r,s,t,u,v,w,x,y,z,A,B,C,D,E,F,G,H]) S =
  (zO (jo Try.prog false 28 J S) (fun X R => zO ((zW Try.prog O) 31 [(dem X)] R) (fun Y S2 => zO (aUn Try.prog UnOp.not Y S2) (fun W S3 => some ([I,J,U,V,K,P,L,Q,M,N,X,Y,W,d,f,g,i,j,k,l,m,n,o,p,q,r,s,t,u,v,w,x,y,z,A,B,C,D,E,F,G,H], S3)) ()) ()) ()) := by
 kernel_rfl
theorem zC.r2  : ji Try.prog ⟨false, false, false⟩ (zW Try.prog O) (reg Try.f11 2) (reg Try.f11 2).toList ([I,J,U,V,K,P,L,Q,M,N,a,b,c,d,f,g,i,j,k,l,m,n,o,p,q,r,s,t,u,v,w,x,y,z,A,B,C,D,E,F,G,H]) S =
  ( some ([I,J,Value.slice none 0 0,Value.int IntKind.i64 51,K,P,L,Q,M,N,a,b,c,d,f,g,i,j,k,l,m,n,o,p,q,r,s,t,u,v,w,x,y,z,A,B,C,D,E,F,G,H], S)) := by
 kernel_rfl
theorem zC.r3  : ji Try.prog ⟨false, false, false⟩ (zW Try.prog O) (reg Try.f11 3) (reg Try.f11 3).toList ([I,J,U,V,K,P,L,Q,M,N,a,b,c,d,f,g,i,j,k,l,m,n,o,p,q,r,s,t,u,v,w,x,y,z,A,B,C,D,E,F,G,H]) S =
  (zO (zK Try.prog 28 J 0 S) (fun X R => zO (jo Try.prog false 3 X R) (fun Y S2 => zO (zK Try.prog 28 J 1 S2) (fun W S3 => zO (jo Try.prog false 3 W S3) (fun v3 S4 => zO (zK Try.prog 28 J 2 S4) (fun v4 S5 => zO (jo Try.prog false 3 v4 S5) (fun Z S6 => zO (zK Try.prog 28 J 3 S6) (fun v6 S7 => zO (jo Try.prog false 3 v6 S7) (fun v7 S8 => zO (jr Try.prog 56 4 [(0, Y), (1, v3), (2, Z), (3, v7)] S8) (fun v8 S9 => zO ((zW Try.prog O) 32 [(dem v8)] S9) (fun v9 a2 => zO (zF v9 0 a2) (fun a0 a3 => zO (zF (zS 0 v9) 1 a3) (fun a1 a4 => some ([I,J,U,V,a0,a1,L,Q,M,N,a,b,c,zS 1 (zS 0 v9),X,Y,W,v3,v4,Z,v6,v7,v8,dem v9,dem a0,dem a1,s,t,u,v,w,x,y,z,A,B,C,D,E,F,G,H], a4)) ()) ()) ()) ()) ()) ()) ()) ()) ()) ()) ()) ()) := by
 kernel_rfl
theorem zC.r4  : ji Try.prog ⟨false, false, false⟩ (zW Try.prog O) (reg Try.f11 4) (reg Try.f11 4).toList ([I,J,U,V,K,P,L,Q,M,N,a,b,c,d,f,g,i,j,k,l,m,n,o,p,q,r,s,t,u,v,w,x,y,z,A,B,C,D,E,F,G,H]) S =
  (zO (zK Try.prog 28 J 4 S) (fun X R => zO (jo Try.prog false 26 X R) (fun Y S2 => zO ((zW Try.prog O) 33 [(dem Y)] S2) (fun W S3 => zO (zF W 0 S3) (fun v4 S4 => zO (zF (zS 0 W) 1 S4) (fun Z S5 => some ([I,J,U,V,K,P,v4,Z,M,N,a,b,c,d,f,g,i,j,k,l,m,n,o,p,q,r,zS 1 (zS 0 W),X,Y,dem W,dem v4,dem Z,y,z,A,B,C,D,E,F,G,H], S5)) ()) ()) ()) ()) ()) := by
 kernel_rfl
theorem zC.r5  : ji Try.prog ⟨false, false, false⟩ (zW Try.prog O) (reg Try.f11 5) (reg Try.f11 5).toList ([I,J,U,V,K,P,L,Q,M,N,a,b,c,d,f,g,i,j,k,l,m,n,o,p,q,r,s,t,u,v,w,x,y,z,A,B,C,D,E,F,G,H]) S =
  (zO (jS Try.prog 26 26 K (dem L) S) (fun W R => zO ((zW Try.prog O) 33 [(dem W)] R) (fun v3 S2 => zO (zF v3 0 S2) (fun Z S3 => zO (zF (zS 0 v3) 1 S3) (fun v6 S4 => some ([I,J,U,V,dem K,P,L,Q,Z,v6,a,b,c,d,f,g,i,j,k,l,m,n,o,p,q,r,s,t,u,v,w,x,zS 1 (zS 0 v3),dem K,dem L,W,dem v3,dem Z,dem v6,F,G,H], S4)) ()) ()) ()) ()) := by
 kernel_rfl
theorem zC.r6  : ji Try.prog ⟨false, false, false⟩ (zW Try.prog O) (reg Try.f11 6) (reg Try.f11 6).toList ([I,J,U,V,K,P,L,Q,M,N,a,b,c,d,f,g,i,j,k,l,m,n,o,p,q,r,s,t,u,v,w,x,y,z,A,B,C,D,E,F,G,H]) S =
  (zO (jW Try.prog BinOp.neq 29 (dem N) (Value.int IntKind.i64 0) S) (fun Y R => some ([I,J,U,V,K,P,L,Q,M,N,a,b,c,d,f,g,i,j,k,l,m,n,o,p,q,r,s,t,u,v,w,x,y,z,A,B,C,D,E,dem N,Y,H], R)) ()) := by
 kernel_rfl
theorem zC.r7  : ji Try.prog ⟨false, false, false⟩ (zW Try.prog O) (reg Try.f11 7) (reg Try.f11 7).toList ([I,J,U,V,K,P,L,Q,M,N,a,b,c,d,f,g,i,j,k,l,m,n,o,p,q,r,s,t,u,v,w,x,y,z,A,B,C,D,E,F,G,H]) S =
  ( some ([I,J,Value.slice none 0 0,Value.int IntKind.i64 51,K,P,L,Q,M,N,a,b,c,d,f,g,i,j,k,l,m,n,o,p,q,r,s,t,u,v,w,x,y,z,A,B,C,D,E,F,G,H], S)) := by
 kernel_rfl
theorem zC.r8  : ji Try.prog ⟨false, false, false⟩ (zW Try.prog O) (reg Try.f11 8) (reg Try.f11 8).toList ([I,J,U,V,K,P,L,Q,M,N,a,b,c,d,f,g,i,j,k,l,m,n,o,p,q,r,s,t,u,v,w,x,y,z,A,B,C,D,E,F,G,H]) S =
  ( some ([I,J,M,Value.int IntKind.i64 0,K,P,L,Q,dem M,N,a,b,c,d,f,g,i,j,k,l,m,n,o,p,q,r,s,t,u,v,w,x,y,z,A,B,C,D,E,F,G,dem M], S)) := by
 kernel_rfl
theorem zC.rs : type_of% (And.intro @zC.r0 (And.intro @zC.r1 (And.intro @zC.r2 (And.intro @zC.r3 (And.intro @zC.r4 (And.intro @zC.r5 (And.intro @zC.r6 (And.intro @zC.r7 (@zC.r8))))))))) := And.intro @zC.r0 (And.intro @zC.r1 (And.intro @zC.r2 (And.intro @zC.r3 (And.intro @zC.r4 (And.intro @zC.r5 (And.intro @zC.r6 (And.intro @zC.r7 (@zC.r8))))))))
theorem zC.runs {I : Value} {S R : zi} {e : AEx} {T : List Value} (h : zA Try.prog O false zC.code ([I,undef,undef,undef,undef,undef,undef,undef,undef,undef,undef,undef,undef,undef,undef,undef,undef,undef,undef,undef,undef,undef,undef,undef,undef,undef,undef,undef,undef,undef,undef,undef,undef,undef,undef,undef,undef,undef,undef,undef,undef,undef]) zi.empty = some (e, T, R)) (he : e = .normal ∨ e = .ret)  (h0 : jw (T.getD 2 undef) = true) (h1 : jw (T.getD 3 undef) = true) (hca : [I].all (jv 16) = true) (hcv : jv 16 (Value.tuple #[T.getD 2 undef, T.getD 3 undef]) = true) : zW Try.prog O 11 [I] S = some (Value.tuple #[T.getD 2 undef, T.getD 3 undef], S) :=
 xA rfl rfl Try.func11 (by decide) zC.body (by exact h) he ((yU ((show zJ Try.prog T R Try.f11.results.toList = zJ Try.prog T R [(ResultVar.tmp 2), (ResultVar.tmp 3)] from by kernel_rfl).trans (by simp only [zJ])) (by kernel_rfl) (by simp only [List.all_cons, List.all_nil, h0, h1, Bool.and_true])).trans rfl) hca hcv
end Go.Proofs.Ytblpnklfimkfoaa
namespace Go.Proofs.Ytblpnklfimkfoaa
open Go.Abs
abbrev jA.id : FuncId := 33
noncomputable def jA.code : Code := (Code.seq (Code.region 0 (reg Try.f33 0) false) (Code.seq (Code.seq (Code.region 1 (reg Try.f33 1) false) (Code.cond (Operand.tmp 6) (Code.seq (Code.region 2 (reg Try.f33 2) false) Code.ret) Code.skip)) (Code.seq (Code.region 3 (reg Try.f33 3) false) Code.ret)))
theorem jA.body : Try.f33.body = some jA.code := by kernel_rfl
variable (a f o p i j k l m n b c d : Value) (S : zi)
theorem jA.r0  : ji Try.prog ⟨false, false, false⟩ (zW Try.prog O) (reg Try.f33 0) (reg Try.f33 0).toList ([a,f,o,p,i,j,k,l,m,n,b,c,d]) S =
  ( some ([a,f,Value.slice none 0 0,Value.int IntKind.i64 0,i,j,k,l,m,n,b,c,d], S)) := by
 kernel_rfl
theorem jA.r1  : ji Try.prog ⟨false, false, false⟩ (zW Try.prog O) (reg Try.f33 1) (reg Try.f33 1).toList ([a,f,o,p,i,j,k,l,m,n,b,c,d]) S =
  (zO (qG Try.prog 26 (dem a) S) (fun q g => zO (jW Try.prog BinOp.gtr 3 q (Value.int IntKind.i64 4096) g) (fun r s => some ([a,f,o,p,dem a,q,r,l,m,n,b,c,d], s)) ()) ()) := by
 kernel_rfl
theorem jA.r2  : ji Try.prog ⟨false, false, false⟩ (zW Try.prog O) (reg Try.f33 2) (reg Try.f33 2).toList ([a,f,o,p,i,j,k,l,m,n,b,c,d]) S =
  ( some ([a,f,Value.slice none 0 0,Value.int IntKind.i64 11,i,j,k,l,m,n,b,c,d], S)) := by
 kernel_rfl
theorem jA.r3  : ji Try.prog ⟨false, false, false⟩ (zW Try.prog O) (reg Try.f33 3) (reg Try.f33 3).toList ([a,f,o,p,i,j,k,l,m,n,b,c,d]) S =
  (zO (qG Try.prog 26 (dem a) S) (fun q g => zO (wL Try.prog false false 3 75 q g) (fun r s => zO ((zW Try.prog O) 45 [(dem r)] s) (fun t v => zO (jS Try.prog 26 26 t (dem a) v) (fun u w => some ([a,f,u,Value.int IntKind.i64 0,i,j,k,dem a,q,r,dem t,dem a,dem u], w)) ()) ()) ()) ()) := by
 kernel_rfl
theorem jA.runs {a : Value} {S g : zi} {e : AEx} {T : List Value} (h : zA Try.prog O false jA.code ([a,undef,undef,undef,undef,undef,undef,undef,undef,undef,undef,undef,undef]) S = some (e, T, g)) (he : e = .normal ∨ e = .ret)  (h0 : jw (T.getD 2 undef) = true) (h1 : jw (T.getD 3 undef) = true) : zW Try.prog O 33 [a] S = some (Value.tuple #[T.getD 2 undef, T.getD 3 undef], g) :=
 jJ rfl rfl Try.func33 (by decide) jA.body (by exact h) he ((yU ((show zJ Try.prog T g Try.f33.results.toList = zJ Try.prog T g [(ResultVar.tmp 2), (ResultVar.tmp 3)] from by kernel_rfl).trans (by simp only [zJ])) (by kernel_rfl) (by simp only [List.all_cons, List.all_nil, h0, h1, Bool.and_true])).trans rfl)
end Go.Proofs.Ytblpnklfimkfoaa
namespace Go.Proofs.Ytblpnklfimkfoaa
open Go.Abs
abbrev zG.id : FuncId := 28
noncomputable def zG.code : Code := (Code.seq (Code.region 0 (reg Try.f28 0) false) (Code.seq (Code.region 1 (reg Try.f28 1) false) (Code.seq (Code.seq (Code.region 2 (reg Try.f28 2) false) (Code.cond (Operand.tmp 26) (Code.seq (Code.region 3 (reg Try.f28 3) false) Code.ret) Code.skip)) (Code.seq (Code.region 4 (reg Try.f28 4) true) Code.ret))))
theorem zG.body : Try.f28.body = some zG.code := by kernel_rfl
variable (c L Q R U a b I M N d f g i k l m n o p q r s t u w x y z A B C D E F : Value) (S : zi)
theorem zG.r0  : ji Try.prog ⟨false, false, false⟩ (zW Try.prog O) (reg Try.f28 0) (reg Try.f28 0).toList ([c,L,Q,R,U,a,b,I,M,N,d,f,g,i,k,l,m,n,o,p,q,r,s,t,u,w,x,y,z,A,B,C,D,E,F]) S =
  ( some ([c,L,Value.slice none 0 0,Value.slice none 0 0,Value.int IntKind.i64 0,a,b,I,M,N,d,f,g,i,k,l,m,n,o,p,q,r,s,t,u,w,x,y,z,A,B,C,D,E,F], S)) := by
 kernel_rfl
theorem zG.r1  : ji Try.prog ⟨false, false, false⟩ (zW Try.prog O) (reg Try.f28 1) (reg Try.f28 1).toList ([c,L,Q,R,U,a,b,I,M,N,d,f,g,i,k,l,m,n,o,p,q,r,s,t,u,w,x,y,z,A,B,C,D,E,F]) S =
  (zO ((zW Try.prog O) 42 [(dem (dem c))] S) (fun G J => zO (zF G 0 J) (fun K V => zO (zF (zS 0 G) 1 V) (fun Y W => zO (zF (zS 1 (zS 0 G)) 2 W) (fun H X => some ([c,L,Q,R,U,K,Y,H,zS 2 (zS 1 (zS 0 G)),dem c,dem G,dem K,dem Y,dem H,k,l,m,n,o,p,q,r,s,t,u,w,x,y,z,A,B,C,D,E,F], X)) ()) ()) ()) ()) := by
 kernel_rfl
theorem zG.r2  : ji Try.prog ⟨false, false, false⟩ (zW Try.prog O) (reg Try.f28 2) (reg Try.f28 2).toList ([c,L,Q,R,U,a,b,I,M,N,d,f,g,i,k,l,m,n,o,p,q,r,s,t,u,w,x,y,z,A,B,C,D,E,F]) S =
  (zO (jW Try.prog BinOp.neq 29 (dem I) (Value.int IntKind.i64 0) S) (fun G J => gdK (dem G) false (ret a) J (fun K V => gdK (dem G) false (jW Try.prog BinOp.gtr 75 (dem K) (Value.int IntKind.u64 4096)) V (fun Y W => zO (qI (dem G) (Value.bool true) Y W) (fun H X => gdK (dem H) false (ret a) X (fun P S5 => gdK (dem H) false (ret b) S5 (fun v8 S6 => gdK (dem H) false (qG Try.prog 26 (dem v8)) S6 (fun v9 S7 => gdK (dem H) false (wL Try.prog false false 3 75 v9) S7 (fun Z S8 => gdK (dem H) false (jW Try.prog BinOp.gtr 75 (dem P) Z) S8 (fun a0 S9 => zO (qI (dem H) (Value.bool true) a0 S9) (fun a1 a2 => some ([c,L,Q,R,U,a,b,I,M,N,d,f,g,i,dem I,G,dem G,dem K,Y,H,dem H,dem P,dem v8,v9,Z,a0,a1,y,z,A,B,C,D,E,F], a2)) ()) ()) ()) ()) ()) ()) ()) ()) ()) ()) := by
 refine sP Try.f28 2 0 (v := I) ?_
 refine sD Try.f28 2 1 (fun G J => ?_)
 refine sP Try.f28 2 2 (v := G) ?_
 refine sG Try.f28 2 3 (j := 2) (fun K V => ?_)
 refine sG Try.f28 2 4 (j := 2) (fun Y W => ?_)
 refine sD Try.f28 2 5 (fun H X => ?_)
 refine sP Try.f28 2 6 (v := H) ?_
 refine sG Try.f28 2 7 (j := 6) (fun P S5 => ?_)
 refine sG Try.f28 2 8 (j := 6) (fun v8 S6 => ?_)
 refine sG Try.f28 2 9 (j := 6) (fun v9 S7 => ?_)
 refine sG Try.f28 2 10 (j := 6) (fun Z S8 => ?_)
 refine sG Try.f28 2 11 (j := 6) (fun a0 S9 => ?_)
 refine sD Try.f28 2 12 (fun a1 a2 => ?_)
 kernel_rfl
theorem zG.r3  : ji Try.prog ⟨false, false, false⟩ (zW Try.prog O) (reg Try.f28 3) (reg Try.f28 3).toList ([c,L,Q,R,U,a,b,I,M,N,d,f,g,i,k,l,m,n,o,p,q,r,s,t,u,w,x,y,z,A,B,C,D,E,F]) S =
  ( some ([c,L,Value.slice none 0 0,Value.slice none 0 0,Value.int IntKind.i64 11,a,b,I,M,N,d,f,g,i,k,l,m,n,o,p,q,r,s,t,u,w,x,y,z,A,B,C,D,E,F], S)) := by
 kernel_rfl
theorem zG.d4 : qh Try.prog (reg Try.f28 4) = true := by kernel_rfl
theorem zG.ff4 : fixed Try.prog (reg Try.f28 4) = false := by kernel_rfl
theorem zG.k4 : checked Try.prog (reg Try.f28 4) = [4, 5, 6] := by kernel_rfl
theorem zG.g4 : again Try.prog (reg Try.f28 4) = [] := by kernel_rfl
theorem zG.r4  : zA Try.prog O false (.region 4 (reg Try.f28 4) true) ([c,L,Q,R,U,a,b,I,M,N,d,f,g,i,k,l,m,n,o,p,q,r,s,t,u,w,x,y,z,A,B,C,D,E,F]) S =
  YD (zO (wG Try.prog true 26 (dem b) none (some (dem a)) S) (fun v2 J => zO ((zW Try.prog O) 43 [(dem v2)] J) (fun K V => okK b ( okK a ( zO (wG Try.prog true 26 (dem b) (some (dem a)) none V) (fun v6 W => okK v6 ( zO ((zW Try.prog O) 43 [(dem v6)] W) (fun P X => some ([c,L,K,P,Value.int IntKind.i64 0,a,b,I,M,N,d,f,g,i,k,l,m,n,o,p,q,r,s,t,u,w,x,dem b,dem a,v2,dem K,dem b,dem a,v6,dem P], X)) ()) ()) ()) ()) ()) ()) ()) := by
 rw [yY zG.d4 zG.ff4 zG.k4 zG.g4]
 refine congrArg YD ?_
 refine tP Try.f28 4 0 (v := b) ?_
 refine tP Try.f28 4 1 (v := a) ?_
 refine tD Try.f28 4 2 (fun v2 J => ?_)
 refine tD Try.f28 4 3 (fun K V => ?_)
 refine tPC Try.f28 4 4 (v := b) ?_
 refine tPC Try.f28 4 5 (v := a) ?_
 refine tDC Try.f28 4 6 (fun v6 W => ?_)
 refine tD Try.f28 4 7 (fun P X => ?_)
 refine tP Try.f28 4 8 (v := K) ?_
 refine tP Try.f28 4 9 (v := P) ?_
 refine tP Try.f28 4 10 (v := (Value.int IntKind.i64 0)) ?_
 kernel_rfl
theorem zG.runs {c : Value} {S J : zi} {e : AEx} {T : List Value} (h : zA Try.prog O false zG.code ([c,undef,undef,undef,undef,undef,undef,undef,undef,undef,undef,undef,undef,undef,undef,undef,undef,undef,undef,undef,undef,undef,undef,undef,undef,undef,undef,undef,undef,undef,undef,undef,undef,undef,undef]) S = some (e, T, J)) (he : e = .normal ∨ e = .ret)  (h0 : jw (T.getD 2 undef) = true) (h1 : jw (T.getD 3 undef) = true) (h2 : jw (T.getD 4 undef) = true) : zW Try.prog O 28 [c] S = some (Value.tuple #[T.getD 2 undef, T.getD 3 undef, T.getD 4 undef], J) :=
 jJ rfl rfl Try.func28 (by decide) zG.body (by exact h) he ((yU ((show zJ Try.prog T J Try.f28.results.toList = zJ Try.prog T J [(ResultVar.tmp 2), (ResultVar.tmp 3), (ResultVar.tmp 4)] from by kernel_rfl).trans (by simp only [zJ])) (by kernel_rfl) (by simp only [List.all_cons, List.all_nil, h0, h1, h2, Bool.and_true])).trans rfl)
end Go.Proofs.Ytblpnklfimkfoaa
namespace Go.Proofs.Ytblpnklfimkfoaa
open Go.Abs
abbrev slices_Clone.id : FuncId := 43
noncomputable def slices_Clone.code : Code := (Code.seq (Code.region 0 (reg Try.f43 0) false) (Code.seq (Code.seq (Code.region 1 (reg Try.f43 1) false) (Code.cond (Operand.tmp 4) (Code.seq (Code.region 2 (reg Try.f43 2) false) Code.ret) Code.skip)) (Code.seq (Code.region 3 (reg Try.f43 3) false) Code.ret)))
theorem slices_Clone.body : Try.f43.body = some slices_Clone.code := by kernel_rfl
variable (b c l f g i j k : Value) (S : zi)
theorem slices_Clone.r0  : ji Try.prog ⟨false, false, false⟩ (zW Try.prog O) (reg Try.f43 0) (reg Try.f43 0).toList ([b,c,l,f,g,i,j,k]) S =
  ( some ([b,c,Value.slice none 0 0,f,g,i,j,k], S)) := by
 kernel_rfl
theorem slices_Clone.r1  : ji Try.prog ⟨false, false, false⟩ (zW Try.prog O) (reg Try.f43 1) (reg Try.f43 1).toList ([b,c,l,f,g,i,j,k]) S =
  (zO (jW Try.prog BinOp.eql 26 (dem b) (Value.slice none 0 0) S) (fun o d => some ([b,c,l,dem b,o,i,j,k], d)) ()) := by
 kernel_rfl
theorem slices_Clone.r2  : ji Try.prog ⟨false, false, false⟩ (zW Try.prog O) (reg Try.f43 2) (reg Try.f43 2).toList ([b,c,l,f,g,i,j,k]) S =
  ( some ([b,c,Value.slice none 0 0,f,g,i,j,k], S)) := by
 kernel_rfl
theorem slices_Clone.r3  : ji Try.prog ⟨false, false, false⟩ (zW Try.prog O) (reg Try.f43 3) (reg Try.f43 3).toList ([b,c,l,f,g,i,j,k]) S =
  (zO (jr Try.prog 26 0 [] S) (fun m d => zO (jS Try.prog 26 26 m (dem b) d) (fun n p => some ([b,c,n,f,g,dem m,dem b,dem n], p)) ()) ()) := by
 kernel_rfl
theorem slices_Clone.runs {b : Value} {S d : zi} {e : AEx} {T : List Value} (h : zA Try.prog O false slices_Clone.code ([b,undef,undef,undef,undef,undef,undef,undef]) S = some (e, T, d)) (he : e = .normal ∨ e = .ret) : zW Try.prog O 43 [b] S = some (T.getD 2 undef, d) :=
 jJ rfl rfl Try.func43 (by decide) slices_Clone.body (by exact h) he (yB (a := T.getD 2 undef) ((show zJ Try.prog T d Try.f43.results.toList = zJ Try.prog T d [(ResultVar.tmp 2)] from by kernel_rfl).trans (by simp only [zJ])) (by kernel_rfl))
end Go.Proofs.Ytblpnklfimkfoaa
namespace Go.Proofs.Ytblpnklfimkfoaa
open Go.Abs
abbrev zu.id : FuncId := 42
noncomputable def zu.jk : Code := (Code.seq (Code.region 3 (reg Try.f42 3) false) (Code.seq (Code.cond (Operand.tmp 11) Code.skip (Code.exit 0)) (Code.seq (Code.block 1 (Code.seq (Code.region 4 (reg Try.f42 4) false) (Code.seq (Code.seq (Code.region 5 (reg Try.f42 5) false) (Code.cond (Operand.tmp 28) (Code.exit 0) Code.skip)) (Code.seq (Code.region 6 (reg Try.f42 6) false) (Code.seq (Code.region 7 (reg Try.f42 7) false) (Code.cond (Operand.tmp 38) (Code.seq (Code.region 8 (reg Try.f42 8) false) Code.ret) Code.skip)))))) (Code.region 9 (reg Try.f42 9) false))))
noncomputable def zu.code : Code := (Code.seq (Code.region 0 (reg Try.f42 0) false) (Code.seq (Code.region 1 (reg Try.f42 1) false) (Code.seq (Code.seq (Code.region 2 (reg Try.f42 2) false) (Code.block 0 (Code.loop zu.jk))) (Code.seq (Code.region 10 (reg Try.f42 10) false) Code.ret))))
theorem zu.body : Try.f42.body = some zu.code := by kernel_rfl
theorem zu.eta {T : List Value} (h : T.length = 46) : T = [T.getD 0 undef,T.getD 1 undef,T.getD 2 undef,T.getD 3 undef,T.getD 4 undef,T.getD 5 undef,T.getD 6 undef,T.getD 7 undef,T.getD 8 undef,T.getD 9 undef,T.getD 10 undef,T.getD 11 undef,T.getD 12 undef,T.getD 13 undef,T.getD 14 undef,T.getD 15 undef,T.getD 16 undef,T.getD 17 undef,T.getD 18 undef,T.getD 19 undef,T.getD 20 undef,T.getD 21 undef,T.getD 22 undef,T.getD 23 undef,T.getD 24 undef,T.getD 25 undef,T.getD 26 undef,T.getD 27 undef,T.getD 28 undef,T.getD 29 undef,T.getD 30 undef,T.getD 31 undef,T.getD 32 undef,T.getD 33 undef,T.getD 34 undef,T.getD 35 undef,T.getD 36 undef,T.getD 37 undef,T.getD 38 undef,T.getD 39 undef,T.getD 40 undef,T.getD 41 undef,T.getD 42 undef,T.getD 43 undef,T.getD 44 undef,T.getD 45 undef] := (y7 T 46 h).trans (by kernel_rfl)
theorem zu.list {T : List Value} (h : T.length = 46) : ∃ P V Y Z x4 U Q R W X a b c d f g i k l m n o p q r s t u w x y z A B C D E F G H I J K L M N, T = [P,V,Y,Z,x4,U,Q,R,W,X,a,b,c,d,f,g,i,k,l,m,n,o,p,q,r,s,t,u,w,x,y,z,A,B,C,D,E,F,G,H,I,J,K,L,M,N] := ⟨_, _, _, _, _, _, _, _, _, _, _, _, _, _, _, _, _, _, _, _, _, _, _, _, _, _, _, _, _, _, _, _, _, _, _, _, _, _, _, _, _, _, _, _, _, _, zu.eta h⟩
variable (P V Y Z x4 U Q R W X a b c d f g i k l m n o p q r s t u w x y z A B C D E F G H I J K L M N : Value) (S : zi)
theorem zu.r0  : ji Try.prog ⟨false, false, false⟩ (zW Try.prog O) (reg Try.f42 0) (reg Try.f42 0).toList ([P,V,Y,Z,x4,U,Q,R,W,X,a,b,c,d,f,g,i,k,l,m,n,o,p,q,r,s,t,u,w,x,y,z,A,B,C,D,E,F,G,H,I,J,K,L,M,N]) S =
  ( some ([P,V,Value.int IntKind.u64 0,Value.slice none 0 0,Value.int IntKind.i64 0,U,Q,R,W,X,a,b,c,d,f,g,i,k,l,m,n,o,p,q,r,s,t,u,w,x,y,z,A,B,C,D,E,F,G,H,I,J,K,L,M,N], S)) := by
 kernel_rfl
theorem zu.r1  : ji Try.prog ⟨false, false, false⟩ (zW Try.prog O) (reg Try.f42 1) (reg Try.f42 1).toList ([P,V,Y,Z,x4,U,Q,R,W,X,a,b,c,d,f,g,i,k,l,m,n,o,p,q,r,s,t,u,w,x,y,z,A,B,C,D,E,F,G,H,I,J,K,L,M,N]) S =
  ( some ([P,V,Y,Z,x4,Value.int IntKind.u64 0,Q,R,W,X,a,b,c,d,f,g,i,k,l,m,n,o,p,q,r,s,t,u,w,x,y,z,A,B,C,D,E,F,G,H,I,J,K,L,M,N], S)) := by
 kernel_rfl
theorem zu.r2  : ji Try.prog ⟨false, false, false⟩ (zW Try.prog O) (reg Try.f42 2) (reg Try.f42 2).toList ([P,V,Y,Z,x4,U,Q,R,W,X,a,b,c,d,f,g,i,k,l,m,n,o,p,q,r,s,t,u,w,x,y,z,A,B,C,D,E,F,G,H,I,J,K,L,M,N]) S =
  (zO (qG Try.prog 26 (dem P) S) (fun v1 S1 => some ([P,V,Y,Z,x4,U,Q,R,dem P,v1,Value.int IntKind.i64 0,b,c,d,f,g,i,k,l,m,n,o,p,q,r,s,t,u,w,x,y,z,A,B,C,D,E,F,G,H,I,J,K,L,M,N], S1)) ()) := by
 kernel_rfl
theorem zu.r3  : ji Try.prog ⟨false, false, false⟩ (zW Try.prog O) (reg Try.f42 3) (reg Try.f42 3).toList ([P,V,Y,Z,x4,U,Q,R,W,X,a,b,c,d,f,g,i,k,l,m,n,o,p,q,r,s,t,u,w,x,y,z,A,B,C,D,E,F,G,H,I,J,K,L,M,N]) S =
  (zO (jW Try.prog BinOp.lss 3 a X S) (fun v0 S1 => some ([P,V,Y,Z,x4,U,Q,R,W,X,a,v0,c,d,f,g,i,k,l,m,n,o,p,q,r,s,t,u,w,x,y,z,A,B,C,D,E,F,G,H,I,J,K,L,M,N], S1)) ()) := by
 kernel_rfl
theorem zu.r4  : ji Try.prog ⟨false, false, false⟩ (zW Try.prog O) (reg Try.f42 4) (reg Try.f42 4).toList ([P,V,Y,Z,x4,U,Q,R,W,X,a,b,c,d,f,g,i,k,l,m,n,o,p,q,r,s,t,u,w,x,y,z,A,B,C,D,E,F,G,H,I,J,K,L,M,N]) S =
  (zO (jh Try.prog 26 W (dem a) S) (fun v1 S1 => zO (jo Try.prog false 5 v1 S1) (fun v2 S2 => some ([P,V,Y,Z,x4,U,a,v2,W,X,dem a,b,dem a,v1,dem v2,g,i,k,l,m,n,o,p,q,r,s,t,u,w,x,y,z,A,B,C,D,E,F,G,H,I,J,K,L,M,N], S2)) ()) ()) := by
 kernel_rfl
theorem zu.r5  : ji Try.prog ⟨false, false, false⟩ (zW Try.prog O) (reg Try.f42 5) (reg Try.f42 5).toList ([P,V,Y,Z,x4,U,Q,R,W,X,a,b,c,d,f,g,i,k,l,m,n,o,p,q,r,s,t,u,w,x,y,z,A,B,C,D,E,F,G,H,I,J,K,L,M,N]) S =
  (zO (jW Try.prog BinOp.eql 3 (dem Q) (Value.int IntKind.i64 9) S) (fun v1 S1 => gdK (dem v1) true (ret R) S1 (fun v3 S2 => gdK (dem v1) true (jW Try.prog BinOp.gtr 5 (dem v3) (Value.int IntKind.u8 1)) S2 (fun v4 S3 => zO (qI (dem v1) v4 (Value.bool false) S3) (fun v5 S4 => gdK (dem v5) false (ret Q) S4 (fun v7 S5 => gdK (dem v5) false (jW Try.prog BinOp.gtr 3 (dem v7) (Value.int IntKind.i64 0)) S5 (fun v8 S6 => gdK (dem v5) false (ret v8) S6 (fun v9 S7 => gdK (dem v9) true (ret R) S7 (fun a0 S8 => gdK (dem v9) true (jW Try.prog BinOp.eql 5 (dem a0) (Value.int IntKind.u8 0)) S8 (fun a1 S9 => gdK (dem v5) false (qI (dem v9) a1 (Value.bool false)) S9 (fun a2 a3 => zO (qI (dem v5) (Value.bool true) a2 a3) (fun a4 a5 => some ([P,V,Y,Z,x4,U,Q,R,W,X,a,b,c,d,f,dem Q,v1,dem v1,dem v3,v4,v5,dem v5,dem v7,v8,dem v9,dem a0,a1,a2,a4,x,y,z,A,B,C,D,E,F,G,H,I,J,K,L,M,N], a5)) ()) ()) ()) ()) ()) ()) ()) ()) ()) ()) ()) := by
 refine sP Try.f42 5 0 (v := Q) ?_
 refine sD Try.f42 5 1 (fun v1 S1 => ?_)
 refine sP Try.f42 5 2 (v := v1) ?_
 refine sG Try.f42 5 3 (j := 2) (fun v3 S2 => ?_)
 refine sG Try.f42 5 4 (j := 2) (fun v4 S3 => ?_)
 refine sD Try.f42 5 5 (fun v5 S4 => ?_)
 refine sP Try.f42 5 6 (v := v5) ?_
 refine sG Try.f42 5 7 (j := 6) (fun v7 S5 => ?_)
 refine sG Try.f42 5 8 (j := 6) (fun v8 S6 => ?_)
 refine sG Try.f42 5 9 (j := 6) (fun v9 S7 => ?_)
 refine sG Try.f42 5 10 (j := 9) (fun a0 S8 => ?_)
 refine sG Try.f42 5 11 (j := 9) (fun a1 S9 => ?_)
 refine sG Try.f42 5 12 (j := 6) (fun a2 a3 => ?_)
 refine sD Try.f42 5 13 (fun a4 a5 => ?_)
 kernel_rfl
theorem zu.r6  : ji Try.prog ⟨false, false, false⟩ (zW Try.prog O) (reg Try.f42 6) (reg Try.f42 6).toList ([P,V,Y,Z,x4,U,Q,R,W,X,a,b,c,d,f,g,i,k,l,m,n,o,p,q,r,s,t,u,w,x,y,z,A,B,C,D,E,F,G,H,I,J,K,L,M,N]) S =
  (zO (jW Try.prog BinOp.and 5 (dem R) (Value.int IntKind.u8 127) S) (fun v2 S1 => zO (wL Try.prog false false 5 75 v2 S1) (fun v3 S2 => zO (jW Try.prog BinOp.mul 3 (Value.int IntKind.i64 7) (dem Q) S2) (fun v5 S3 => zO (jW Try.prog BinOp.shl 75 v3 v5 S3) (fun v6 S4 => zO (jW Try.prog BinOp.or 75 (dem U) v6 S4) (fun v7 S5 => some ([P,V,Y,Z,x4,v7,Q,R,W,X,a,b,c,d,f,g,i,k,l,m,n,o,p,q,r,s,t,u,w,dem U,dem R,v2,v3,dem Q,v5,v6,dem v7,F,G,H,I,J,K,L,M,N], S5)) ()) ()) ()) ()) ()) := by
 kernel_rfl
theorem zu.r7  : ji Try.prog ⟨false, false, false⟩ (zW Try.prog O) (reg Try.f42 7) (reg Try.f42 7).toList ([P,V,Y,Z,x4,U,Q,R,W,X,a,b,c,d,f,g,i,k,l,m,n,o,p,q,r,s,t,u,w,x,y,z,A,B,C,D,E,F,G,H,I,J,K,L,M,N]) S =
  (zO (jW Try.prog BinOp.lss 5 (dem R) (Value.int IntKind.u8 128) S) (fun v1 S1 => some ([P,V,Y,Z,x4,U,Q,R,W,X,a,b,c,d,f,g,i,k,l,m,n,o,p,q,r,s,t,u,w,x,y,z,A,B,C,D,E,dem R,v1,H,I,J,K,L,M,N], S1)) ()) := by
 kernel_rfl
theorem zu.r8  : ji Try.prog ⟨false, false, false⟩ (zW Try.prog O) (reg Try.f42 8) (reg Try.f42 8).toList ([P,V,Y,Z,x4,U,Q,R,W,X,a,b,c,d,f,g,i,k,l,m,n,o,p,q,r,s,t,u,w,x,y,z,A,B,C,D,E,F,G,H,I,J,K,L,M,N]) S =
  (zO (jW Try.prog BinOp.add 3 (dem Q) (Value.int IntKind.i64 1) S) (fun v3 S1 => zO (wG Try.prog false 26 (dem P) (some v3) none S1) (fun v4 S2 => zO ((zW Try.prog O) 43 [(dem v4)] S2) (fun v5 S3 => some ([P,V,U,v5,Value.int IntKind.i64 0,dem U,Q,R,W,X,a,b,c,d,f,g,i,k,l,m,n,o,p,q,r,s,t,u,w,x,y,z,A,B,C,D,E,F,G,dem U,dem P,dem Q,v3,v4,dem v5,N], S3)) ()) ()) ()) := by
 kernel_rfl
theorem zu.r9  : ji Try.prog ⟨false, false, false⟩ (zW Try.prog O) (reg Try.f42 9) (reg Try.f42 9).toList ([P,V,Y,Z,x4,U,Q,R,W,X,a,b,c,d,f,g,i,k,l,m,n,o,p,q,r,s,t,u,w,x,y,z,A,B,C,D,E,F,G,H,I,J,K,L,M,N]) S =
  (zO (jW Try.prog BinOp.add 3 a (Value.int IntKind.i64 1) S) (fun v0 S1 => some ([P,V,Y,Z,x4,U,Q,R,W,X,dem v0,b,c,d,f,g,i,k,l,m,n,o,p,q,r,s,t,u,w,x,y,z,A,B,C,D,E,F,G,H,I,J,K,L,M,v0], S1)) ()) := by
 kernel_rfl
theorem zu.r10  : ji Try.prog ⟨false, false, false⟩ (zW Try.prog O) (reg Try.f42 10) (reg Try.f42 10).toList ([P,V,Y,Z,x4,U,Q,R,W,X,a,b,c,d,f,g,i,k,l,m,n,o,p,q,r,s,t,u,w,x,y,z,A,B,C,D,E,F,G,H,I,J,K,L,M,N]) S =
  ( some ([P,V,Value.int IntKind.u64 0,Value.slice none 0 0,Value.int IntKind.i64 11,U,Q,R,W,X,a,b,c,d,f,g,i,k,l,m,n,o,p,q,r,s,t,u,w,x,y,z,A,B,C,D,E,F,G,H,I,J,K,L,M,N], S)) := by
 kernel_rfl
theorem zu.runs {P : Value} {S S1 : zi} {e : AEx} {T : List Value} (h : zA Try.prog O false zu.code ([P,undef,undef,undef,undef,undef,undef,undef,undef,undef,undef,undef,undef,undef,undef,undef,undef,undef,undef,undef,undef,undef,undef,undef,undef,undef,undef,undef,undef,undef,undef,undef,undef,undef,undef,undef,undef,undef,undef,undef,undef,undef,undef,undef,undef,undef]) S = some (e, T, S1)) (he : e = .normal ∨ e = .ret)  (h0 : jw (T.getD 2 undef) = true) (h1 : jw (T.getD 3 undef) = true) (h2 : jw (T.getD 4 undef) = true) : zW Try.prog O 42 [P] S = some (Value.tuple #[T.getD 2 undef, T.getD 3 undef, T.getD 4 undef], S1) :=
 jJ rfl rfl Try.func42 (by decide) zu.body (by exact h) he ((yU ((show zJ Try.prog T S1 Try.f42.results.toList = zJ Try.prog T S1 [(ResultVar.tmp 2), (ResultVar.tmp 3), (ResultVar.tmp 4)] from by kernel_rfl).trans (by simp only [zJ])) (by kernel_rfl) (by simp only [List.all_cons, List.all_nil, h0, h1, h2, Bool.and_true])).trans rfl)
end Go.Proofs.Ytblpnklfimkfoaa
namespace Go.Proofs.Ytblpnklfimkfoaa
open Go.Abs
abbrev jf.id : FuncId := 45
noncomputable def jf.jk : Code := (Code.seq (Code.seq (Code.region 2 (reg Try.f45 2) false) (Code.cond (Operand.tmp 5) Code.skip (Code.exit 0))) (Code.block 1 (Code.seq (Code.region 3 (reg Try.f45 3) false) (Code.region 4 (reg Try.f45 4) false))))
noncomputable def jf.code : Code := (Code.seq (Code.region 0 (reg Try.f45 0) false) (Code.seq (Code.region 1 (reg Try.f45 1) false) (Code.seq (Code.block 0 (Code.loop jf.jk)) (Code.seq (Code.region 5 (reg Try.f45 5) false) Code.ret))))
theorem jf.body : Try.f45.body = some jf.code := by kernel_rfl
theorem jf.eta {T : List Value} (h : T.length = 19) : T = [T.getD 0 undef,T.getD 1 undef,T.getD 2 undef,T.getD 3 undef,T.getD 4 undef,T.getD 5 undef,T.getD 6 undef,T.getD 7 undef,T.getD 8 undef,T.getD 9 undef,T.getD 10 undef,T.getD 11 undef,T.getD 12 undef,T.getD 13 undef,T.getD 14 undef,T.getD 15 undef,T.getD 16 undef,T.getD 17 undef,T.getD 18 undef] := (y7 T 19 h).trans (by kernel_rfl)
theorem jf.list {T : List Value} (h : T.length = 19) : ∃ b o v n p q r s t u c d f g i j k l m, T = [b,o,v,n,p,q,r,s,t,u,c,d,f,g,i,j,k,l,m] := ⟨_, _, _, _, _, _, _, _, _, _, _, _, _, _, _, _, _, _, _, jf.eta h⟩
variable (b o v n p q r s t u c d f g i j k l m : Value) (S : zi)
theorem jf.r0  : ji Try.prog ⟨false, false, false⟩ (zW Try.prog O) (reg Try.f45 0) (reg Try.f45 0).toList ([b,o,v,n,p,q,r,s,t,u,c,d,f,g,i,j,k,l,m]) S =
  ( some ([b,o,Value.slice none 0 0,n,p,q,r,s,t,u,c,d,f,g,i,j,k,l,m], S)) := by
 kernel_rfl
theorem jf.r1  : ji Try.prog ⟨false, false, false⟩ (zW Try.prog O) (reg Try.f45 1) (reg Try.f45 1).toList ([b,o,v,n,p,q,r,s,t,u,c,d,f,g,i,j,k,l,m]) S =
  ( some ([b,o,v,Value.slice none 0 0,p,q,r,s,t,u,c,d,f,g,i,j,k,l,m], S)) := by
 kernel_rfl
theorem jf.r2  : ji Try.prog ⟨false, false, false⟩ (zW Try.prog O) (reg Try.f45 2) (reg Try.f45 2).toList ([b,o,v,n,p,q,r,s,t,u,c,d,f,g,i,j,k,l,m]) S =
  (zO (jW Try.prog BinOp.geq 75 (dem b) (Value.int IntKind.u64 128) S) (fun A w => some ([b,o,v,n,dem b,A,r,s,t,u,c,d,f,g,i,j,k,l,m], w)) ()) := by
 kernel_rfl
theorem jf.r3  : ji Try.prog ⟨false, false, false⟩ (zW Try.prog O) (reg Try.f45 3) (reg Try.f45 3).toList ([b,o,v,n,p,q,r,s,t,u,c,d,f,g,i,j,k,l,m]) S =
  (zO (wL Try.prog false false 75 5 (dem b) S) (fun x w => zO (jW Try.prog BinOp.or 5 x (Value.int IntKind.u8 128) w) (fun y B => zO (jr Try.prog 26 1 [(0, y)] B) (fun z C => zO (jS Try.prog 26 26 n z C) (fun D E => some ([b,o,v,D,p,q,dem n,dem b,x,y,z,dem D,f,g,i,j,k,l,m], E)) ()) ()) ()) ()) := by
 kernel_rfl
theorem jf.r4  : ji Try.prog ⟨false, false, false⟩ (zW Try.prog O) (reg Try.f45 4) (reg Try.f45 4).toList ([b,o,v,n,p,q,r,s,t,u,c,d,f,g,i,j,k,l,m]) S =
  (zO (jW Try.prog BinOp.shr 75 (dem b) (Value.int IntKind.u64 7) S) (fun A w => some ([A,o,v,n,p,q,r,s,t,u,c,d,dem b,dem A,i,j,k,l,m], w)) ()) := by
 kernel_rfl
theorem jf.r5  : ji Try.prog ⟨false, false, false⟩ (zW Try.prog O) (reg Try.f45 5) (reg Try.f45 5).toList ([b,o,v,n,p,q,r,s,t,u,c,d,f,g,i,j,k,l,m]) S =
  (zO (wL Try.prog false false 75 5 (dem b) S) (fun x w => zO (jr Try.prog 26 1 [(0, x)] w) (fun y B => zO (jS Try.prog 26 26 n y B) (fun z C => some ([b,o,z,dem n,p,q,r,s,t,u,c,d,f,g,dem n,dem b,x,y,dem z], C)) ()) ()) ()) := by
 kernel_rfl
theorem jf.runs {b : Value} {S w : zi} {e : AEx} {T : List Value} (h : zA Try.prog O false jf.code ([b,undef,undef,undef,undef,undef,undef,undef,undef,undef,undef,undef,undef,undef,undef,undef,undef,undef,undef]) S = some (e, T, w)) (he : e = .normal ∨ e = .ret) : zW Try.prog O 45 [b] S = some (T.getD 2 undef, w) :=
 jJ rfl rfl Try.func45 (by decide) jf.body (by exact h) he (yB (a := T.getD 2 undef) ((show zJ Try.prog T w Try.f45.results.toList = zJ Try.prog T w [(ResultVar.tmp 2)] from by kernel_rfl).trans (by simp only [zJ])) (by kernel_rfl))
end Go.Proofs.Ytblpnklfimkfoaa
namespace Go.Proofs.Ytblpnklfimkfoaa
open Go.Abs
def enc (n : Nat) : List UInt8 := if n < 128 then [UInt8.ofNat n] else UInt8.ofNat (n % 128 + 128) :: enc (n / 128)
termination_by n
decreasing_by omega
theorem qV {n : Nat} (h : n < 128) : enc n = [UInt8.ofNat n] := by rw [enc, if_pos h]
theorem Jm {n : Nat} (h : ¬ n < 128) : enc n = UInt8.ofNat (n % 128 + 128) :: enc (n / 128) := by rw [enc, if_neg h]
theorem wrap_u8 (n : Nat) : IntKind.u8.wrap (n : Int) = ((n % 256 : Nat) : Int) := by
 simp [IntKind.wrap, IntKind.bits, IntKind.signed]
theorem wrap_u64 (n : Nat) : IntKind.u64.wrap (n : Int) = ((n % 2 ^ 64 : Nat) : Int) := by
 simp [IntKind.wrap, IntKind.bits, IntKind.signed]
theorem agb : ∀ m : Fin 256, orI .u8 (m.val : Int) 128 = ((m.val % 128 + 128 : Nat) : Int) := by decide +kernel
theorem aeW (n : Nat) : orI .u8 (IntKind.u8.wrap (n : Int)) 128 = ((UInt8.ofNat (n % 128 + 128)).toNat : Int) := by
 rw [wrap_u8, agb ⟨n % 256, by omega⟩]
 simp only [UInt8.toNat_ofNat']
 omega
theorem aey {n : Nat} : IntKind.u8.wrap (n : Int) = ((UInt8.ofNat n).toNat : Int) := by
 rw [wrap_u8]
 simp
theorem agw (n : Nat) : (n : Int).fdiv (2 ^ min (Int.toNat 7) (IntKind.bits .u64)) = ((n / 128 : Nat) : Int) := by
 have : (2 : Int) ^ min (Int.toNat 7) (IntKind.bits .u64) = 128 := by decide
 rw [this, Int.fdiv_eq_ediv_of_nonneg _ (by omega)]
 omega
theorem aeD (k : Nat) : ∀ n, n < 128 ^ (k + 1) → (enc n).length ≤ k + 1 := by
 induction k with
 | zero => intro n h; rw [qV (by omega)]; simp
 | succ k ih =>
  intro n h
  by_cases hn : n < 128
  ·
   rw [qV hn]; simp
  ·
   rw [Jm hn]
   have := ih (n / 128) (by rw [Nat.div_lt_iff_lt_mul (by omega)]; exact h)
   simp only [List.length_cons]; omega
theorem xC {n : Nat} (h : n < 2 ^ 64) : (enc n).length ≤ 10 := aeD 9 n (Nat.lt_of_lt_of_le h (by decide))
theorem afg : sv 2 1 0 [] = by_ 2 [] := rfl
theorem afl (x : UInt8) : sv 2 1 1 [.int .u8 x.toNat] = by_ 2 [x] := rfl
theorem aao {k : Nat} {l : List UInt8} {x : UInt8} {S : zi} (h : Okl k l) (hk : k ≠ 1) (hl : l.length ≤ 140737488355000) : jS Try.prog 26 26 (by_ k l) (by_ 2 [x]) S = some (by_ 2 (l ++ [x]), S) := by
 rw [xw h hk Okl.own (by simp; omega), if_neg (fun h => by have := h.2; simp at this)]
theorem jf.round : ∀ (n : Nat) (l : List UInt8) (k : Nat) {T : List Value} {S : zi} {r : St}, yF (zA Try.prog O false jf.jk) T S = r → T.length = 19 → T.getD 0 undef = .int .u64 n → T.getD 3 undef = by_ k l →
  Okl k l → k ≠ 1 → n * 2 ^ l.length < 2 ^ 64 → ∃ T' l' k' n', r = some (.exit 0, T', S) ∧ T'.length = 19 ∧ T'.getD 0 undef = .int .u64 (n' : Nat) ∧ T'.getD 3 undef = by_ k' l' ∧
   Okl k' l' ∧ k' ≠ 1 ∧ n' < 128 ∧ l' ++ [UInt8.ofNat n'] = l ++ enc n := by
 intro n
 induction n using Nat.strongRecOn with
 | _ n ih =>
  intro l k T S r hL hT h0 h3 hs hk hl
  obtain ⟨x0, x1, x2, x3, x4, x5, x6, x7, x8, x9, x10, x11, x12, x13, x14, x15, x16, x17, x18, hTe⟩ := jf.list hT
  rw [hTe] at h0 h3
  simp only [List.getD_cons_succ, List.getD_cons_zero] at h0 h3
  subst h0 h3
  have hr : zA Try.prog O false jf.jk T S = zA Try.prog O false jf.jk T S := rfl
  by_cases hlt : n < 128
  ·
   have hd : decide ((128 : Int) ≤ (n : Int)) = false := by simp; omega
   conv at hr =>
    rhs
    rw [hTe]
    simp only [jf.jk, zSs, reduceIte, Nat.reduceEqDiff, Int.reduceEq, Int.reduceLT, Int.reduceLE, jf.r2, hd]
   exact ⟨_, l, k, n, hL.symm.trans (jC hr (by simp)), rfl, rfl, rfl, hs, hk, hlt, by rw [qV hlt]⟩
  ·
   have hd : decide ((128 : Int) ≤ (n : Int)) = true := by simp; omega
   have hll : l.length < 64 := by
    have : 2 ^ l.length < 2 ^ 64 := Nat.lt_of_le_of_lt (Nat.le_mul_of_pos_left _ (by omega)) hl
    exact (Nat.pow_lt_pow_iff_right (by omega)).1 this
   have e1 : ∀ x S, jS Try.prog 26 26 (by_ k l) (by_ 2 [x]) S = some (by_ 2 (l ++ [x]), S) := fun x S => aao hs hk (by omega)
   conv at hr =>
    rhs
    rw [hTe]
    simp only [jf.jk, zSs, reduceIte, Nat.reduceEqDiff, Int.reduceEq, Int.reduceLT, Int.reduceLE, jf.r2, hd, jf.r3, xB, aag, aeW, ZY, afl, e1, jf.r4, acW _ _ _ _ (show (0 : Int) ≤ 7 by omega), agw]
   have hmul : n / 128 * 2 ^ (l.length + 1) < 2 ^ 64 := by
    refine Nat.lt_of_le_of_lt ?_ hl
    rw [Nat.pow_succ, Nat.mul_comm (2 ^ l.length) 2, ← Nat.mul_assoc]
    exact Nat.mul_le_mul_right _ (by omega)
   obtain ⟨T', l', k', n', g1, g2, g3, g4, g5, g6, g7, g8⟩ := ih (n / 128) (by omega) _ 2 ((wZ hr).symm.trans hL) rfl rfl rfl Okl.own (by decide) (by simpa using hmul)
   refine ⟨T', l', k', n', g1, g2, g3, g4, g5, g6, g7, ?_⟩
   rw [g8, Jm hlt, List.append_assoc]; rfl
theorem jf.v (n : Nat) (hn : n < 2 ^ 64) (S : zi) : zW Try.prog O jf.id [.int .u64 n] S = some (by_ 2 (enc n), S) := by
 obtain ⟨T, hTe⟩ : ∃ T, T = (.int .u64 n :: undef :: undef :: undef :: undef :: undef :: undef :: undef :: undef :: undef :: undef :: undef :: undef :: undef :: undef :: undef :: undef :: undef :: undef :: []) := ⟨_, rfl⟩
 have hr : zA Try.prog O false jf.code T S = zA Try.prog O false jf.code T S := rfl
 conv at hr =>
  rhs
  rw [hTe]
  simp only [jf.code, zSs, reduceIte, Nat.reduceEqDiff, Int.reduceEq, Int.reduceLT, Int.reduceLE, jf.r0, jf.r1]
 generalize hL : yF (zA Try.prog O false jf.jk) _ _ = r at hr
 obtain ⟨T', l', k', n', rfl, g2, g3, g4, g5, g6, g7, g8⟩ := jf.round n [] 0 hL rfl rfl rfl Okl.none (by decide) (by simpa using hn)
 obtain ⟨x0, x1, x2, x3, x4, x5, x6, x7, x8, x9, x10, x11, x12, x13, x14, x15, x16, x17, x18, hT'⟩ := jf.list g2
 rw [hT'] at g3 g4
 simp only [List.getD_cons_succ, List.getD_cons_zero] at g3 g4
 subst g3 g4
 have hlen : l'.length + 1 = (enc n).length := by simpa using congrArg List.length g8
 have h10 := xC hn
 have e1 : ∀ x S, jS Try.prog 26 26 (by_ k' l') (by_ 2 [x]) S = some (by_ 2 (l' ++ [x]), S) := fun x S => aao g5 g6 (by omega)
 conv at hr =>
  rhs
  rw [hT']
  simp only [zSs, reduceIte, Nat.reduceEqDiff, Int.reduceEq, Int.reduceLT, Int.reduceLE, jf.r5, xB, aey, ZY, afl, e1]
 rw [hTe] at hr
 have := jf.runs hr (.inr rfl)
 rw [List.nil_append] at g8
 rw [← g8]
 exact this
end Go.Proofs.Ytblpnklfimkfoaa
namespace Go.Proofs.Ytblpnklfimkfoaa
open Go.Abs
theorem slices_Clone.v {k : Nat} {l : List UInt8} (h : Okl k l) (hk : k ≠ 2) (hl : l.length ≤ 140737488355328) (S : zi) : zW Try.prog O slices_Clone.id [by_ k l] S = some (by_ (if k = 0 then 0 else 2) l, S) := by
 obtain ⟨T, hTe⟩ : ∃ T, T = (by_ k l :: undef :: undef :: undef :: undef :: undef :: undef :: undef :: []) := ⟨_, rfl⟩
 have hr : zA Try.prog O false slices_Clone.code T S = zA Try.prog O false slices_Clone.code T S := rfl
 conv at hr =>
  rhs
  rw [hTe]
  simp only [slices_Clone.code, zSs, reduceIte, Nat.reduceEqDiff, Int.reduceEq, Int.reduceLT, Int.reduceLE, slices_Clone.r0, slices_Clone.r1, if_neg hk, acv h]
 by_cases h0 : k = 0
 ·
  have hl0 := h.nil h0
  subst h0 hl0
  conv at hr =>
   rhs
   simp only [decide_true, zSs, reduceIte, Nat.reduceEqDiff, Int.reduceEq, Int.reduceLT, Int.reduceLE, slices_Clone.r2]
  rw [hTe] at hr
  exact slices_Clone.runs hr (.inr rfl)
 ·
  have e1 : ∀ S, jS Try.prog 26 26 (by_ 2 []) (by_ k l) S = some (by_ 2 l, S) := fun S => by
   rw [xw Okl.own (by decide) h (by simpa using hl)]; rfl
  conv at hr =>
   rhs
   simp only [h0, decide_false, zSs, reduceIte, Nat.reduceEqDiff, Int.reduceEq, Int.reduceLT, Int.reduceLE, slices_Clone.r3, ZW, afg, if_neg hk, e1]
  rw [hTe] at hr
  rw [if_neg h0]
  exact slices_Clone.runs hr (.inr rfl)
def scan : Nat → Nat → List UInt8 → Option (Nat × List UInt8)
 | _, _, [] => none
 | i, acc, x :: r => if (i = 9 ∧ 1 < x.toNat) ∨ (0 < i ∧ x.toNat = 0) then none else if x.toNat < 128 then some (acc + x.toNat * 128 ^ i, r) else scan (i + 1) (acc + (x.toNat - 128) * 128 ^ i) r
def Vp (l : List UInt8) : Value :=
 match scan 0 0 l with
 | none => .tuple #[.int .u64 0, .slice none 0 0, .int .i64 11]
 | some (m, rest) => .tuple #[.int .u64 (m : Nat), by_ 2 rest, .int .i64 0]
theorem zu.stop (x0 x1 x2 x3 x4 x5 x6 x7 x8 x9 x10 x11 x12 x13 x14 x15 x16 x17 x18 x19 x20 x21 x22 x23 x24 x25 x26 x27 x28 x29 x30 x31 x32 x33 x34 x35 x36 x37 x38 x39 x40 x41 x42 x43 x44 x45 : Value) (i x : Int) (S : zi) (h6 : x6 = .int .i64 i) (h7 : x7 = .int .u8 x) : ∃ y15 y16 y17 y18 y19 y20 y21 y22 y23 y24 y25 y26 y27, ji Try.prog ⟨false, false, false⟩ (zW Try.prog O) (reg Try.f42 5) (reg Try.f42 5).toList (x0 :: x1 :: x2 :: x3 :: x4 :: x5 :: x6 :: x7 :: x8 :: x9 :: x10 :: x11 :: x12 :: x13 :: x14 :: x15 :: x16 :: x17 :: x18 :: x19 :: x20 :: x21 :: x22 :: x23 :: x24 :: x25 :: x26 :: x27 :: x28 :: x29 :: x30 :: x31 :: x32 :: x33 :: x34 :: x35 :: x36 :: x37 :: x38 :: x39 :: x40 :: x41 :: x42 :: x43 :: x44 :: x45 :: []) S =
  some ((x0 :: x1 :: x2 :: x3 :: x4 :: x5 :: x6 :: x7 :: x8 :: x9 :: x10 :: x11 :: x12 :: x13 :: x14 :: y15 :: y16 :: y17 :: y18 :: y19 :: y20 :: y21 :: y22 :: y23 :: y24 :: y25 :: y26 :: y27 :: .bool (decide ((i = 9 ∧ 1 < x) ∨ (0 < i ∧ x = 0))) :: x29 :: x30 :: x31 :: x32 :: x33 :: x34 :: x35 :: x36 :: x37 :: x38 :: x39 :: x40 :: x41 :: x42 :: x43 :: x44 :: x45 :: []), S) := by
 subst h6 h7
 rw [zu.r5]
 simp only [zSs, reduceIte, Nat.reduceEqDiff, Int.reduceEq, Int.reduceLT, Int.reduceLE]
 rcases Bool.eq_false_or_eq_true (decide (i = 9)) with d1 | d1 <;> rcases Bool.eq_false_or_eq_true (decide (1 < x)) with d2 | d2 <;> rcases Bool.eq_false_or_eq_true (decide (0 < i)) with d3 | d3 <;> rcases Bool.eq_false_or_eq_true (decide (x = 0)) with d4 | d4 <;>
  simp only [d1, d2, d3, d4, zSs, reduceIte, Nat.reduceEqDiff, Int.reduceEq, Int.reduceLT, Int.reduceLE] <;> simp only [decide_eq_true_eq, decide_eq_false_iff_not] at d1 d2 d3 d4 <;>
  simp only [d1, d2, d3, d4, true_and, false_and, and_true, and_false, or_true, true_or, or_false, false_or, decide_true, decide_false, not_true, not_false_iff, Int.reduceLT, Int.reduceEq, and_self, or_self] <;> first | exact ⟨_, _, _, _, _, _, _, _, _, _, _, _, _, rfl⟩ | omega
theorem afE : ∀ m : Fin 256, afX .u8 (m.val : Int) 127 = ((m.val % 128 : Nat) : Int) := by decide +kernel
theorem abR (x : UInt8) : afX .u8 (x.toNat : Int) 127 = ((x.toNat % 128 : Nat) : Int) := afE ⟨x.toNat, x.toNat_lt⟩
theorem qW {n : Nat} (h : n < 2 ^ 64) : IntKind.u64.wrap (n : Int) = (n : Int) := by
 rw [wrap_u64, Nat.mod_eq_of_lt h]
theorem aeJ {a c i : Nat} (ha : a < 2 ^ i) (h : c * 2 ^ i < 2 ^ 64) (h2 : a < 2 ^ 64) : orI .u64 (a : Int) ((c * 2 ^ i : Nat) : Int) = ((a + c * 2 ^ i : Nat) : Int) := by
 have hor : a ||| c * 2 ^ i = a + c * 2 ^ i := by
  have := Nat.shiftLeft_add_eq_or_of_lt ha c
  rw [Nat.shiftLeft_eq] at this
  rw [Nat.or_comm, ← this, Nat.add_comm]
 have hlt : a ||| c * 2 ^ i < 2 ^ 64 := Nat.or_lt_two_pow h2 h
 unfold orI
 rw [BitVec.ofInt_natCast, BitVec.ofInt_natCast, BitVec.toNat_or, BitVec.toNat_ofNat, BitVec.toNat_ofNat]
 rw [show IntKind.bits .u64 = 64 from rfl, Nat.mod_eq_of_lt h2, Nat.mod_eq_of_lt h, qW hlt, hor]
theorem agv {c i : Nat} (hi : i ≤ 9) (h : c * 128 ^ i < 2 ^ 64) : IntKind.u64.wrap ((c : Int) * 2 ^ (min (Int.toNat (7 * (i : Int))) (IntKind.bits .u64))) = ((c * 2 ^ (7 * i) : Nat) : Int) := by
 have e1 : min (Int.toNat (7 * (i : Int))) (IntKind.bits .u64) = 7 * i := by
  rw [show IntKind.bits .u64 = 64 from rfl]; omega
 have e2 : (128 : Nat) ^ i = 2 ^ (7 * i) := by rw [Nat.pow_mul]
 rw [e1, show (c : Int) * 2 ^ (7 * i) = ((c * 2 ^ (7 * i) : Nat) : Int) by simp, qW (by rw [← e2]; exact h)]
theorem abX {l pre suf : List UInt8} {x : UInt8} (hl : l = pre ++ x :: suf) : (l.drop ((pre.length : Int) + 1).toNat).take ((l.length : Int).toNat - ((pre.length : Int) + 1).toNat) = suf := by
 rw [show ((pre.length : Int) + 1).toNat = pre.length + 1 by omega, show (l.length : Int).toNat = l.length by omega, hl]
 rw [show pre ++ x :: suf = (pre ++ [x]) ++ suf by simp, show pre.length + 1 = (pre ++ [x]).length by simp, List.drop_left]
 rw [List.take_of_length_le]; simp; omega
theorem zu.round {k : Nat} {l : List UInt8} (hv : Okl k l) (hk : k ≠ 2) (hlen : l.length ≤ 140737488355328) {S : zi} : ∀ (suf pre : List UInt8) (acc : Nat) {T : List Value} {r : St}, yF (zA Try.prog O false zu.jk) T S = r → T.length = 46 →
  T.getD 0 undef = by_ k l → T.getD 8 undef = by_ k l → T.getD 9 undef = .int .i64 l.length → T.getD 10 undef = .int .i64 pre.length → T.getD 5 undef = .int .u64 acc → l = pre ++ suf → acc < 128 ^ pre.length → pre.length ≤ 9 →
  ∃ e T', r = some (e, T', S) ∧ match scan pre.length acc suf with
   | none => e = .exit 0 ∧ T'.length = 46
   | some (m, rest) => e = .ret ∧ m < 2 ^ 64 ∧ T'.getD 2 undef = .int .u64 m ∧ T'.getD 3 undef = by_ 2 rest ∧ T'.getD 4 undef = .int .i64 0 := by
 intro suf
 induction suf with
 | nil =>
  intro pre acc T r hL hT h0 h8 h9 h10 h5 hl hacc hpre
  obtain ⟨x0, x1, x2, x3, x4, x5, x6, x7, x8, x9, x10, x11, x12, x13, x14, x15, x16, x17, x18, x19, x20, x21, x22, x23, x24, x25, x26, x27, x28, x29, x30, x31, x32, x33, x34, x35, x36, x37, x38, x39, x40, x41, x42, x43, x44, x45, hTe⟩ := zu.list hT
  rw [hTe] at h0 h8 h9 h10 h5
  simp only [List.getD_cons_succ, List.getD_cons_zero] at h0 h8 h9 h10 h5
  subst h0 h8 h9 h10 h5
  have hr : zA Try.prog O false zu.jk T S = zA Try.prog O false zu.jk T S := rfl
  have hd : decide ((pre.length : Int) < (l.length : Int)) = false := by rw [hl]; simp
  conv at hr =>
   rhs
   rw [hTe]
   simp only [zu.jk, zSs, reduceIte, Nat.reduceEqDiff, Int.reduceEq, Int.reduceLT, Int.reduceLE, zu.r3, hd]
  exact ⟨_, _, hL.symm.trans (jC hr (by simp)), rfl, rfl⟩
 | cons x suf ih =>
  intro pre acc T r hL hT h0 h8 h9 h10 h5 hl hacc hpre
  obtain ⟨x0, x1, x2, x3, x4, x5, x6, x7, x8, x9, x10, x11, x12, x13, x14, x15, x16, x17, x18, x19, x20, x21, x22, x23, x24, x25, x26, x27, x28, x29, x30, x31, x32, x33, x34, x35, x36, x37, x38, x39, x40, x41, x42, x43, x44, x45, hTe⟩ := zu.list hT
  rw [hTe] at h0 h8 h9 h10 h5
  simp only [List.getD_cons_succ, List.getD_cons_zero] at h0 h8 h9 h10 h5
  subst h0 h8 h9 h10 h5
  have hr : zA Try.prog O false zu.jk T S = zA Try.prog O false zu.jk T S := rfl
  have hlt : (pre.length : Int) < (l.length : Int) := by rw [hl]; simp; omega
  have hd : decide ((pre.length : Int) < (l.length : Int)) = true := by simpa using hlt
  have k0 : k ≠ 0 := fun h => by have := hv.nil h; rw [this] at hl; simp at hl
  have e1 : ∀ S, jh Try.prog 26 (by_ k l) (.int .i64 pre.length) S = some (EP [.int .u8 x.toNat], S) := fun S => by
   rw [agf hv (by omega) hlt]; rw [adU hl]
  obtain ⟨y15, y16, y17, y18, y19, y20, y21, y22, y23, y24, y25, y26, y27, e3⟩ := zu.stop (by_ k l) x1 x2 x3 x4 (.int .u64 acc) (.int .i64 pre.length) (.int .u8 x.toNat) (by_ k l) (.int .i64 l.length) (.int .i64 pre.length) (.bool true) (.int .i64 pre.length) (EP [.int .u8 x.toNat]) (.int .u8 x.toNat) x15 x16 x17 x18 x19 x20 x21 x22 x23 x24 x25 x26 x27 x28 x29 x30 x31 x32 x33 x34 x35 x36 x37 x38 x39 x40 x41 x42 x43 x44 x45 (pre.length : Int) (x.toNat : Int) S rfl rfl
  conv at hr =>
   rhs
   rw [hTe]
   simp only [zu.jk, zSs, reduceIte, Nat.reduceEqDiff, Int.reduceEq, Int.reduceLT, Int.reduceLE, zu.r3, hd, zu.r4, e1, aez, if_neg hk, e3]
  have hst : ((pre.length : Int) = 9 ∧ 1 < (x.toNat : Int) ∨ 0 < (pre.length : Int) ∧ (x.toNat : Int) = 0) ↔ ((pre.length = 9 ∧ 1 < x.toNat) ∨ (0 < pre.length ∧ x.toNat = 0)) := by omega
  by_cases hs : (pre.length = 9 ∧ 1 < x.toNat) ∨ (0 < pre.length ∧ x.toNat = 0)
  ·
   have hs2 := decide_eq_true (hst.2 hs)
   conv at hr =>
    rhs
    simp only [hs2, zSs, reduceIte, Nat.reduceEqDiff, Int.reduceEq, Int.reduceLT, Int.reduceLE]
   refine ⟨_, _, hL.symm.trans (jC hr (by simp)), ?_⟩
   rw [scan, if_pos hs]
   exact ⟨rfl, rfl⟩
  ·
   have hs2 := decide_eq_false (fun h => hs (hst.1 h))
   have hx256 := x.toNat_lt
   have hpw : 128 ^ pre.length ≤ 128 ^ 9 := Nat.pow_le_pow_right (by omega) hpre
   have hc64 : x.toNat % 128 * 128 ^ pre.length < 2 ^ 64 := by
    by_cases h9 : pre.length = 9
    ·
     rw [h9]; have : x.toNat % 128 ≤ 1 := by omega
     exact Nat.lt_of_le_of_lt (Nat.mul_le_mul_right _ this) (by decide)
    ·
     have h8 : 128 ^ pre.length ≤ 128 ^ 8 := Nat.pow_le_pow_right (by omega) (by omega)
     exact Nat.lt_of_le_of_lt (Nat.mul_le_mul (by omega : x.toNat % 128 ≤ 127) h8) (by decide)
   have hm : IntKind.i64.wrap (7 * (pre.length : Int)) = 7 * (pre.length : Int) := wrap_i64 (by omega) (by omega)
   have e128 : (128 : Nat) ^ pre.length = 2 ^ (7 * pre.length) := by rw [Nat.pow_mul]
   have hor := aeJ (a := acc) (c := x.toNat % 128) (i := 7 * pre.length) (by rw [← e128]; exact hacc) (by rw [← e128]; exact hc64) (Nat.lt_of_lt_of_le hacc (Nat.le_trans hpw (by decide)))
   conv at hr =>
    rhs
    simp only [hs2, zSs, reduceIte, Nat.reduceEqDiff, Int.reduceEq, Int.reduceLT, Int.reduceLE, zu.r6, ab8, abR, JF, qW (show x.toNat % 128 < 2 ^ 64 by omega), hm, aco _ _ _ _ (show (0 : Int) ≤ 7 * (pre.length : Int) by omega), agv hpre hc64, aag, hor, zu.r7]
   rw [← e128] at hr
   have hadd : acc + x.toNat % 128 * 128 ^ pre.length < 128 ^ (pre.length + 1) := by
    rw [Nat.pow_succ]
    have : x.toNat % 128 * 128 ^ pre.length ≤ 127 * 128 ^ pre.length := Nat.mul_le_mul_right _ (by omega)
    omega
   have hi1 : IntKind.i64.wrap ((pre.length : Int) + 1) = (pre.length : Int) + 1 := wrap_i64 (by omega) (by omega)
   by_cases hxs : x.toNat < 128
   ·
    have hd2 : decide ((x.toNat : Int) < 128) = true := by simp; omega
    have e4 : ∀ S, yV Try.prog 26 (by_ k l) (some (.int .i64 ((pre.length : Int) + 1))) none S = some (by_ k suf, S) := fun S => by
     rw [Jc hv (lo := some (.int .i64 ((pre.length : Int) + 1))) (hi := none) (i := (pre.length : Int) + 1) (j := l.length) rfl rfl (by omega) (by omega) (by omega), abX hl, if_neg hk]
    have ok2 : Okl k suf := ⟨hv.le, fun h => absurd h k0⟩
    have e5 : ∀ S, zW Try.prog O slices_Clone.id [by_ k suf] S = some (by_ 2 suf, S) := fun S => by
     rw [slices_Clone.v ok2 hk (by have := congrArg List.length hl; simp at this; omega), if_neg k0]
    conv at hr =>
     rhs
     simp only [hd2, zSs, reduceIte, Nat.reduceEqDiff, Int.reduceEq, Int.reduceLT, Int.reduceLE, zu.r8, hi1, if_neg hk, e4, e5]
    refine ⟨_, _, hL.symm.trans (jC hr (by simp)), ?_⟩
    rw [scan, if_neg hs, if_pos hxs]
    have hxm : x.toNat % 128 = x.toNat := by omega
    rw [hxm]
    refine ⟨rfl, ?_, rfl, rfl, rfl⟩
    rw [hxm] at hadd
    by_cases h9 : pre.length = 9
    ·
     rw [h9] at hacc ⊢
     have : x.toNat ≤ 1 := by omega
     have h1 : x.toNat * 128 ^ 9 ≤ 1 * 128 ^ 9 := Nat.mul_le_mul_right _ this
     have h2 : (128 : Nat) ^ 9 + 1 * 128 ^ 9 = 2 ^ 64 := by decide
     omega
    ·
     have h8 : 128 ^ (pre.length + 1) ≤ 128 ^ 9 := Nat.pow_le_pow_right (by omega) (by omega)
     exact Nat.lt_of_lt_of_le hadd (Nat.le_trans h8 (by decide))
   ·
    have hd2 : decide ((x.toNat : Int) < 128) = false := by simp; omega
    conv at hr =>
     rhs
     simp only [hd2, zSs, reduceIte, Nat.reduceEqDiff, Int.reduceEq, Int.reduceLT, Int.reduceLE, zu.r9, hi1]
    obtain ⟨e, T', g1, g3⟩ := ih (pre ++ [x]) (acc + x.toNat % 128 * 128 ^ pre.length) ((wZ hr).symm.trans hL) rfl rfl rfl rfl (by simp) rfl (by simp [hl]) (by simpa using hadd) (by simp; omega)
    refine ⟨e, T', g1, ?_⟩
    rw [scan, if_neg hs, if_neg hxs]
    have hxm : x.toNat % 128 = x.toNat - 128 := by omega
    rw [hxm] at g3
    simpa using g3
theorem zu.v {k : Nat} {l : List UInt8} (hv : Okl k l) (hk : k ≠ 2) (hlen : l.length ≤ 140737488355328) (S : zi) : zW Try.prog O zu.id [by_ k l] S = some (Vp l, S) := by
 obtain ⟨T, hTe⟩ : ∃ T, T = (by_ k l :: undef :: undef :: undef :: undef :: undef :: undef :: undef :: undef :: undef :: undef :: undef :: undef :: undef :: undef :: undef :: undef :: undef :: undef :: undef :: undef :: undef :: undef :: undef :: undef :: undef :: undef :: undef :: undef :: undef :: undef :: undef :: undef :: undef :: undef :: undef :: undef :: undef :: undef :: undef :: undef :: undef :: undef :: undef :: undef :: undef :: []) := ⟨_, rfl⟩
 have hr : zA Try.prog O false zu.code T S = zA Try.prog O false zu.code T S := rfl
 conv at hr =>
  rhs
  rw [hTe]
  simp only [zu.code, zSs, reduceIte, Nat.reduceEqDiff, Int.reduceEq, Int.reduceLT, Int.reduceLE, zu.r0, zu.r1, zu.r2, if_neg hk, qK hv]
 generalize hL : yF (zA Try.prog O false zu.jk) _ _ = r at hr
 obtain ⟨e, T', rfl, g3⟩ := zu.round hv hk hlen l [] 0 hL rfl rfl rfl rfl rfl rfl rfl (by simp) (by simp)
 simp only [List.length_nil] at g3
 unfold Vp
 cases hsc : scan 0 0 l with
 | none =>
  rw [hsc] at g3
  obtain ⟨rfl, hT'⟩ := g3
  obtain ⟨x0, x1, x2, x3, x4, x5, x6, x7, x8, x9, x10, x11, x12, x13, x14, x15, x16, x17, x18, x19, x20, x21, x22, x23, x24, x25, x26, x27, x28, x29, x30, x31, x32, x33, x34, x35, x36, x37, x38, x39, x40, x41, x42, x43, x44, x45, hTe'⟩ := zu.list hT'
  conv at hr =>
   rhs
   rw [hTe']
   simp only [zSs, reduceIte, Nat.reduceEqDiff, Int.reduceEq, Int.reduceLT, Int.reduceLE, zu.r10]
  rw [hTe] at hr
  exact zu.runs hr (.inr rfl) rfl rfl rfl
 | some mr =>
  obtain ⟨m, rest⟩ := mr
  rw [hsc] at g3
  obtain ⟨rfl, hm, h2, h3, h4⟩ := g3
  conv at hr =>
   rhs
   simp only [zSs, reduceIte, Nat.reduceEqDiff, Int.reduceEq, Int.reduceLT, Int.reduceLE]
  rw [hTe] at hr
  have hrun := zu.runs hr (.inr rfl) (by rw [h2]; rfl) (by rw [h3]; exact zX) (by rw [h4]; rfl)
  rw [h2, h3, h4] at hrun
  exact hrun
theorem KU : ∀ (suf : List UInt8) (i acc : Nat), acc < 128 ^ i → i ≤ 9 → ∀ m rest, scan i acc suf = some (m, rest) → m < 2 ^ 64 ∧ rest.length < suf.length := by
 intro suf
 induction suf with
 | nil => intro i acc _ _ m rest h; cases h
 | cons x suf ih =>
  intro i acc hacc hi m rest h
  rw [scan] at h
  have hx256 := x.toNat_lt
  split at h
  ·
   cases h
  ·
   rename_i hs
   split at h
   ·
    rename_i hx
    cases h
    refine ⟨?_, by simp⟩
    by_cases h9 : i = 9
    ·
     subst h9
     have : x.toNat ≤ 1 := by omega
     have h1 : x.toNat * 128 ^ 9 ≤ 1 * 128 ^ 9 := Nat.mul_le_mul_right _ this
     have h2 : (128 : Nat) ^ 9 + 1 * 128 ^ 9 = 2 ^ 64 := by decide
     omega
    ·
     have h8 : 128 ^ (i + 1) ≤ 128 ^ 9 := Nat.pow_le_pow_right (by omega) (by omega)
     have h3 : acc + x.toNat * 128 ^ i < 128 ^ (i + 1) := by
      rw [Nat.pow_succ]
      have : x.toNat * 128 ^ i ≤ 127 * 128 ^ i := Nat.mul_le_mul_right _ (by omega)
      omega
     exact Nat.lt_of_lt_of_le h3 (Nat.le_trans h8 (by decide))
   ·
    rename_i hx
    have h9 : i ≠ 9 := by omega
    have hadd : acc + (x.toNat - 128) * 128 ^ i < 128 ^ (i + 1) := by
     rw [Nat.pow_succ]
     have : (x.toNat - 128) * 128 ^ i ≤ 127 * 128 ^ i := Nat.mul_le_mul_right _ (by omega)
     omega
    obtain ⟨h1, h2⟩ := ih (i + 1) _ hadd (by omega) m rest h
    exact ⟨h1, by simp; omega⟩
end Go.Proofs.Ytblpnklfimkfoaa
namespace Go.Proofs.Ytblpnklfimkfoaa
open Go.Abs
theorem KJ (n : Nat) : 0 < (enc n).length := by
 by_cases h : n < 128
 ·
  rw [qV h]; simp
 ·
  rw [Jm h]; simp
section
variable {k : Nat} {l : List UInt8} {S : zi}
end
end Go.Proofs.Ytblpnklfimkfoaa
namespace Go.Proofs.Ytblpnklfimkfoaa
open Go.Abs
def Y6 (l : List UInt8) : List UInt8 := enc l.length ++ l
def acr (l : List UInt8) : Value := if 4096 < l.length then .tuple #[.slice none 0 0, .int .i64 11] else .tuple #[by_ 2 (Y6 l), .int .i64 0]
def Wj (l : List UInt8) : Option (List UInt8 × List UInt8) :=
 match scan 0 0 l with
 | some (m, rest) => if m ≤ 4096 ∧ m ≤ rest.length then some (rest.take m, rest.drop m) else none
 | none => none
def XC (k : Nat) (l : List UInt8) : Value :=
 match Wj l with
 | some (a, b) => .tuple #[by_ k a, by_ k b, .int .i64 0]
 | none => .tuple #[.slice none 0 0, .slice none 0 0, .int .i64 11]
section
variable {k : Nat} {l : List UInt8}
theorem jA.v (hv : Okl k l) (hk : k ≠ 2) (S : zi) : zW Try.prog O jA.id [by_ k l] S = some (acr l, S) := by
 obtain ⟨T, hTe⟩ : ∃ T, T = (by_ k l :: undef :: undef :: undef :: undef :: undef :: undef :: undef :: undef :: undef :: undef :: undef :: undef :: []) := ⟨_, rfl⟩
 have hr : zA Try.prog O false jA.code T S = zA Try.prog O false jA.code T S := rfl
 conv at hr =>
  rhs
  rw [hTe]
  simp only [jA.code, zSs, reduceIte, Nat.reduceEqDiff, Int.reduceEq, Int.reduceLT, Int.reduceLE, jA.r0, jA.r1, if_neg hk, qK hv, goInt]
 unfold acr
 by_cases hl : 4096 < l.length
 ·
  have hd : decide ((4096 : Int) < (l.length : Int)) = true := by rw [decide_eq_true_eq]; omega
  conv at hr =>
   rhs
   simp only [hd, zSs, reduceIte, Nat.reduceEqDiff, Int.reduceEq, Int.reduceLT, Int.reduceLE, jA.r2]
  rw [hTe] at hr
  rw [if_pos hl]
  exact jA.runs hr (.inr rfl) (by simp only [List.getD_cons_succ, List.getD_cons_zero, zX, zT, zI, zN, zU]) (by simp only [List.getD_cons_succ, List.getD_cons_zero, zX, zT, zI, zN, zU])
 ·
  have hd : decide ((4096 : Int) < (l.length : Int)) = false := by rw [decide_eq_false_iff_not]; omega
  have h10 := xC (n := l.length) (by omega)
  have hp := KJ l.length
  have e1 : ∀ S, jS Try.prog 26 26 (by_ 2 (enc l.length)) (by_ k l) S = some (by_ 2 (Y6 l), S) := fun S => by
   rw [xw Okl.own (by decide) hv (by omega)]; rfl
  conv at hr =>
   rhs
   simp only [hd, zSs, reduceIte, Nat.reduceEqDiff, Int.reduceEq, Int.reduceLT, Int.reduceLE, jA.r3, if_neg hk, qK hv, goInt, qm, qW (show l.length < 2 ^ 64 by omega), jf.v _ (show l.length < 2 ^ 64 by omega), e1]
  rw [hTe] at hr
  rw [if_neg hl]
  exact jA.runs hr (.inr rfl) (by simp only [List.getD_cons_succ, List.getD_cons_zero, zX, zT, zI, zN, zU]) (by simp only [List.getD_cons_succ, List.getD_cons_zero, zX, zT, zI, zN, zU])
theorem zG.v (hv : Okl k l) (hk : k ≠ 2) (hlen : l.length ≤ 140737488355328) (S : zi) : zW Try.prog O zG.id [by_ k l] S = some (XC 2 l, S) := by
 obtain ⟨T, hTe⟩ : ∃ T, T = (by_ k l :: undef :: undef :: undef :: undef :: undef :: undef :: undef :: undef :: undef :: undef :: undef :: undef :: undef :: undef :: undef :: undef :: undef :: undef :: undef :: undef :: undef :: undef :: undef :: undef :: undef :: undef :: undef :: undef :: undef :: undef :: undef :: undef :: undef :: undef :: []) := ⟨_, rfl⟩
 have hr : zA Try.prog O false zG.code T S = zA Try.prog O false zG.code T S := rfl
 have e1 : ∀ S, zW Try.prog O 42 [by_ k l] S = some (Vp l, S) := zu.v hv hk hlen
 conv at hr =>
  rhs
  rw [hTe]
  simp only [zG.code, zSs, reduceIte, Nat.reduceEqDiff, Int.reduceEq, Int.reduceLT, Int.reduceLE, zG.r0, zG.r1, if_neg hk, e1]
 unfold XC Wj
 unfold Vp at hr
 cases hsc : scan 0 0 l with
 | none =>
  rw [hsc] at hr
  have d1 : decide ((11 : Int) = 0) = false := by decide
  conv at hr =>
   rhs
   simp only [zSs, reduceIte, Nat.reduceEqDiff, Int.reduceEq, Int.reduceLT, Int.reduceLE, zG.r2, d1, zG.r3]
  rw [hTe] at hr
  exact zG.runs hr (.inr rfl) (by simp only [List.getD_cons_succ, List.getD_cons_zero, zX, zT, zI, zN, zU]) (by simp only [List.getD_cons_succ, List.getD_cons_zero, zX, zT, zI, zN, zU]) (by simp only [List.getD_cons_succ, List.getD_cons_zero, zX, zT, zI, zN, zU])
 | some mr =>
  obtain ⟨m, rest⟩ := mr
  obtain ⟨hm, hrl⟩ := KU l 0 0 (by decide) (by omega) m rest hsc
  rw [hsc] at hr
  have d1 : decide ((0 : Int) = 0) = true := by decide
  dsimp only
  by_cases h1 : m ≤ 4096
  ·
   have d2 : decide ((4096 : Int) < (m : Int)) = false := by rw [decide_eq_false_iff_not]; omega
   by_cases h2 : m ≤ rest.length
   ·
    have d3 : decide ((rest.length : Int) < (m : Int)) = false := by rw [decide_eq_false_iff_not]; omega
    have s1 : ∀ S, yV Try.prog 26 (by_ 1 rest) none (some (.int .u64 m)) S = some (by_ 1 (rest.take m), S) := fun S => by
     rw [Jc Okl.read (lo := none) (hi := some (.int .u64 m)) (i := 0) (j := m) rfl rfl (by omega) (by omega) (by omega)]; simp
    have s2 : ∀ S, yV Try.prog 26 (by_ 1 rest) (some (.int .u64 m)) none S = some (by_ 1 (rest.drop m), S) := fun S => by
     rw [Jc Okl.read (lo := some (.int .u64 m)) (hi := none) (i := m) (j := rest.length) rfl rfl (by omega) (by omega) (by omega)]
     simp only [Int.toNat_natCast]
     rw [List.take_of_length_le (by simp)]; rfl
    have c1 : ∀ S, zW Try.prog O 43 [by_ 1 (rest.take m)] S = some (by_ 2 (rest.take m), S) := fun S => slices_Clone.v Okl.read (by decide) (by simp; omega) S
    have c2 : ∀ S, zW Try.prog O 43 [by_ 1 (rest.drop m)] S = some (by_ 2 (rest.drop m), S) := fun S => slices_Clone.v Okl.read (by decide) (by simp; omega) S
    conv at hr =>
     rhs
     simp only [zSs, reduceIte, Nat.reduceEqDiff, Int.reduceEq, Int.reduceLT, Int.reduceLE, zG.r2, d1, d2, qK (Okl.read), goInt, qm, qW (show rest.length < 2 ^ 64 by omega), d3, zG.r4, s1, s2, c1, c2]
    rw [hTe] at hr
    rw [if_pos ⟨h1, h2⟩]
    exact zG.runs hr (.inr rfl) (by simp only [List.getD_cons_succ, List.getD_cons_zero, zX, zT, zI, zN, zU]) (by simp only [List.getD_cons_succ, List.getD_cons_zero, zX, zT, zI, zN, zU]) (by simp only [List.getD_cons_succ, List.getD_cons_zero, zX, zT, zI, zN, zU])
   ·
    have d3 : decide ((rest.length : Int) < (m : Int)) = true := by rw [decide_eq_true_eq]; omega
    conv at hr =>
     rhs
     simp only [zSs, reduceIte, Nat.reduceEqDiff, Int.reduceEq, Int.reduceLT, Int.reduceLE, zG.r2, d1, d2, qK (Okl.read), goInt, qm, qW (show rest.length < 2 ^ 64 by omega), d3, zG.r3]
    rw [hTe] at hr
    rw [if_neg (fun h => h2 h.2)]
    exact zG.runs hr (.inr rfl) (by simp only [List.getD_cons_succ, List.getD_cons_zero, zX, zT, zI, zN, zU]) (by simp only [List.getD_cons_succ, List.getD_cons_zero, zX, zT, zI, zN, zU]) (by simp only [List.getD_cons_succ, List.getD_cons_zero, zX, zT, zI, zN, zU])
  ·
   have d2 : decide ((4096 : Int) < (m : Int)) = true := by rw [decide_eq_true_eq]; omega
   conv at hr =>
    rhs
    simp only [zSs, reduceIte, Nat.reduceEqDiff, Int.reduceEq, Int.reduceLT, Int.reduceLE, zG.r2, d1, d2, zG.r3]
   rw [hTe] at hr
   rw [if_neg (fun h => h1 h.1)]
   exact zG.runs hr (.inr rfl) (by simp only [List.getD_cons_succ, List.getD_cons_zero, zX, zT, zI, zN, zU]) (by simp only [List.getD_cons_succ, List.getD_cons_zero, zX, zT, zI, zN, zU]) (by simp only [List.getD_cons_succ, List.getD_cons_zero, zX, zT, zI, zN, zU])
end
end Go.Proofs.Ytblpnklfimkfoaa
namespace Go.Proofs.Ytblpnklfimkfoaa
open Go.Abs
theorem J7 {n : Nat} (h : n < 256) : (UInt8.ofNat n).toNat = n := by rw [UInt8.toNat_ofNat']; omega
theorem Xd : ∀ (n i acc : Nat) (r : List UInt8), i ≤ 9 → (0 < i → 0 < n) → n * 128 ^ i < 2 ^ 64 → scan i acc (enc n ++ r) = some (acc + n * 128 ^ i, r) := by
 intro n
 induction n using Nat.strongRecOn with
 | _ n ih =>
  intro i acc r hi hn hlt
  have h9 : i = 9 → n ≤ 1 := by
   intro h; subst h
   have : (128 : Nat) ^ 9 = 2 ^ 63 := by decide
   omega
  by_cases hs : n < 128
  ·
   rw [qV hs, List.singleton_append, scan, J7 (by omega), if_neg (by rintro (⟨h1, h2⟩ | ⟨h1, h2⟩); exact absurd (h9 h1) (by omega); exact absurd (hn h1) (by omega)), if_pos hs]
  ·
   rw [Jm hs, List.cons_append, scan, J7 (by omega)]
   have hi9 : i ≠ 9 := fun h => by have := h9 h; omega
   rw [if_neg (by rintro (⟨h1, h2⟩ | ⟨h1, h2⟩); exact hi9 h1; omega), if_neg (by omega)]
   have hmul : n / 128 * 128 ^ (i + 1) ≤ n * 128 ^ i := by
    rw [Nat.pow_succ, ← Nat.mul_assoc, Nat.mul_right_comm]
    exact Nat.mul_le_mul_right _ (by omega)
   rw [ih (n / 128) (by omega) (i + 1) _ r (by omega) (fun _ => by omega) (Nat.lt_of_le_of_lt hmul hlt)]
   congr 2
   have : n = n % 128 + n / 128 * 128 := by omega
   have e1 : (n % 128 + 128 - 128) * 128 ^ i + n / 128 * 128 ^ (i + 1) = n * 128 ^ i := by
    rw [Nat.pow_succ]
    conv => rhs; rw [this, Nat.add_mul]
    rw [Nat.add_sub_cancel, Nat.mul_comm (128 ^ i) 128, ← Nat.mul_assoc]
   omega
theorem Xu {n : Nat} (h : n < 2 ^ 64) (r : List UInt8) : scan 0 0 (enc n ++ r) = some (n, r) := by
 rw [Xd n 0 0 r (by omega) (by omega) (by simpa using h)]; simp
theorem QL : ∀ (l : List UInt8) (i acc m : Nat) (r : List UInt8), scan i acc l = some (m, r) → ∃ n, l = enc n ++ r ∧ m = acc + n * 128 ^ i ∧ (0 < i → 0 < n) := by
 intro l
 induction l with
 | nil => intro i acc m r h; cases h
 | cons x l ih =>
  intro i acc m r h
  rw [scan] at h
  have hx := x.toNat_lt
  split at h
  ·
   cases h
  ·
   rename_i hs
   split at h
   ·
    rename_i hx2
    cases h
    refine ⟨x.toNat, ?_, rfl, fun hi => by omega⟩
    rw [qV hx2]; simp
   ·
    rename_i hx2
    obtain ⟨n, h1, h2, h3⟩ := ih _ _ _ _ h
    refine ⟨x.toNat - 128 + n * 128, ?_, ?_, fun _ => ?_⟩
    ·
     have hn := h3 (by omega)
     rw [Jm (by omega), show (x.toNat - 128 + n * 128) / 128 = n by omega, show (x.toNat - 128 + n * 128) % 128 + 128 = x.toNat by omega, h1]
     simp
    ·
     rw [h2, Nat.pow_succ, Nat.add_mul]
     rw [Nat.mul_comm (128 ^ i) 128, ← Nat.mul_assoc]; omega
    ·
     have := h3 (by omega); omega
theorem QS {l r : List UInt8} {m : Nat} (h : scan 0 0 l = some (m, r)) : l = enc m ++ r ∧ m < 2 ^ 64 := by
 obtain ⟨n, h1, h2, _⟩ := QL l 0 0 m r h
 have : m = n := by simpa using h2
 subst this
 exact ⟨h1, (KU l 0 0 (by decide) (by omega) m r h).1⟩
end Go.Proofs.Ytblpnklfimkfoaa
namespace Go.Proofs.Ytblpnklfimkfoaa
open Go.Abs
theorem yE {l r : List UInt8} (h : l.length ≤ 4096) : Wj (Y6 l ++ r) = some (l, r) := by
 unfold Wj Y6
 rw [List.append_assoc, Xu (by omega)]
 dsimp only
 rw [if_pos ⟨h, by simp⟩]
 simp
theorem Ws {l a b : List UInt8} (h : Wj l = some (a, b)) : l = Y6 a ++ b ∧ a.length ≤ 4096 := by
 unfold Wj at h
 cases hs : scan 0 0 l with
 | none => rw [hs] at h; cases h
 | some mr =>
  obtain ⟨m, rest⟩ := mr
  rw [hs] at h
  dsimp only at h
  split at h
  ·
   rename_i hc
   cases h
   obtain ⟨h1, h2⟩ := QS hs
   have hl : (rest.take m).length = m := by simp; omega
   refine ⟨?_, by omega⟩
   unfold Y6
   rw [hl, List.append_assoc, List.take_append_drop]
   exact h1
  ·
   cases h
end Go.Proofs.Ytblpnklfimkfoaa
namespace Go.Proofs.Ytblpnklfimkfoaa
open Go.Abs
abbrev zn.id : FuncId := 44
noncomputable def zn.jk : Code := (Code.seq (Code.region 6 (reg Try.f44 6) false) (Code.seq (Code.cond (Operand.tmp 22) Code.skip (Code.exit 0)) (Code.seq (Code.block 1 (Code.seq (Code.region 7 (reg Try.f44 7) false) (Code.seq (Code.seq (Code.region 8 (reg Try.f44 8) false) (Code.cond (Operand.tmp 34) (Code.seq (Code.region 9 (reg Try.f44 9) false) Code.ret) Code.skip)) (Code.seq (Code.region 10 (reg Try.f44 10) false) (Code.region 11 (reg Try.f44 11) false))))) (Code.region 12 (reg Try.f44 12) false))))
noncomputable def zn.code : Code := (Code.seq (Code.region 0 (reg Try.f44 0) false) (Code.seq (Code.seq (Code.region 1 (reg Try.f44 1) false) (Code.cond (Operand.tmp 17) (Code.seq (Code.region 2 (reg Try.f44 2) false) Code.ret) Code.skip)) (Code.seq (Code.region 3 (reg Try.f44 3) false) (Code.seq (Code.region 4 (reg Try.f44 4) false) (Code.seq (Code.seq (Code.region 5 (reg Try.f44 5) false) (Code.block 0 (Code.loop zn.jk))) (Code.seq (Code.region 13 (reg Try.f44 13) false) Code.ret))))))
theorem zn.body : Try.f44.body = some zn.code := by kernel_rfl
theorem zn.eta {T : List Value} (h : T.length = 45) : T = [T.getD 0 undef,T.getD 1 undef,T.getD 2 undef,T.getD 3 undef,T.getD 4 undef,T.getD 5 undef,T.getD 6 undef,T.getD 7 undef,T.getD 8 undef,T.getD 9 undef,T.getD 10 undef,T.getD 11 undef,T.getD 12 undef,T.getD 13 undef,T.getD 14 undef,T.getD 15 undef,T.getD 16 undef,T.getD 17 undef,T.getD 18 undef,T.getD 19 undef,T.getD 20 undef,T.getD 21 undef,T.getD 22 undef,T.getD 23 undef,T.getD 24 undef,T.getD 25 undef,T.getD 26 undef,T.getD 27 undef,T.getD 28 undef,T.getD 29 undef,T.getD 30 undef,T.getD 31 undef,T.getD 32 undef,T.getD 33 undef,T.getD 34 undef,T.getD 35 undef,T.getD 36 undef,T.getD 37 undef,T.getD 38 undef,T.getD 39 undef,T.getD 40 undef,T.getD 41 undef,T.getD 42 undef,T.getD 43 undef,T.getD 44 undef] := (y7 T 45 h).trans (by kernel_rfl)
variable (P N V W X Y Z Q R U b a f g i k l m n o c d p q r s t u w x y z A B C D E F G H I J K L M : Value) (S : zi)
theorem zn.r0  : ji Try.prog ⟨false, false, false⟩ (zW Try.prog O) (reg Try.f44 0) (reg Try.f44 0).toList ([P,N,V,W,X,Y,Z,Q,R,U,b,a,f,g,i,k,l,m,n,o,c,d,p,q,r,s,t,u,w,x,y,z,A,B,C,D,E,F,G,H,I,J,K,L,M]) S =
  ( some ([P,N,V,W,Value.slice none 0 0,Value.slice none 0 0,Value.int IntKind.i64 0,Q,R,U,b,a,f,g,i,k,l,m,n,o,c,d,p,q,r,s,t,u,w,x,y,z,A,B,C,D,E,F,G,H,I,J,K,L,M], S)) := by
 kernel_rfl
theorem zn.r1  : ji Try.prog ⟨false, false, false⟩ (zW Try.prog O) (reg Try.f44 1) (reg Try.f44 1).toList ([P,N,V,W,X,Y,Z,Q,R,U,b,a,f,g,i,k,l,m,n,o,c,d,p,q,r,s,t,u,w,x,y,z,A,B,C,D,E,F,G,H,I,J,K,L,M]) S =
  (zO (jW Try.prog BinOp.lss 3 (dem N) (Value.int IntKind.i64 0) S) (fun v1 S1 => gdK (dem v1) false (ret N) S1 (fun v3 S2 => gdK (dem v1) false (jW Try.prog BinOp.gtr 3 (dem v3) (Value.int IntKind.i64 64)) S2 (fun v4 S3 => zO (qI (dem v1) (Value.bool true) v4 S3) (fun v5 S4 => some ([P,N,V,W,X,Y,Z,Q,R,U,b,a,dem N,v1,dem v1,dem v3,v4,v5,n,o,c,d,p,q,r,s,t,u,w,x,y,z,A,B,C,D,E,F,G,H,I,J,K,L,M], S4)) ()) ()) ()) ()) := by
 refine sP Try.f44 1 0 (v := N) ?_
 refine sD Try.f44 1 1 (fun v1 S1 => ?_)
 refine sP Try.f44 1 2 (v := v1) ?_
 refine sG Try.f44 1 3 (j := 2) (fun v3 S2 => ?_)
 refine sG Try.f44 1 4 (j := 2) (fun v4 S3 => ?_)
 refine sD Try.f44 1 5 (fun v5 S4 => ?_)
 kernel_rfl
theorem zn.r2  : ji Try.prog ⟨false, false, false⟩ (zW Try.prog O) (reg Try.f44 2) (reg Try.f44 2).toList ([P,N,V,W,X,Y,Z,Q,R,U,b,a,f,g,i,k,l,m,n,o,c,d,p,q,r,s,t,u,w,x,y,z,A,B,C,D,E,F,G,H,I,J,K,L,M]) S =
  ( some ([P,N,V,W,Value.slice none 0 0,Value.slice none 0 0,Value.int IntKind.i64 11,Q,R,U,b,a,f,g,i,k,l,m,n,o,c,d,p,q,r,s,t,u,w,x,y,z,A,B,C,D,E,F,G,H,I,J,K,L,M], S)) := by
 kernel_rfl
theorem zn.r3  : ji Try.prog ⟨false, false, false⟩ (zW Try.prog O) (reg Try.f44 3) (reg Try.f44 3).toList ([P,N,V,W,X,Y,Z,Q,R,U,b,a,f,g,i,k,l,m,n,o,c,d,p,q,r,s,t,u,w,x,y,z,A,B,C,D,E,F,G,H,I,J,K,L,M]) S =
  (zO ((zW Try.prog O) 43 [(dem (dem P))] S) (fun v1 S1 => some ([P,N,V,W,X,Y,Z,v1,R,U,b,a,f,g,i,k,l,m,dem P,dem v1,c,d,p,q,r,s,t,u,w,x,y,z,A,B,C,D,E,F,G,H,I,J,K,L,M], S1)) ()) := by
 kernel_rfl
theorem zn.r4  : ji Try.prog ⟨false, false, false⟩ (zW Try.prog O) (reg Try.f44 4) (reg Try.f44 4).toList ([P,N,V,W,X,Y,Z,Q,R,U,b,a,f,g,i,k,l,m,n,o,c,d,p,q,r,s,t,u,w,x,y,z,A,B,C,D,E,F,G,H,I,J,K,L,M]) S =
  ( some ([P,N,V,W,X,Y,Z,Q,Value.slice none 0 0,U,b,a,f,g,i,k,l,m,n,o,c,d,p,q,r,s,t,u,w,x,y,z,A,B,C,D,E,F,G,H,I,J,K,L,M], S)) := by
 kernel_rfl
theorem zn.r5  : ji Try.prog ⟨false, false, false⟩ (zW Try.prog O) (reg Try.f44 5) (reg Try.f44 5).toList ([P,N,V,W,X,Y,Z,Q,R,U,b,a,f,g,i,k,l,m,n,o,c,d,p,q,r,s,t,u,w,x,y,z,A,B,C,D,E,F,G,H,I,J,K,L,M]) S =
  ( some ([P,N,V,W,X,Y,Z,Q,R,U,b,a,f,g,i,k,l,m,n,o,dem N,Value.int IntKind.i64 0,p,q,r,s,t,u,w,x,y,z,A,B,C,D,E,F,G,H,I,J,K,L,M], S)) := by
 kernel_rfl
theorem zn.r6  : ji Try.prog ⟨false, false, false⟩ (zW Try.prog O) (reg Try.f44 6) (reg Try.f44 6).toList ([P,N,V,W,X,Y,Z,Q,R,U,b,a,f,g,i,k,l,m,n,o,c,d,p,q,r,s,t,u,w,x,y,z,A,B,C,D,E,F,G,H,I,J,K,L,M]) S =
  (zO (jW Try.prog BinOp.lss 3 d c S) (fun v0 S1 => some ([P,N,V,W,X,Y,Z,Q,R,U,b,a,f,g,i,k,l,m,n,o,c,d,v0,q,r,s,t,u,w,x,y,z,A,B,C,D,E,F,G,H,I,J,K,L,M], S1)) ()) := by
 kernel_rfl
theorem zn.r7  : ji Try.prog ⟨false, false, false⟩ (zW Try.prog O) (reg Try.f44 7) (reg Try.f44 7).toList ([P,N,V,W,X,Y,Z,Q,R,U,b,a,f,g,i,k,l,m,n,o,c,d,p,q,r,s,t,u,w,x,y,z,A,B,C,D,E,F,G,H,I,J,K,L,M]) S =
  (zO ((zW Try.prog O) 42 [(dem (dem Q))] S) (fun v1 S1 => zO (zF v1 0 S1) (fun v3 S2 => zO (zF (zS 0 v1) 1 S2) (fun v4 S3 => zO (zF (zS 1 (zS 0 v1)) 2 S3) (fun v5 S4 => some ([P,N,V,W,X,Y,Z,Q,R,v3,v4,v5,f,g,i,k,l,m,n,o,c,d,p,zS 2 (zS 1 (zS 0 v1)),dem Q,dem v1,dem v3,dem v4,dem v5,x,y,z,A,B,C,D,E,F,G,H,I,J,K,L,M], S4)) ()) ()) ()) ()) := by
 kernel_rfl
theorem zn.r8  : ji Try.prog ⟨false, false, false⟩ (zW Try.prog O) (reg Try.f44 8) (reg Try.f44 8).toList ([P,N,V,W,X,Y,Z,Q,R,U,b,a,f,g,i,k,l,m,n,o,c,d,p,q,r,s,t,u,w,x,y,z,A,B,C,D,E,F,G,H,I,J,K,L,M]) S =
  (zO (jW Try.prog BinOp.neq 29 (dem a) (Value.int IntKind.i64 0) S) (fun v1 S1 => gdK (dem v1) false (ret U) S1 (fun v3 S2 => gdK (dem v1) false (jW Try.prog BinOp.gtr 75 (dem v3) (Value.int IntKind.u64 4611686018427387905)) S2 (fun v4 S3 => zO (qI (dem v1) (Value.bool true) v4 S3) (fun v5 S4 => some ([P,N,V,W,X,Y,Z,Q,R,U,b,a,f,g,i,k,l,m,n,o,c,d,p,q,r,s,t,u,w,dem a,v1,dem v1,dem v3,v4,v5,D,E,F,G,H,I,J,K,L,M], S4)) ()) ()) ()) ()) := by
 refine sP Try.f44 8 0 (v := a) ?_
 refine sD Try.f44 8 1 (fun v1 S1 => ?_)
 refine sP Try.f44 8 2 (v := v1) ?_
 refine sG Try.f44 8 3 (j := 2) (fun v3 S2 => ?_)
 refine sG Try.f44 8 4 (j := 2) (fun v4 S3 => ?_)
 refine sD Try.f44 8 5 (fun v5 S4 => ?_)
 kernel_rfl
theorem zn.r9  : ji Try.prog ⟨false, false, false⟩ (zW Try.prog O) (reg Try.f44 9) (reg Try.f44 9).toList ([P,N,V,W,X,Y,Z,Q,R,U,b,a,f,g,i,k,l,m,n,o,c,d,p,q,r,s,t,u,w,x,y,z,A,B,C,D,E,F,G,H,I,J,K,L,M]) S =
  ( some ([P,N,V,W,Value.slice none 0 0,Value.slice none 0 0,Value.int IntKind.i64 11,Q,R,U,b,a,f,g,i,k,l,m,n,o,c,d,p,q,r,s,t,u,w,x,y,z,A,B,C,D,E,F,G,H,I,J,K,L,M], S)) := by
 kernel_rfl
theorem zn.r10  : ji Try.prog ⟨false, false, false⟩ (zW Try.prog O) (reg Try.f44 10) (reg Try.f44 10).toList ([P,N,V,W,X,Y,Z,Q,R,U,b,a,f,g,i,k,l,m,n,o,c,d,p,q,r,s,t,u,w,x,y,z,A,B,C,D,E,F,G,H,I,J,K,L,M]) S =
  (zO (wL Try.prog false false 75 3 (dem U) S) (fun v2 S1 => zO (jW Try.prog BinOp.sub 3 v2 (Value.int IntKind.i64 1) S1) (fun v3 S2 => zO (jr Try.prog 56 1 [(0, v3)] S2) (fun v4 S3 => zO (jS Try.prog 56 56 R v4 S3) (fun v5 S4 => some ([P,N,V,W,X,Y,Z,Q,v5,U,b,a,f,g,i,k,l,m,n,o,c,d,p,q,r,s,t,u,w,x,y,z,A,B,C,dem R,dem U,v2,v3,v4,dem v5,J,K,L,M], S4)) ()) ()) ()) ()) := by
 kernel_rfl
theorem zn.r11  : ji Try.prog ⟨false, false, false⟩ (zW Try.prog O) (reg Try.f44 11) (reg Try.f44 11).toList ([P,N,V,W,X,Y,Z,Q,R,U,b,a,f,g,i,k,l,m,n,o,c,d,p,q,r,s,t,u,w,x,y,z,A,B,C,D,E,F,G,H,I,J,K,L,M]) S =
  ( some ([P,N,V,W,X,Y,Z,b,R,U,dem b,a,f,g,i,k,l,m,n,o,c,d,p,q,r,s,t,u,w,x,y,z,A,B,C,D,E,F,G,H,I,dem b,K,L,M], S)) := by
 kernel_rfl
theorem zn.r12  : ji Try.prog ⟨false, false, false⟩ (zW Try.prog O) (reg Try.f44 12) (reg Try.f44 12).toList ([P,N,V,W,X,Y,Z,Q,R,U,b,a,f,g,i,k,l,m,n,o,c,d,p,q,r,s,t,u,w,x,y,z,A,B,C,D,E,F,G,H,I,J,K,L,M]) S =
  (zO (jW Try.prog BinOp.add 3 d (Value.int IntKind.i64 1) S) (fun v0 S1 => some ([P,N,V,W,X,Y,Z,Q,R,U,b,a,f,g,i,k,l,m,n,o,c,dem v0,p,q,r,s,t,u,w,x,y,z,A,B,C,D,E,F,G,H,I,J,v0,L,M], S1)) ()) := by
 kernel_rfl
theorem zn.r13  : ji Try.prog ⟨false, false, false⟩ (zW Try.prog O) (reg Try.f44 13) (reg Try.f44 13).toList ([P,N,V,W,X,Y,Z,Q,R,U,b,a,f,g,i,k,l,m,n,o,c,d,p,q,r,s,t,u,w,x,y,z,A,B,C,D,E,F,G,H,I,J,K,L,M]) S =
  ( some ([P,N,V,W,R,Q,Value.int IntKind.i64 0,dem Q,dem R,U,b,a,f,g,i,k,l,m,n,o,c,d,p,q,r,s,t,u,w,x,y,z,A,B,C,D,E,F,G,H,I,J,K,dem R,dem Q], S)) := by
 kernel_rfl
theorem zn.rs : type_of% (And.intro @zn.r0 (And.intro @zn.r1 (And.intro @zn.r2 (And.intro @zn.r3 (And.intro @zn.r4 (And.intro @zn.r5 (And.intro @zn.r6 (And.intro @zn.r7 (And.intro @zn.r8 (And.intro @zn.r9 (And.intro @zn.r10 (And.intro @zn.r11 (And.intro @zn.r12 (@zn.r13)))))))))))))) := And.intro @zn.r0 (And.intro @zn.r1 (And.intro @zn.r2 (And.intro @zn.r3 (And.intro @zn.r4 (And.intro @zn.r5 (And.intro @zn.r6 (And.intro @zn.r7 (And.intro @zn.r8 (And.intro @zn.r9 (And.intro @zn.r10 (And.intro @zn.r11 (And.intro @zn.r12 (@zn.r13)))))))))))))
theorem zn.runs {P N : Value} {S S1 : zi} {e : AEx} {T : List Value} (h : zA Try.prog O false zn.code ([P,N,undef,undef,undef,undef,undef,undef,undef,undef,undef,undef,undef,undef,undef,undef,undef,undef,undef,undef,undef,undef,undef,undef,undef,undef,undef,undef,undef,undef,undef,undef,undef,undef,undef,undef,undef,undef,undef,undef,undef,undef,undef,undef,undef]) S = some (e, T, S1)) (he : e = .normal ∨ e = .ret)  (h0 : jw (T.getD 4 undef) = true) (h1 : jw (T.getD 5 undef) = true) (h2 : jw (T.getD 6 undef) = true) : zW Try.prog O 44 [P, N] S = some (Value.tuple #[T.getD 4 undef, T.getD 5 undef, T.getD 6 undef], S1) :=
 jJ rfl rfl Try.func44 (by decide) zn.body (by exact h) he ((yU ((show zJ Try.prog T S1 Try.f44.results.toList = zJ Try.prog T S1 [(ResultVar.tmp 4), (ResultVar.tmp 5), (ResultVar.tmp 6)] from by kernel_rfl).trans (by simp only [zJ])) (by kernel_rfl) (by simp only [List.all_cons, List.all_nil, h0, h1, h2, Bool.and_true])).trans rfl)
end Go.Proofs.Ytblpnklfimkfoaa
namespace Go.Proofs.Ytblpnklfimkfoaa
open Go.Abs
abbrev zB.id : FuncId := 32
noncomputable def zB.jk : Code := (Code.seq (Code.region 5 (reg Try.f32 5) false) (Code.seq (Code.cond (Operand.tmp 13) Code.skip (Code.exit 0)) (Code.seq (Code.block 1 (Code.seq (Code.region 6 (reg Try.f32 6) false) (Code.seq (Code.seq (Code.region 7 (reg Try.f32 7) false) (Code.cond (Operand.tmp 17) (Code.seq (Code.region 8 (reg Try.f32 8) false) Code.ret) Code.skip)) (Code.region 9 (reg Try.f32 9) false)))) (Code.region 10 (reg Try.f32 10) false))))
noncomputable def zB.code : Code := (Code.seq (Code.region 0 (reg Try.f32 0) false) (Code.seq (Code.seq (Code.region 1 (reg Try.f32 1) false) (Code.cond (Operand.tmp 9) (Code.seq (Code.region 2 (reg Try.f32 2) false) Code.ret) Code.skip)) (Code.seq (Code.region 3 (reg Try.f32 3) false) (Code.seq (Code.seq (Code.region 4 (reg Try.f32 4) false) (Code.block 0 (Code.loop zB.jk))) (Code.seq (Code.region 11 (reg Try.f32 11) false) Code.ret)))))
theorem zB.body : Try.f32.body = some zB.code := by kernel_rfl
theorem zB.eta {T : List Value} (h : T.length = 26) : T = [T.getD 0 undef,T.getD 1 undef,T.getD 2 undef,T.getD 3 undef,T.getD 4 undef,T.getD 5 undef,T.getD 6 undef,T.getD 7 undef,T.getD 8 undef,T.getD 9 undef,T.getD 10 undef,T.getD 11 undef,T.getD 12 undef,T.getD 13 undef,T.getD 14 undef,T.getD 15 undef,T.getD 16 undef,T.getD 17 undef,T.getD 18 undef,T.getD 19 undef,T.getD 20 undef,T.getD 21 undef,T.getD 22 undef,T.getD 23 undef,T.getD 24 undef,T.getD 25 undef] := (y7 T 26 h).trans (by kernel_rfl)
variable (s v A B u w t x y z b c a d f g i j k l m n o p q r : Value) (S : zi)
theorem zB.r0  : ji Try.prog ⟨false, false, false⟩ (zW Try.prog O) (reg Try.f32 0) (reg Try.f32 0).toList ([s,v,A,B,u,w,t,x,y,z,b,c,a,d,f,g,i,j,k,l,m,n,o,p,q,r]) S =
  ( some ([s,v,Value.slice none 0 0,Value.int IntKind.i64 0,u,w,t,x,y,z,b,c,a,d,f,g,i,j,k,l,m,n,o,p,q,r], S)) := by
 kernel_rfl
theorem zB.r1  : ji Try.prog ⟨false, false, false⟩ (zW Try.prog O) (reg Try.f32 1) (reg Try.f32 1).toList ([s,v,A,B,u,w,t,x,y,z,b,c,a,d,f,g,i,j,k,l,m,n,o,p,q,r]) S =
  (zO (qG Try.prog 56 (dem s) S) (fun D C => zO (jW Try.prog BinOp.gtr 3 D (Value.int IntKind.i64 64) C) (fun G F => some ([s,v,A,B,u,w,t,dem s,D,G,b,c,a,d,f,g,i,j,k,l,m,n,o,p,q,r], F)) ()) ()) := by
 kernel_rfl
theorem zB.r2  : ji Try.prog ⟨false, false, false⟩ (zW Try.prog O) (reg Try.f32 2) (reg Try.f32 2).toList ([s,v,A,B,u,w,t,x,y,z,b,c,a,d,f,g,i,j,k,l,m,n,o,p,q,r]) S =
  ( some ([s,v,Value.slice none 0 0,Value.int IntKind.i64 11,u,w,t,x,y,z,b,c,a,d,f,g,i,j,k,l,m,n,o,p,q,r], S)) := by
 kernel_rfl
theorem zB.r3  : ji Try.prog ⟨false, false, false⟩ (zW Try.prog O) (reg Try.f32 3) (reg Try.f32 3).toList ([s,v,A,B,u,w,t,x,y,z,b,c,a,d,f,g,i,j,k,l,m,n,o,p,q,r]) S =
  ( some ([s,v,A,B,Value.slice none 0 0,w,t,x,y,z,b,c,a,d,f,g,i,j,k,l,m,n,o,p,q,r], S)) := by
 kernel_rfl
theorem zB.r4  : ji Try.prog ⟨false, false, false⟩ (zW Try.prog O) (reg Try.f32 4) (reg Try.f32 4).toList ([s,v,A,B,u,w,t,x,y,z,b,c,a,d,f,g,i,j,k,l,m,n,o,p,q,r]) S =
  (zO (qG Try.prog 56 (dem s) S) (fun D C => some ([s,v,A,B,u,w,t,x,y,z,dem s,D,Value.int IntKind.i64 0,d,f,g,i,j,k,l,m,n,o,p,q,r], C)) ()) := by
 kernel_rfl
theorem zB.r5  : ji Try.prog ⟨false, false, false⟩ (zW Try.prog O) (reg Try.f32 5) (reg Try.f32 5).toList ([s,v,A,B,u,w,t,x,y,z,b,c,a,d,f,g,i,j,k,l,m,n,o,p,q,r]) S =
  (zO (jW Try.prog BinOp.lss 3 a c S) (fun E C => some ([s,v,A,B,u,w,t,x,y,z,b,c,a,E,f,g,i,j,k,l,m,n,o,p,q,r], C)) ()) := by
 kernel_rfl
theorem zB.r6  : ji Try.prog ⟨false, false, false⟩ (zW Try.prog O) (reg Try.f32 6) (reg Try.f32 6).toList ([s,v,A,B,u,w,t,x,y,z,b,c,a,d,f,g,i,j,k,l,m,n,o,p,q,r]) S =
  (zO (jh Try.prog 56 b a S) (fun E C => zO (jo Try.prog false 3 E C) (fun D F => some ([s,v,A,B,u,w,D,x,y,z,b,c,a,d,E,dem D,i,j,k,l,m,n,o,p,q,r], F)) ()) ()) := by
 kernel_rfl
theorem zB.r7  : ji Try.prog ⟨false, false, false⟩ (zW Try.prog O) (reg Try.f32 7) (reg Try.f32 7).toList ([s,v,A,B,u,w,t,x,y,z,b,c,a,d,f,g,i,j,k,l,m,n,o,p,q,r]) S =
  (zO (jW Try.prog BinOp.lss 3 (dem t) (Value.int IntKind.i64 (-1)) S) (fun D C => some ([s,v,A,B,u,w,t,x,y,z,b,c,a,d,f,g,dem t,D,k,l,m,n,o,p,q,r], C)) ()) := by
 kernel_rfl
theorem zB.r8  : ji Try.prog ⟨false, false, false⟩ (zW Try.prog O) (reg Try.f32 8) (reg Try.f32 8).toList ([s,v,A,B,u,w,t,x,y,z,b,c,a,d,f,g,i,j,k,l,m,n,o,p,q,r]) S =
  ( some ([s,v,Value.slice none 0 0,Value.int IntKind.i64 11,u,w,t,x,y,z,b,c,a,d,f,g,i,j,k,l,m,n,o,p,q,r], S)) := by
 kernel_rfl
theorem zB.r9  : ji Try.prog ⟨false, false, false⟩ (zW Try.prog O) (reg Try.f32 9) (reg Try.f32 9).toList ([s,v,A,B,u,w,t,x,y,z,b,c,a,d,f,g,i,j,k,l,m,n,o,p,q,r]) S =
  (zO (wL Try.prog false false 3 75 (dem t) S) (fun G C => zO (jW Try.prog BinOp.add 75 G (Value.int IntKind.u64 1) C) (fun H F => zO ((zW Try.prog O) 45 [(dem H)] F) (fun I K => zO (jS Try.prog 26 26 u I K) (fun J L => some ([s,v,A,B,J,w,t,x,y,z,b,c,a,d,f,g,i,j,dem u,dem t,G,H,I,dem J,q,r], L)) ()) ()) ()) ()) := by
 kernel_rfl
theorem zB.r10  : ji Try.prog ⟨false, false, false⟩ (zW Try.prog O) (reg Try.f32 10) (reg Try.f32 10).toList ([s,v,A,B,u,w,t,x,y,z,b,c,a,d,f,g,i,j,k,l,m,n,o,p,q,r]) S =
  (zO (jW Try.prog BinOp.add 3 a (Value.int IntKind.i64 1) S) (fun E C => some ([s,v,A,B,u,w,t,x,y,z,b,c,dem E,d,f,g,i,j,k,l,m,n,o,p,E,r], C)) ()) := by
 kernel_rfl
theorem zB.r11  : ji Try.prog ⟨false, false, false⟩ (zW Try.prog O) (reg Try.f32 11) (reg Try.f32 11).toList ([s,v,A,B,u,w,t,x,y,z,b,c,a,d,f,g,i,j,k,l,m,n,o,p,q,r]) S =
  ( some ([s,v,u,Value.int IntKind.i64 0,dem u,w,t,x,y,z,b,c,a,d,f,g,i,j,k,l,m,n,o,p,q,dem u], S)) := by
 kernel_rfl
theorem zB.rs : type_of% (And.intro @zB.r0 (And.intro @zB.r1 (And.intro @zB.r2 (And.intro @zB.r3 (And.intro @zB.r4 (And.intro @zB.r5 (And.intro @zB.r6 (And.intro @zB.r7 (And.intro @zB.r8 (And.intro @zB.r9 (And.intro @zB.r10 (@zB.r11)))))))))))) := And.intro @zB.r0 (And.intro @zB.r1 (And.intro @zB.r2 (And.intro @zB.r3 (And.intro @zB.r4 (And.intro @zB.r5 (And.intro @zB.r6 (And.intro @zB.r7 (And.intro @zB.r8 (And.intro @zB.r9 (And.intro @zB.r10 (@zB.r11)))))))))))
theorem zB.runs {s : Value} {S C : zi} {e : AEx} {T : List Value} (h : zA Try.prog O false zB.code ([s,undef,undef,undef,undef,undef,undef,undef,undef,undef,undef,undef,undef,undef,undef,undef,undef,undef,undef,undef,undef,undef,undef,undef,undef,undef]) S = some (e, T, C)) (he : e = .normal ∨ e = .ret)  (h0 : jw (T.getD 2 undef) = true) (h1 : jw (T.getD 3 undef) = true) : zW Try.prog O 32 [s] S = some (Value.tuple #[T.getD 2 undef, T.getD 3 undef], C) :=
 jJ rfl rfl Try.func32 (by decide) zB.body (by exact h) he ((yU ((show zJ Try.prog T C Try.f32.results.toList = zJ Try.prog T C [(ResultVar.tmp 2), (ResultVar.tmp 3)] from by kernel_rfl).trans (by simp only [zJ])) (by kernel_rfl) (by simp only [List.all_cons, List.all_nil, h0, h1, Bool.and_true])).trans rfl)
end Go.Proofs.Ytblpnklfimkfoaa
namespace Go.Proofs.Ytblpnklfimkfoaa
open Go.Abs
theorem af7 (x : Int) : sv 2 1 1 [.int .i64 x] = iz 2 [x] := rfl
theorem ae1 {k : Nat} {l : List Int} {x : Int} {S : zi} (h : Okl k l) (hk : k ≠ 1) (hl : l.length ≤ 17592186044000) : jS Try.prog 56 56 (iz k l) (iz 2 [x]) S = some (iz 2 (l ++ [x]), S) := by
 rw [abf h hk Okl.own (by simp; omega), if_neg (fun h => by have := h.2; simp at this)]
end Go.Proofs.Ytblpnklfimkfoaa
namespace Go.Abs
open Go.RowKit
theorem afo {b : Nat} {e : Ty} {α : Type} (f : α → List Value) (Q : α → Prop) (h : ∀ x, e.Good x → ∃ y, e.Z9 x = f y ∧ Q y) (hf : ∀ y, (f y).length = e.sz) (x : (Ty.slc b e).Val) (hg : (Ty.slc b e).Good x) :
  ∃ k l, Okl k l ∧ k ≠ 2 ∧ (Ty.slc b e).Z9 x = [vs f e.sz k l] ∧ l.length * b ≤ 140737488351232 ∧ ∀ y ∈ l, Q y := by
 match x, hg with
 | none, _ => exact ⟨0, [], Okl.none, by decide, rfl, by simp, fun y hy => by cases hy⟩
 | some xs, hg =>
  obtain ⟨h1, h2, h3⟩ := hg
  have key : ∀ xs : List e.Val, (∀ n ∈ xs, e.Good n) → ∃ l : List α, xs.flatMap e.Z9 = l.flatMap f ∧ l.length = xs.length ∧ ∀ y ∈ l, Q y := by
   intro xs
   induction xs with
   | nil => intro _; exact ⟨[], rfl, rfl, fun y hy => by cases hy⟩
   | cons n xs ih =>
    intro hn
    obtain ⟨y, hy, hq⟩ := h n (hn n (by simp))
    obtain ⟨l, k1, k2, k3⟩ := ih (fun m hm => hn m (by simp [hm]))
    refine ⟨y :: l, by rw [List.flatMap_cons, List.flatMap_cons, hy, k1], by simp [k2], fun z hz => ?_⟩
    rcases List.mem_cons.1 hz with rfl | hz
    ·
     exact hq
    ·
     exact k3 z hz
  obtain ⟨l, k1, k2, k3⟩ := key xs h3
  refine ⟨1, l, Okl.read, by decide, ?_, by rw [k2]; exact h1, k3⟩
  show [SL 1 e.sz (List.length xs) (List.flatMap e.Z9 xs)] = [_]
  unfold vs
  rw [sv1, k1, k2]
theorem ZM {cs xs : List Value} (h : cs.length = xs.length) : splice cs 0 xs = xs := by
 unfold splice
 rw [List.take_zero, List.nil_append, Nat.zero_add, ← h, List.drop_length, List.append_nil]
theorem afh {k e n : Nat} {cs : List Value} : (sv k e n cs).oneCell' = true := by unfold sv; split <;> rfl
theorem afu {α : Type} {f : α → List Value} {e k : Nat} {l : List α} : (vs f e k l).oneCell' = true := afh
theorem aeK {k : IntKind} {n : Int} : (Value.int k n).oneCell' = true := rfl
theorem abw {P : Program} {t : TypeId} {z xs : List Value} {x : Value} (S : zi) (hx : x.cells.toList = xs) (hs : qj P t = some z.length) (hl : xs.length = z.length) (h1 : xs.all (·.oneCell') = true) :
  ∃ S2, y9 P t (.pointer (some ⟨S.next, 0, none⟩)) x (S.push (.cells z (.own []) 0)) = some (undef, S2) ∧ S2.get S.next = some (.cells xs (.own []) 0) ∧ Ext S S2 ∧ S.next < S2.next := by
 have hg : (S.push (.cells z (.own []) 0)).get S.next = some (.cells z (.own []) 0) := by rw [zi.zY, if_pos rfl]
 refine ⟨_, qY hg hs (by rw [← Array.length_toList, hx, hl]) (by rw [hx]; exact h1) (by simp), ?_, (Ext.push S _).set (Nat.le_refl _) _, by simp [zi.kills]⟩
 rw [zi.jq, if_pos rfl, hx, ZM hl.symm]
theorem afx (x : Value) (S : zi) : ∃ S2, Y7 x S = some (.pointer (some ⟨S.next, 0, none⟩), S2) ∧ S2.get S.next = some (.cells x.cells.toList (.own []) 0) ∧ Ext S S2 ∧ S.next < S2.next :=
 ⟨_, rfl, by rw [zi.zY, if_pos rfl], Ext.push _ _, by simp⟩
end Go.Abs
namespace Go.Proofs.Ytblpnklfimkfoaa
open Go.Abs
structure Tb where
 k : Nat
 b : List UInt8
structure Tb.Ok (t : Tb) : Prop where
 okl : Okl t.k t.b
 ne : t.k ≠ 2
 le : t.b.length ≤ 140737488351232
end Go.Proofs.Ytblpnklfimkfoaa
namespace Go.Proofs.Ytblpnklfimkfoaa
open Go.Abs
def encs (l : List Int) : List UInt8 := l.flatMap fun n => enc (n + 1).toNat
def ac8 (k : Nat) (l : List Int) : Value := if 64 < l.length ∨ ∃ n ∈ l, n < -1 then .tuple #[.slice none 0 0, .int .i64 11] else .tuple #[by_ (if l = [] then k else 2) (encs l), .int .i64 0]
theorem XT {n : Int} (h : -1 ≤ n) (h2 : n < 9223372036854775808) : IntKind.u64.wrap (IntKind.u64.wrap n + 1) = ((n + 1).toNat : Int) := by
 simp [IntKind.wrap, IntKind.bits, IntKind.signed]
 omega
theorem Kt (a b : List Int) : encs (a ++ b) = encs a ++ encs b := by simp [encs]
theorem acR (n : Int) : encs [n] = enc (n + 1).toNat := by simp [encs]
theorem YL {l : List Int} (h : ∀ n ∈ l, n < 9223372036854775808) : (encs l).length ≤ l.length * 10 := by
 induction l with
 | nil => simp [encs]
 | cons n l ih =>
  have h1 := ih fun m hm => h m (by simp [hm])
  have h2 : (enc (n + 1).toNat).length ≤ 10 := xC (by have := h n (by simp); omega)
  simp only [encs, List.flatMap_cons, List.length_append, List.length_cons] at *
  omega
theorem zB.round {k : Nat} {l : List Int} (hv : Okl k l) (hk : k ≠ 2) (h64 : l.length ≤ 64) (hb : ∀ n ∈ l, n < 9223372036854775808) {S : zi} : ∀ (suf pre : List Int) {T : List Value} {r : St}, yF (zA Try.prog O false zB.jk) T S = r → T.length = 26 →
  T.getD 10 undef = iz k l → T.getD 11 undef = .int .i64 l.length → T.getD 12 undef = .int .i64 pre.length → T.getD 4 undef = by_ (if pre = [] then 0 else 2) (encs pre) → l = pre ++ suf →
  ∃ e T', r = some (e, T', S) ∧ if (∃ n ∈ suf, n < -1) then e = .ret ∧ T'.getD 2 undef = .slice none 0 0 ∧ T'.getD 3 undef = .int .i64 11 else e = .exit 0 ∧ T'.length = 26 ∧ T'.getD 4 undef = by_ (if l = [] then 0 else 2) (encs l) := by
 intro suf
 induction suf with
 | nil =>
  intro pre T r hL hT ha hb hc h4 hl
  have hTe := zB.eta hT
  rw [ha, hb, hc, h4] at hTe
  have hr : zA Try.prog O false zB.jk T S = zA Try.prog O false zB.jk T S := rfl
  have hd : ¬ (pre.length : Int) < (l.length : Int) := by rw [hl]; simp
  conv at hr =>
   rhs
   rw [hTe]
   simp only [zB.jk, zB.code, zB.rs, zSs, reduceIte, Nat.reduceEqDiff, Int.reduceEq, Int.reduceLT, Int.reduceLE, hd]
  refine ⟨_, _, hL.symm.trans (jC hr (by simp)), ?_⟩
  rw [if_neg (by simp)]
  simp only [List.append_nil] at hl
  subst hl
  exact ⟨rfl, rfl, rfl⟩
 | cons n suf ih =>
  intro pre T r hL hT ha hbb hc h4 hl
  have hTe := zB.eta hT
  rw [ha, hbb, hc, h4] at hTe
  have hr : zA Try.prog O false zB.jk T S = zA Try.prog O false zB.jk T S := rfl
  have hll : l.length = pre.length + (suf.length + 1) := by rw [hl]; simp
  have hlt : (pre.length : Int) < (l.length : Int) := by omega
  have e1 : ∀ S, jh Try.prog 56 (iz k l) (.int .i64 pre.length) S = some (EP [.int .i64 n], S) := fun S => by
   rw [aei hv (by omega) hlt]; rw [Qe hl]
  have hn := hb n (by rw [hl]; simp)
  by_cases h1 : n < -1
  ·
   conv at hr =>
    rhs
    rw [hTe]
    simp only [zB.jk, zB.code, zB.rs, zSs, reduceIte, Nat.reduceEqDiff, Int.reduceEq, Int.reduceLT, Int.reduceLE, hlt, e1, Zz, h1]
   refine ⟨_, _, hL.symm.trans (jC hr (by simp)), ?_⟩
   rw [if_pos ⟨n, by simp, h1⟩]
   exact ⟨rfl, rfl, rfl⟩
  ·
   have w1 := XT (n := n) (by omega) (by omega)
   have hpb : (encs pre).length ≤ pre.length * 10 := YL fun m hm => hb m (by rw [hl]; simp [hm])
   have hp10 : (enc (n + 1).toNat).length ≤ 10 := xC (by omega)
   have hpp := KJ (n + 1).toNat
   have g1 := fun S => jf.v (n + 1).toNat (by omega) S
   have e2 : ∀ S, jS Try.prog 26 26 (by_ (if pre = [] then 0 else 2) (encs pre)) (by_ 2 (enc (n + 1).toNat)) S = some (by_ 2 (encs (pre ++ [n])), S) := fun S => by
    have ok : Okl (if pre = [] then 0 else 2) (encs pre) := ⟨by split <;> omega, fun h => by split at h <;> first | (rename_i hp; subst hp; rfl) | omega⟩
    rw [xw ok (by split <;> omega) Okl.own (by omega), if_neg (fun h => by have := h.2; omega), Kt, acR]
   have wi : IntKind.i64.wrap ((pre.length : Int) + 1) = ((pre ++ [n]).length : Int) := by rw [wrap_i64 (by omega) (by omega)]; simp
   conv at hr =>
    rhs
    rw [hTe]
    simp only [zB.jk, zB.code, zB.rs, zSs, reduceIte, Nat.reduceEqDiff, Int.reduceEq, Int.reduceLT, Int.reduceLE, hlt, e1, Zz, h1, qm, w1, g1, e2, wi]
   obtain ⟨e, T', g1, g2⟩ := ih (pre ++ [n]) ((wZ hr).symm.trans hL) rfl rfl rfl rfl (by rw [if_neg (show ¬ pre ++ [n] = [] by simp)]; rfl) (by simp [hl])
   refine ⟨e, T', g1, ?_⟩
   by_cases h2 : ∃ m ∈ suf, m < -1
   ·
    rw [if_pos h2] at g2
    obtain ⟨m, hm, hm2⟩ := h2
    rw [if_pos ⟨m, by simp [hm], hm2⟩]
    exact g2
   ·
    rw [if_neg h2] at g2
    rw [if_neg (by rintro ⟨m, hm, hm2⟩; rcases List.mem_cons.1 hm with rfl | hm; exact h1 hm2; exact h2 ⟨m, hm, hm2⟩)]
    exact g2
theorem zB.v {k : Nat} {l : List Int} (hv : Okl k l) (hk : k ≠ 2) (hb : ∀ n ∈ l, n < 9223372036854775808) (S : zi) : zW Try.prog O zB.id [iz k l] S = some (ac8 0 l, S) := by
 obtain ⟨T, hTe⟩ : ∃ T, T = (iz k l :: undef :: undef :: undef :: undef :: undef :: undef :: undef :: undef :: undef :: undef :: undef :: undef :: undef :: undef :: undef :: undef :: undef :: undef :: undef :: undef :: undef :: undef :: undef :: undef :: undef :: []) := ⟨_, rfl⟩
 have hr : zA Try.prog O false zB.code T S = zA Try.prog O false zB.code T S := rfl
 unfold ac8
 by_cases h1 : 64 < l.length
 ·
  have d1 : (64 : Int) < (l.length : Int) := by omega
  conv at hr =>
   rhs
   rw [hTe]
   simp only [zB.code, zB.rs, zSs, reduceIte, Nat.reduceEqDiff, Int.reduceEq, Int.reduceLT, Int.reduceLE, if_neg hk, aaP hv, goInt, d1]
  rw [hTe] at hr
  rw [if_pos (.inl h1)]
  exact zB.runs hr (.inr rfl) (by simp only [List.getD_cons_succ, List.getD_cons_zero, zX, zT, zI, zN, zU]) (by simp only [List.getD_cons_succ, List.getD_cons_zero, zX, zT, zI, zN, zU])
 ·
  have d1 : ¬ (64 : Int) < (l.length : Int) := by omega
  conv at hr =>
   rhs
   rw [hTe]
   simp only [zB.code, zB.rs, zSs, reduceIte, Nat.reduceEqDiff, Int.reduceEq, Int.reduceLT, Int.reduceLE, if_neg hk, aaP hv, goInt, d1, ZW, afg]
  generalize hL : yF (zA Try.prog O false zB.jk) _ _ = r at hr
  obtain ⟨e, T', rfl, g⟩ := zB.round hv hk (by omega) hb l [] hL rfl rfl rfl rfl rfl rfl
  by_cases h2 : ∃ n ∈ l, n < -1
  ·
   rw [if_pos h2] at g
   obtain ⟨rfl, g2, g3⟩ := g
   conv at hr =>
    rhs
    simp only [zSs, reduceIte, Nat.reduceEqDiff, Int.reduceEq, Int.reduceLT, Int.reduceLE]
   rw [hTe] at hr
   rw [if_pos (.inr h2)]
   have hrun := zB.runs hr (.inr rfl) (by rw [g2]; rfl) (by rw [g3]; rfl)
   rw [g2, g3] at hrun
   exact hrun
  ·
   rw [if_neg h2] at g
   obtain ⟨rfl, g2, g3⟩ := g
   have hTe' := zB.eta g2
   rw [g3] at hTe'
   conv at hr =>
    rhs
    rw [hTe']
    simp only [zB.code, zB.rs, zSs, reduceIte, Nat.reduceEqDiff, Int.reduceEq, Int.reduceLT, Int.reduceLE]
   rw [hTe] at hr
   rw [if_neg (by rintro (h | h); exact h1 h; exact h2 h)]
   exact zB.runs hr (.inr rfl) (by simp only [List.getD_cons_succ, List.getD_cons_zero, zX, zT, zI, zN, zU]) (by simp only [List.getD_cons_succ, List.getD_cons_zero, zX, zT, zI, zN, zU])
end Go.Proofs.Ytblpnklfimkfoaa
namespace Go.Proofs.Ytblpnklfimkfoaa
open Go.Abs
def yI : Nat → List UInt8 → Option (List Int × List UInt8)
 | 0, l => some ([], l)
 | m + 1, l => match scan 0 0 l with
  | some (n, r) => if n ≤ 4611686018427387905 then (match yI m r with
   | some (a, b) => some (((n : Int) - 1) :: a, b)
   | none => none) else none
  | none => none
def J3 (k0 k1 : Nat) (many : Int) (l : List UInt8) : Value :=
 if many < 0 ∨ 64 < many then .tuple #[.slice none 0 0, .slice none 0 0, .int .i64 11]
 else match yI many.toNat l with
  | some (a, b) => .tuple #[iz (if many = 0 then k0 else 2) a, by_ (if many = 0 then k1 else 2) b, .int .i64 0]
  | none => .tuple #[.slice none 0 0, .slice none 0 0, .int .i64 11]
theorem zn.round {many : Int} (hmany : many ≤ 64) {S : zi} : ∀ (m : Nat) (i : Int) (rest : List UInt8) (kr : Nat) (out : List Int) (ko : Nat) {T : List Value} {r : St}, yF (zA Try.prog O false zn.jk) T S = r → T.length = 45 →
  T.getD 20 undef = .int .i64 many → T.getD 21 undef = .int .i64 i → T.getD 7 undef = by_ kr rest → T.getD 8 undef = iz ko out → 0 ≤ i → many = i + m → Okl kr rest → rest.length ≤ 140737488355328 → Okl ko out → ko ≠ 1 → (out.length : Int) = i →
  ∃ e T', r = some (e, T', S) ∧ match yI m rest with
   | none => e = .ret ∧ T'.getD 4 undef = .slice none 0 0 ∧ T'.getD 5 undef = .slice none 0 0 ∧ T'.getD 6 undef = .int .i64 11
   | some (a, b) => e = .exit 0 ∧ T'.length = 45 ∧ T'.getD 8 undef = iz (if m = 0 then ko else 2) (out ++ a) ∧ T'.getD 7 undef = by_ (if m = 0 then kr else 2) b := by
 intro m
 induction m with
 | zero =>
  intro i rest kr out ko T r hL hT h1 h2 h3 h4 h0 hm hkr hlen hko hk1 hol
  have hTe := zn.eta hT
  rw [h1, h2, h3, h4] at hTe
  have hr : zA Try.prog O false zn.jk T S = zA Try.prog O false zn.jk T S := rfl
  have hd : ¬ i < many := by omega
  conv at hr =>
   rhs
   rw [hTe]
   simp only [zn.jk, zn.code, zn.rs, zSs, reduceIte, Nat.reduceEqDiff, Int.reduceEq, Int.reduceLT, Int.reduceLE, hd]
  exact ⟨_, _, hL.symm.trans (jC hr (by simp)), rfl, rfl, by simp, rfl⟩
 | succ m ih =>
  intro i rest kr out ko T r hL hT h1 h2 h3 h4 h0 hm hkr hlen hko hk1 hol
  have hTe := zn.eta hT
  rw [h1, h2, h3, h4] at hTe
  have hr : zA Try.prog O false zn.jk T S = zA Try.prog O false zn.jk T S := rfl
  have hd : i < many := by omega
  have g1 : ∀ S, zW Try.prog O zu.id [by_ (if kr = 2 then 1 else kr) rest] S = some (Vp rest, S) := zu.v hkr.dem (by split <;> omega) hlen
  unfold Vp at g1
  rw [yI]
  cases hsc : scan 0 0 rest with
  | none =>
   rw [hsc] at g1
   have d11 : ¬ (11 : Int) = 0 := by omega
   conv at hr =>
    rhs
    rw [hTe]
    simp only [zn.jk, zn.code, zn.rs, zSs, reduceIte, Nat.reduceEqDiff, Int.reduceEq, Int.reduceLT, Int.reduceLE, afW, hd, g1, d11]
   exact ⟨_, _, hL.symm.trans (jC hr (by simp)), rfl, rfl, rfl, rfl⟩
  | some nr =>
   obtain ⟨n, r'⟩ := nr
   rw [hsc] at g1
   obtain ⟨hn, hrl⟩ := KU rest 0 0 (by decide) (by omega) n r' hsc
   dsimp only
   by_cases h5 : n ≤ 4611686018427387905
   ·
    have d1 : ¬ (4611686018427387905 : Int) < (n : Int) := by omega
    have w1 : IntKind.i64.wrap (n : Int) = (n : Int) := wrap_i64 (by omega) (by omega)
    have w2 : IntKind.i64.wrap ((n : Int) - 1) = (n : Int) - 1 := wrap_i64 (by omega) (by omega)
    have w3 : IntKind.i64.wrap (i + 1) = i + 1 := wrap_i64 (by omega) (by omega)
    have e1 : ∀ x S, jS Try.prog 56 56 (iz ko out) (iz 2 [x]) S = some (iz 2 (out ++ [x]), S) := fun x S => ae1 hko hk1 (by omega)
    conv at hr =>
     rhs
     rw [hTe]
     simp only [zn.jk, zn.code, zn.rs, zSs, reduceIte, Nat.reduceEqDiff, Int.reduceEq, Int.reduceLT, Int.reduceLE, afW, hd, g1, d1, Yv, w1, w2, w3, Vj, af7, e1]
    obtain ⟨e, T', g2, g3⟩ := ih (i + 1) r' 2 (out ++ [(n : Int) - 1]) 2 ((wZ hr).symm.trans hL) rfl rfl rfl rfl rfl (by omega) (by omega) Okl.own (by omega) Okl.own (by decide) (by simp; omega)
    refine ⟨e, T', g2, ?_⟩
    rw [if_pos h5]
    cases hrn : yI m r' with
    | none => rw [hrn] at g3; exact g3
    | some ab =>
     obtain ⟨a, b⟩ := ab
     rw [hrn] at g3
     obtain ⟨q1, q2, q3, q4⟩ := g3
     refine ⟨q1, q2, ?_, ?_⟩
     ·
      rw [q3]; simp
     ·
      rw [q4]; simp
   ·
    have d1 : (4611686018427387905 : Int) < (n : Int) := by omega
    conv at hr =>
     rhs
     rw [hTe]
     simp only [zn.jk, zn.code, zn.rs, zSs, reduceIte, Nat.reduceEqDiff, Int.reduceEq, Int.reduceLT, Int.reduceLE, afW, hd, g1, d1]
    refine ⟨_, _, hL.symm.trans (jC hr (by simp)), ?_⟩
    rw [if_neg h5]
    exact ⟨rfl, rfl, rfl, rfl⟩
theorem zn.v {k : Nat} {l : List UInt8} {many : Int} (hv : Okl k l) (hk : k ≠ 2) (hlen : l.length ≤ 140737488355328) (S : zi) : zW Try.prog O zn.id [by_ k l, .int .i64 many] S = some (J3 0 (if k = 0 then 0 else 2) many l, S) := by
 obtain ⟨T, hTe⟩ : ∃ T, T = (by_ k l :: .int .i64 many :: undef :: undef :: undef :: undef :: undef :: undef :: undef :: undef :: undef :: undef :: undef :: undef :: undef :: undef :: undef :: undef :: undef :: undef :: undef :: undef :: undef :: undef :: undef :: undef :: undef :: undef :: undef :: undef :: undef :: undef :: undef :: undef :: undef :: undef :: undef :: undef :: undef :: undef :: undef :: undef :: undef :: undef :: undef :: []) := ⟨_, rfl⟩
 have hr : zA Try.prog O false zn.code T S = zA Try.prog O false zn.code T S := rfl
 have c1 : ∀ S, zW Try.prog O 43 [by_ k l] S = some (by_ (if k = 0 then 0 else 2) l, S) := slices_Clone.v hv hk hlen
 unfold J3
 by_cases h1 : many < 0
 ·
  conv at hr =>
   rhs
   rw [hTe]
   simp only [zn.code, zn.rs, zSs, reduceIte, Nat.reduceEqDiff, Int.reduceEq, Int.reduceLT, Int.reduceLE, h1]
  rw [hTe] at hr
  rw [if_pos (.inl h1)]
  exact zn.runs hr (.inr rfl) (by simp only [List.getD_cons_succ, List.getD_cons_zero, zX, zT, zI, zN, zU]) (by simp only [List.getD_cons_succ, List.getD_cons_zero, zX, zT, zI, zN, zU]) (by simp only [List.getD_cons_succ, List.getD_cons_zero, zX, zT, zI, zN, zU])
 ·
  by_cases h2 : 64 < many
  ·
   conv at hr =>
    rhs
    rw [hTe]
    simp only [zn.code, zn.rs, zSs, reduceIte, Nat.reduceEqDiff, Int.reduceEq, Int.reduceLT, Int.reduceLE, h1, h2]
   rw [hTe] at hr
   rw [if_pos (.inr h2)]
   exact zn.runs hr (.inr rfl) (by simp only [List.getD_cons_succ, List.getD_cons_zero, zX, zT, zI, zN, zU]) (by simp only [List.getD_cons_succ, List.getD_cons_zero, zX, zT, zI, zN, zU]) (by simp only [List.getD_cons_succ, List.getD_cons_zero, zX, zT, zI, zN, zU])
  ·
   rw [if_neg (by omega)]
   conv at hr =>
    rhs
    rw [hTe]
    simp only [zn.code, zn.rs, zSs, reduceIte, Nat.reduceEqDiff, Int.reduceEq, Int.reduceLT, Int.reduceLE, h1, h2, if_neg hk, c1]
   generalize hL : yF (zA Try.prog O false zn.jk) _ _ = r at hr
   have okr : Okl (if k = 0 then 0 else 2) l := ⟨by split <;> omega, fun h => by split at h <;> first | (rename_i hp; exact hv.nil hp) | omega⟩
   obtain ⟨e, T', rfl, g⟩ := zn.round (many := many) (by omega) many.toNat 0 l (if k = 0 then 0 else 2) [] 0 hL rfl rfl rfl rfl rfl (by omega) (by omega) okr hlen Okl.none (by decide) rfl
   cases hrn : yI many.toNat l with
   | none =>
    rw [hrn] at g
    obtain ⟨rfl, g2, g3, g4⟩ := g
    conv at hr =>
     rhs
     simp only [zSs, reduceIte, Nat.reduceEqDiff, Int.reduceEq, Int.reduceLT, Int.reduceLE]
    rw [hTe] at hr
    have hrun := zn.runs hr (.inr rfl) (by rw [g2]; rfl) (by rw [g3]; rfl) (by rw [g4]; rfl)
    rw [g2, g3, g4] at hrun
    exact hrun
   | some ab =>
    obtain ⟨a, b⟩ := ab
    rw [hrn] at g
    obtain ⟨rfl, g2, g3, g4⟩ := g
    have hTe' := zn.eta g2
    rw [g3, g4] at hTe'
    have hz : (many.toNat = 0) ↔ (many = 0) := by omega
    simp only [hz, List.nil_append] at hTe'
    conv at hr =>
     rhs
     rw [hTe']
     simp only [zn.code, zn.rs, zSs, reduceIte, Nat.reduceEqDiff, Int.reduceEq, Int.reduceLT, Int.reduceLE]
    rw [hTe] at hr
    exact zn.runs hr (.inr rfl) (by simp only [List.getD_cons_succ, List.getD_cons_zero, zX, zT, zI, zN, zU]) (by simp only [List.getD_cons_succ, List.getD_cons_zero, zX, zT, zI, zN, zU]) (by simp only [List.getD_cons_succ, List.getD_cons_zero, zX, zT, zI, zN, zU])
end Go.Proofs.Ytblpnklfimkfoaa
namespace Go.Proofs.Ytblpnklfimkfoaa
open Go.Abs
def Few (n : Int) : Prop := -1 ≤ n ∧ n ≤ 4611686018427387904
theorem ZI : ∀ (m : Nat) (l : List UInt8) (a : List Int) (b : List UInt8), yI m l = some (a, b) ↔ a.length = m ∧ l = encs a ++ b ∧ ∀ n ∈ a, Few n := by
 intro m
 induction m with
 | zero =>
  intro l a b
  constructor
  ·
   intro h; cases h; exact ⟨rfl, rfl, fun n h => by cases h⟩
  ·
   rintro ⟨h1, h2, _⟩
   have : a = [] := List.length_eq_zero_iff.mp h1
   subst this
   rw [h2]; rfl
 | succ m ih =>
  intro l a b
  rw [yI]
  constructor
  ·
   intro h
   cases hsc : scan 0 0 l with
   | none => rw [hsc] at h; cases h
   | some nr =>
    obtain ⟨n, r⟩ := nr
    rw [hsc] at h
    dsimp only at h
    split at h
    ·
     rename_i hn
     cases hr : yI m r with
     | none => rw [hr] at h; cases h
     | some ab =>
      obtain ⟨a', b'⟩ := ab
      rw [hr] at h
      obtain ⟨h1, h2, h3⟩ := (ih r a' b').mp hr
      cases h
      obtain ⟨f1, f2⟩ := QS hsc
      refine ⟨by simp [h1], ?_, fun x hx => ?_⟩
      ·
       rw [f1, h2]
       have : ((n : Int) - 1 + 1).toNat = n := by omega
       simp [encs, this]
      ·
       rcases List.mem_cons.1 hx with rfl | hx
       ·
        unfold Few; omega
       ·
        exact h3 x hx
    ·
     cases h
  ·
   rintro ⟨h1, h2, h3⟩
   cases a with
   | nil => simp at h1
   | cons x a =>
    have hx : Few x := h3 x (by simp)
    unfold Few at hx
    have he : encs (x :: a) ++ b = enc (x + 1).toNat ++ (encs a ++ b) := by simp [encs]
    rw [h2, he, Xu (by omega)]
    dsimp only
    rw [if_pos (by omega), (ih (encs a ++ b) a b).mpr ⟨by simpa using h1, rfl, fun n hn => h3 n (by simp [hn])⟩]
    have : ((x + 1).toNat : Int) - 1 = x := by omega
    simp only [this]
theorem Vb {m : Nat} {l : List UInt8} {a : List Int} {b : List UInt8} (h : yI m l = some (a, b)) : a.length = m ∧ b.length ≤ l.length := by
 obtain ⟨h1, h2, _⟩ := (ZI m l a b).mp h
 exact ⟨h1, by rw [h2]; simp⟩
theorem acQ {k : Nat} {l : List Int} (h : l.length ≤ 64) (h1 : ∀ n ∈ l, -1 ≤ n) (h0 : l ≠ []) : ac8 k l = .tuple #[by_ 2 (encs l), .int .i64 0] := by
 unfold ac8
 rw [if_neg (by rintro (h2 | ⟨n, h2, h3⟩); { omega }; { have := h1 n h2; omega }), if_neg h0]
theorem Q8 {k0 k1 m : Nat} {l : List UInt8} (h0 : 0 < m) (h : m ≤ 64) : J3 k0 k1 m l = match yI m l with
  | some (a, b) => .tuple #[iz 2 a, by_ 2 b, .int .i64 0]
  | none => .tuple #[.slice none 0 0, .slice none 0 0, .int .i64 11] := by
 unfold J3
 rw [if_neg (by omega), Int.toNat_natCast]
 have : (m : Int) ≠ 0 := by omega
 simp only [if_neg this]
 all_goals (cases yI m l <;> rfl)
end Go.Proofs.Ytblpnklfimkfoaa
namespace Go.Abs
open Go.RowKit
def gv (x b : Bool) (v : Value) : Value := if x = b then v else undef
theorem adI (x b : Bool) (v : Value) : dem (gv x b v) = gv x b (dem v) := by
 unfold gv; split
 ·
  rfl
 ·
  exact JA
theorem Jh {R : Type} {K : Value → zi → Option R} {p : Zp K} {m : M Value} {S : zi} (x b : Bool) : gdK (.bool x) b m S K p = if x = b then zO (m S) K p else K undef S := by
 cases x <;> cases b <;> rfl
section
variable {R : Type} {K : Value → zi → Option R} {p : Zp K} {S : zi} {x b c y z : Bool} {m m' : M Value} {P : Program} {O : Ora} {t : TypeId} {v w u : Value}
theorem jP (h : x = b → m S = m' S) : gdK (.bool x) b m S K p = gdK (.bool x) b m' S K p := by
 rw [Jh, Jh]
 split
 ·
  rename_i hx; rw [h hx]
 ·
  rfl
theorem wz (h : m S = some (v, S)) : gdK (.bool x) b m S K p = K (gv x b v) S := by
 rw [Jh]
 unfold gv
 split
 ·
  rw [h]; rfl
 ·
  rfl
theorem xu (h : x = b) : gv x b v = v := if_pos h
theorem abb {fx : Bool} : gdK (.bool x) b (jo P fx t (gv x b v)) S K p = gdK (.bool x) b (jo P fx t v) S K p := jP fun h => by rw [xu h]
theorem ZQ {f : Nat} : gdK (.bool x) b (zK P t (gv x b v) f) S K p = gdK (.bool x) b (zK P t v f) S K p := jP fun h => by rw [xu h]
theorem JC : gdK (.bool x) b (jF (gv x b v)) S K p = gdK (.bool x) b (jF v) S K p := jP fun h => by rw [xu h]
theorem adG : gdK (.bool x) b (qG P t (gv x b v)) S K p = gdK (.bool x) b (qG P t v) S K p := jP fun h => by rw [xu h]
theorem vZ : gdK (.bool x) b (jh P t (gv x b v) w) S K p = gdK (.bool x) b (jh P t v w) S K p := jP fun h => by rw [xu h]
theorem Zf : gdK (.bool x) b (jh P t v (gv x b w)) S K p = gdK (.bool x) b (jh P t v w) S K p := jP fun h => by rw [xu h]
theorem afv {op : UnOp} : gdK (.bool x) b (aUn P op (gv x b v)) S K p = gdK (.bool x) b (aUn P op v) S K p := jP fun h => by rw [xu h]
theorem aak {hp dr : Bool} {t2 : TypeId} : gdK (.bool x) b (wL P hp dr t t2 (gv x b v)) S K p = gdK (.bool x) b (wL P hp dr t t2 v) S K p := jP fun h => by rw [xu h]
theorem aaA {op : BinOp} : gdK (.bool x) b (jW P op t (gv x b v) w) S K p = gdK (.bool x) b (jW P op t v w) S K p := jP fun h => by rw [xu h]
theorem aah {op : BinOp} : gdK (.bool x) b (jW P op t v (gv x b w)) S K p = gdK (.bool x) b (jW P op t v w) S K p := jP fun h => by rw [xu h]
theorem Xk {g : FuncId} {l : List Value} : gdK (.bool x) b (zW P O g (gv x b v :: l)) S K p = gdK (.bool x) b (zW P O g (v :: l)) S K p := jP fun h => by rw [xu h]
theorem Xq {g : FuncId} {l : List Value} : gdK (.bool x) b (zW P O g (u :: gv x b v :: l)) S K p = gdK (.bool x) b (zW P O g (u :: v :: l)) S K p := jP fun h => by rw [xu h]
theorem Y9 {g : FuncId} {l : List Value} : gdK (.bool x) b (aci (zW P O) g (gv x b v :: l)) S K p = gdK (.bool x) b (aci (zW P O) g (v :: l)) S K p := jP fun h => by rw [xu h]
theorem Qm {g : FuncId} {l : List Value} : gdK (.bool x) b (aci (zW P O) g (u :: gv x b v :: l)) S K p = gdK (.bool x) b (aci (zW P O) g (u :: v :: l)) S K p := jP fun h => by rw [xu h]
theorem adh : gdK (.bool x) b (ret v) S K p = K (gv x b v) S := wz rfl
theorem afN : gv x b (gv x b v) = gv x b v := by unfold gv; split <;> rfl
theorem XD : gdK (gv x c (.bool y)) b m S K p = gdK (.bool ((x == c) && (y == b))) true m S K p := by
 unfold gv
 cases x <;> cases c <;> cases y <;> cases b <;> rfl
theorem aaT {fx : Bool} : gdK (.bool ((x == c) && (y == b))) true (jo P fx t (gv x c v)) S K p = gdK (.bool ((x == c) && (y == b))) true (jo P fx t v) S K p := jP fun h => by rw [xu (by simp at h; exact h.1)]
theorem aan {op : BinOp} : gdK (.bool ((x == c) && (y == b))) true (jW P op t (gv x c v) w) S K p = gdK (.bool ((x == c) && (y == b))) true (jW P op t v w) S K p := jP fun h => by rw [xu (by simp at h; exact h.1)]
theorem VG {op : BinOp} : gdK (.bool ((x == c) && (y == b))) true (jW P op t v (gv x c w)) S K p = gdK (.bool ((x == c) && (y == b))) true (jW P op t v w) S K p := jP fun h => by rw [xu (by simp at h; exact h.1)]
theorem adA : gdK (.bool x) c (qI (gv x c (.bool y)) (.bool true) (gv ((x == c) && (y == false)) true (.bool z))) S K p = K (gv x c (.bool (y || z))) S := by
 unfold gv
 cases x <;> cases c <;> cases y <;> cases z <;> rfl
theorem VQ : gdK (.bool x) c (qI (gv x c (.bool y)) (gv ((x == c) && (y == true)) true (.bool z)) (.bool false)) S K p = K (gv x c (.bool (y && z))) S := by
 unfold gv
 cases x <;> cases c <;> cases y <;> cases z <;> rfl
theorem afr : (if x = true then Value.bool true else gv x false (.bool y)) = .bool (x || y) := by cases x <;> rfl
theorem adO : (if x = true then gv x true (.bool y) else Value.bool false) = .bool (x && y) := by cases x <;> rfl
theorem afe : gv true true v = v := rfl
theorem afD : gv false false v = v := rfl
theorem afI : gv true false v = undef := rfl
theorem aft : gv false true v = undef := rfl
theorem ad2 {k : IntKind} {a d : Int} : gdK (.bool x) b (jW P .lss t (.int k a) (.int k d)) S K p = K (gv x b (.bool (decide (a < d)))) S := wz (Yt k a d)
theorem adu {k : IntKind} {a d : Int} : gdK (.bool x) b (jW P .leq t (.int k a) (.int k d)) S K p = K (gv x b (.bool (decide (a ≤ d)))) S := wz (YM k a d)
theorem adg {k : IntKind} {a d : Int} : gdK (.bool x) b (jW P .gtr t (.int k a) (.int k d)) S K p = K (gv x b (.bool (decide (d < a)))) S := wz (Yx k a d)
theorem adL {k : IntKind} {a d : Int} : gdK (.bool x) b (jW P .geq t (.int k a) (.int k d)) S K p = K (gv x b (.bool (decide (d ≤ a)))) S := wz (Yn k a d)
theorem adH {k : IntKind} {a d : Int} : gdK (.bool x) b (jW P .eql t (.int k a) (.int k d)) S K p = K (gv x b (.bool (decide (a = d)))) S := wz (YP k a d)
theorem adN {k : IntKind} {a d : Int} : gdK (.bool x) b (jW P .neq t (.int k a) (.int k d)) S K p = K (gv x b (.bool (!decide (a = d)))) S := wz (YB k a d)
theorem adz {k : IntKind} {a d : Int} : gdK (.bool x) b (jW P .add t (.int k a) (.int k d)) S K p = K (gv x b (.int k (k.wrap (a + d)))) S := wz (Y0 k a d)
theorem adn {k : IntKind} {a d : Int} : gdK (.bool x) b (jW P .sub t (.int k a) (.int k d)) S K p = K (gv x b (.int k (k.wrap (a - d)))) S := wz (Yw k a d)
theorem adi : gdK (.bool x) b (aUn P .not (.bool y)) S K p = K (gv x b (.bool (!y))) S := wz (by cases y <;> rfl)
end
theorem gvw : type_of% (And.intro @adI (And.intro @abb (And.intro @ZQ (And.intro @JC (And.intro @adG (And.intro @vZ (And.intro @Zf (And.intro @afv (And.intro @aak (And.intro @aaA (And.intro @aah (And.intro @Xk (And.intro @Xq (And.intro @Y9 (And.intro @Qm (And.intro @adh (And.intro @afN (And.intro @XD (And.intro @aaT (And.intro @aan (And.intro @VG (And.intro @adA (And.intro @VQ (And.intro @afr (And.intro @adO (And.intro @afe (And.intro @afD (And.intro @afI (And.intro @aft (And.intro @ad2 (And.intro @adu (And.intro @adg (And.intro @adL (And.intro @adH (And.intro @adN (And.intro @adz (And.intro @adn @adi))))))))))))))))))))))))))))))))))))) :=
 And.intro @adI (And.intro @abb (And.intro @ZQ (And.intro @JC (And.intro @adG (And.intro @vZ (And.intro @Zf (And.intro @afv (And.intro @aak (And.intro @aaA (And.intro @aah (And.intro @Xk (And.intro @Xq (And.intro @Y9 (And.intro @Qm (And.intro @adh (And.intro @afN (And.intro @XD (And.intro @aaT (And.intro @aan (And.intro @VG (And.intro @adA (And.intro @VQ (And.intro @afr (And.intro @adO (And.intro @afe (And.intro @afD (And.intro @afI (And.intro @aft (And.intro @ad2 (And.intro @adu (And.intro @adg (And.intro @adL (And.intro @adH (And.intro @adN (And.intro @adz (And.intro @adn @adi))))))))))))))))))))))))))))))))))))
end Go.Abs
namespace Go.Proofs.Ytblpnklfimkfoaa
open Go.Abs
structure wJ where
 kind : Int
 index : Int
 view : Int
 value : Int
 k : Nat
 txt : List UInt8
def fR (r : wJ) : List Value := [.int .i64 r.kind, .int .i64 r.index, .int .i64 r.view, .int .i64 r.value, by_ r.k r.txt]
abbrev rv (r : wJ) : Value := .agg [Value.int .i64 r.kind, .int .i64 r.index, .int .i64 r.view, .int .i64 r.value, by_ r.k r.txt].toArray
def Big (n : Int) : Prop := -9223372036854775808 ≤ n ∧ n < 9223372036854775808
structure wJ.Ok (r : wJ) : Prop where
 okl : Okl r.k r.txt
 ne : r.k ≠ 2
 len : r.txt.length ≤ 140737488351232
 kind : Big r.kind
 index : Big r.index
 view : Big r.view
 value : Big r.value
abbrev rz : wJ := ⟨0, 0, 0, 0, 0, []⟩
theorem afy : rz.Ok := by
 have z : Big 0 := ⟨by omega, by omega⟩
 exact ⟨Okl.none, by decide, by simp, z, z, z, z⟩
theorem aaU (r : wJ) : (fR r).length = 5 := rfl
theorem Zj {r : wJ} {d : Nat} (h : r.k ≤ 2) : jv (d + 6) (rv r) = true := by
 have h1 : jv (d + 5) (by_ r.k r.txt) = true := Je (d := d + 1) h fun _ _ => rfl
 refine abM ?_
 simp only [List.all_cons, List.all_nil, h1, Bool.and_true]
 rfl
theorem aeN (r : wJ) : (fR r).all (·.oneCell') = true := by
 simp only [fR, List.all_cons, List.all_nil, aeK, afu, Bool.and_true]
theorem adf (r : wJ) : okq 3 (rv r) = true := by
 have h : okq 2 (by_ r.k r.txt) = true := by unfold by_ vs sv; split <;> rfl
 simp only [okq, List.toList_toArray, List.all_cons, List.all_nil, h, Bool.and_true]
section
variable {S : zi} {q e : Nat} {m : wJ} {own : Own}
theorem acC (h : S.get q = some (.cells (fR m) own e)) : jo Try.prog false 3 (.pointer (some ⟨q, 0 + 0, none⟩)) S = some (.int .i64 m.kind, S) := xK (t := 3) (o := 0 + 0) h KN rfl
theorem acs (h : S.get q = some (.cells (fR m) own e)) : jo Try.prog false 3 (.pointer (some ⟨q, 0 + 1, none⟩)) S = some (.int .i64 m.index, S) := xK (t := 3) (o := 0 + 1) h KN rfl
theorem ab5 (h : S.get q = some (.cells (fR m) own e)) : jo Try.prog false 3 (.pointer (some ⟨q, 0 + 2, none⟩)) S = some (.int .i64 m.view, S) := xK (t := 3) (o := 0 + 2) h KN rfl
theorem ab7 (h : S.get q = some (.cells (fR m) own e)) : jo Try.prog false 3 (.pointer (some ⟨q, 0 + 3, none⟩)) S = some (.int .i64 m.value, S) := xK (t := 3) (o := 0 + 3) h KN rfl
theorem acy (h : S.get q = some (.cells (fR m) own e)) (hk : m.k ≠ 2) : jo Try.prog false 26 (.pointer (some ⟨q, 0 + 4, none⟩)) S = some (by_ m.k m.txt, S) := by
 rw [Yu (o := 0 + 4) (v := by_ m.k m.txt) h yM rfl (fun l h => by unfold by_ vs sv at h; split at h <;> cases h), aaQ, if_neg hk]
theorem Qo (h : S.get q = some (.cells (fR m) own e)) (hk : m.k ≠ 2) : jo Try.prog false 28 (.pointer (some ⟨q, 0, none⟩)) S = some (rv m, S) := by
 rw [X0 h]
 simp only [acF, aeI, if_neg hk]
end
abbrev aeh (m : wJ) : zi := zi.empty.push (.cells (fR m) (.own []) 0)
theorem afY (m : wJ) : Y7 (rv m) zi.empty = some (.pointer (some ⟨0, 0, none⟩), aeh m) := rfl
theorem Y1 (m : wJ) : (aeh m).get 0 = some (.cells (fR m) (.own []) 0) := rfl
abbrev Xe (a b : wJ) : zi := (aeh a).push (.cells (fR b) (.own []) 0)
theorem agh (a b : wJ) : Y7 (rv b) (aeh a) = some (.pointer (some ⟨1, 0, none⟩), Xe a b) := by kernel_rfl
theorem abJ (a b : wJ) : (Xe a b).get 0 = some (.cells (fR a) (.own []) 0) := by kernel_rfl
theorem aaR (a b : wJ) : (Xe a b).get 1 = some (.cells (fR b) (.own []) 0) := by kernel_rfl
theorem ad3 (S : zi) : qM Try.prog 28 S = some (.pointer (some ⟨S.next, 0, none⟩), S.push (.cells (fR rz) (.own []) 0)) := by kernel_rfl
abbrev adr (S : zi) (q : Nat) (x : wJ) : zi := (S.kills []).set q (.cells (fR x) (.own []) 0)
theorem Ze (S : zi) (q : Nat) (x : wJ) : (adr S q x).get q = some (.cells (fR x) (.own []) 0) := by rw [zi.jq, if_pos rfl]
theorem aap {S : zi} {q k : Nat} {x : wJ} (h : k ≠ q) : (adr S q x).get k = S.get k := by rw [zi.jq, if_neg h]; rfl
theorem afi {S : zi} {q : Nat} {x : wJ} (h : S.get q = some (.cells (fR x) (.own []) 0)) (y : wJ) : y9 Try.prog 28 (.pointer (some ⟨q, 0, none⟩)) (rv y) S = some (undef, adr S q y) := by
 rw [qY (x := rv y) (n := 5) h qF (by rw [kY]; rfl) (by rw [kY, List.toList_toArray]; exact aeN y) (by simp [fR]), kY, List.toList_toArray]; rfl
theorem aaB (m : wJ) (S : zi) : ∃ S2, y9 Try.prog 28 (.pointer (some ⟨S.next, 0, none⟩)) (rv m) (S.push (.cells (fR rz) (.own []) 0)) = some (undef, S2) ∧ S2.get S.next = some (.cells (fR m) (.own []) 0) ∧ Ext S S2 ∧ S.next < S2.next :=
 abw S (by rw [kY]; rfl) qF rfl (aeN m)
theorem aeR (m : wJ) (S : zi) : ∃ S2, Y7 (rv m) S = some (.pointer (some ⟨S.next, 0, none⟩), S2) ∧ S2.get S.next = some (.cells (fR m) (.own []) 0) ∧ Ext S S2 ∧ S.next < S2.next := afx (rv m) S
def adE (n : Int) : Bool := decide (-1 ≤ n) && decide (n ≤ 1073741824)
def vX (r : wJ) : List Int := [r.kind, r.index, r.view, r.value]
def jU (r : wJ) : Bool := (vX r).all adE && decide ((r.txt.length : Int) ≤ 1024)
theorem Z7 {n : Int} : adE n = true ↔ -1 ≤ n ∧ n ≤ 1073741824 := by simp [adE]
theorem kD {r : wJ} (h : jU r = true) : (∀ n ∈ vX r, -1 ≤ n ∧ n ≤ 1073741824) ∧ r.txt.length ≤ 1024 := by
 unfold jU at h
 rw [Bool.and_eq_true, List.all_eq_true, decide_eq_true_eq] at h
 exact ⟨fun n hn => Z7.1 (h.1 n hn), by omega⟩
theorem bs4 (a b c d : Int) (S : zi) : jr Try.prog 56 4 [(0, .int .i64 a), (1, .int .i64 b), (2, .int .i64 c), (3, .int .i64 d)] S = some (iz 2 [a, b, c, d], S) := by kernel_rfl
theorem zq.round {k : Nat} {l : List Int} (hk : Okl k l) (hl : l.length = 4) {S : zi} : ∀ (suf pre : List Int) {T : List Value} {r : St}, yF (zA Try.prog O false zq.jk) T S = r → T.length = 30 →
  T.getD 13 undef = iz k l → T.getD 14 undef = .int .i64 4 → T.getD 15 undef = .int .i64 pre.length → l = pre ++ suf →
  ∃ e T', r = some (e, T', S) ∧ if suf.all adE then e = .exit 0 ∧ T'.length = 30 ∧ T'.getD 1 undef = T.getD 1 undef else e = .ret ∧ T'.getD 2 undef = .bool false := by
 intro suf
 induction suf with
 | nil =>
  intro pre T r hL hT h13 h14 h15 hpre
  have hTe := zq.eta hT
  rw [h13, h14, h15] at hTe
  have hr : zA Try.prog O false zq.jk T S = zA Try.prog O false zq.jk T S := rfl
  have d1 : ¬ (pre.length : Int) < 4 := by rw [hpre] at hl; simp at hl; omega
  conv at hr =>
   rhs
   rw [hTe]
   simp only [zq.jk, zq.code, zq.rs, zSs, reduceIte, Nat.reduceEqDiff, Int.reduceEq, Int.reduceLT, Int.reduceLE, d1]
  exact ⟨_, _, hL.symm.trans (jC hr (by simp)), rfl, rfl, rfl⟩
 | cons x suf ih =>
  intro pre T r hL hT h13 h14 h15 hpre
  have hTe := zq.eta hT
  rw [h13, h14, h15] at hTe
  have hr : zA Try.prog O false zq.jk T S = zA Try.prog O false zq.jk T S := rfl
  have d1 : (pre.length : Int) < 4 := by rw [hpre] at hl; simp at hl; omega
  have e1 : ∀ S, jh Try.prog 56 (iz k l) (.int .i64 pre.length) S = some (EP [.int .i64 x], S) := fun S => by
   rw [aei hk (by omega) (by omega)]; rw [Qe hpre]
  have wi : IntKind.i64.wrap ((pre.length : Int) + 1) = ((pre ++ [x]).length : Int) := by rw [wrap_i64 (by omega) (by omega)]; simp
  rw [List.all_cons]
  by_cases h1 : x < -1
  ·
   have hx : adE x = false := by rw [Bool.eq_false_iff]; intro h; have := Z7.1 h; omega
   rw [hx, Bool.false_and]
   conv at hr =>
    rhs
    rw [hTe]
    simp only [zq.jk, zq.code, zq.rs, zSs, reduceIte, Nat.reduceEqDiff, Int.reduceEq, Int.reduceLT, Int.reduceLE, d1, e1, Zz, decide_eq_true h1]
   exact ⟨_, _, hL.symm.trans (jC hr (by simp)), rfl, rfl⟩
  ·
   by_cases h2 : 1073741824 < x
   ·
    have hx : adE x = false := by rw [Bool.eq_false_iff]; intro h; have := Z7.1 h; omega
    rw [hx, Bool.false_and]
    conv at hr =>
     rhs
     rw [hTe]
     simp only [zq.jk, zq.code, zq.rs, zSs, reduceIte, Nat.reduceEqDiff, Int.reduceEq, Int.reduceLT, Int.reduceLE, d1, e1, Zz, decide_eq_false h1, decide_eq_true h2]
    exact ⟨_, _, hL.symm.trans (jC hr (by simp)), rfl, rfl⟩
   ·
    have hx : adE x = true := Z7.2 (by omega)
    rw [hx, Bool.true_and]
    conv at hr =>
     rhs
     rw [hTe]
     simp only [zq.jk, zq.code, zq.rs, zSs, reduceIte, Nat.reduceEqDiff, Int.reduceEq, Int.reduceLT, Int.reduceLE, d1, e1, Zz, decide_eq_false h1, decide_eq_false h2, wi]
    obtain ⟨e, T', g1, g2⟩ := ih (pre ++ [x]) ((wZ hr).symm.trans hL) rfl rfl rfl rfl (by simp [hpre])
    exact ⟨e, T', g1, g2⟩
theorem zq.v {r : wJ} (hr0 : r.Ok) (S : zi) : zW Try.prog O zq.id [rv r] S = some (.bool (jU r), S) := by
 obtain ⟨T, hTe⟩ : ∃ T, T = (rv r :: undef :: undef :: undef :: undef :: undef :: undef :: undef :: undef :: undef :: undef :: undef :: undef :: undef :: undef :: undef :: undef :: undef :: undef :: undef :: undef :: undef :: undef :: undef :: undef :: undef :: undef :: undef :: undef :: undef :: []) := ⟨_, rfl⟩
 have hr : zA Try.prog O false zq.code T zi.empty = zA Try.prog O false zq.code T zi.empty := rfl
 have g0 := Y1 r
 have hc : [rv r].all (jv 16) = true := all1 (Zj hr0.okl.le)
 have ln : ∀ S, qG Try.prog 56 (iz 2 [r.kind, r.index, r.view, r.value]) S = some (.int .i64 4, S) := fun S => aaP Okl.own
 conv at hr =>
  rhs
  rw [hTe]
  simp only [zq.code, zq.rs, zSs, reduceIte, Nat.reduceEqDiff, Int.reduceEq, Int.reduceLT, Int.reduceLE, afY, kW, kX, xE, kV, acC g0, acs g0, ab5 g0, ab7 g0, bs4, ln]
 generalize hL : yF (zA Try.prog O false zq.jk) _ _ = w at hr
 obtain ⟨e, T', rfl, g⟩ := zq.round (Okl.own (l := [r.kind, r.index, r.view, r.value])) rfl [r.kind, r.index, r.view, r.value] [] hL rfl rfl rfl rfl rfl
 unfold jU vX
 cases h : [r.kind, r.index, r.view, r.value].all adE with
 | true =>
  rw [h] at g
  obtain ⟨rfl, g2, g3⟩ := g
  have g3 : T'.getD 1 undef = .pointer (some ⟨0, 0, none⟩) := g3
  have hTe' := zq.eta g2
  rw [g3] at hTe'
  have lt : ∀ S, qG Try.prog 26 (by_ r.k r.txt) S = some (.int .i64 r.txt.length, S) := fun S => qK hr0.okl
  conv at hr =>
   rhs
   rw [hTe']
   simp only [zq.code, zq.rs, zSs, reduceIte, Nat.reduceEqDiff, Int.reduceEq, Int.reduceLT, Int.reduceLE, kZ, acy g0 hr0.ne, lt]
  rw [hTe] at hr
  rw [Bool.true_and]
  exact zq.runs hr (.inr rfl) hc rfl
 | false =>
  rw [h] at g
  obtain ⟨rfl, g2⟩ := g
  conv at hr =>
   rhs
   simp only [zSs, reduceIte, Nat.reduceEqDiff, Int.reduceEq, Int.reduceLT, Int.reduceLE]
  rw [hTe] at hr
  have hrun := zq.runs (S := S) hr (.inr rfl) hc (by rw [g2]; rfl)
  rw [g2] at hrun
  rw [Bool.false_and]
  exact hrun
def Jk (r : wJ) : List UInt8 := encs (vX r) ++ Y6 r.txt
def qc (r : wJ) : List UInt8 := Y6 (Jk r)
def aeP (r : wJ) : Value := if jU r then .tuple #[by_ 2 (qc r), .int .i64 0] else .tuple #[.slice none 0 0, .int .i64 51]
theorem YC {l : List UInt8} (h : l.length ≤ 1000000000) : (Y6 l).length ≤ l.length + 10 := by
 unfold Y6
 have := xC (n := l.length) (by omega)
 rw [List.length_append]; omega
theorem ZK {r : wJ} (h : jU r = true) : (Jk r).length ≤ 1100 := by
 obtain ⟨h1, h2⟩ := kD h
 have e1 : (encs (vX r)).length ≤ 40 := YL (l := vX r) (fun n hn => by have := h1 n hn; omega)
 have e2 := YC (l := r.txt) (by omega)
 unfold Jk
 rw [List.length_append]; omega
theorem acu {r : wJ} (h : jU r = true) : (qc r).length ≤ 1200 := by
 have := ZK h
 have := YC (l := Jk r) (by omega)
 unfold qc; omega
theorem Zu (r : wJ) : 0 < (qc r).length := by
 unfold qc Y6
 have := KJ (Jk r).length
 rw [List.length_append]; omega
theorem zC.w {r : wJ} (hr0 : r.Ok) (hR : jU r = true) : (∀ S, zW Try.prog O 32 [iz 1 [r.kind, r.index, r.view, r.value]] S = some (.tuple #[by_ 2 (encs (vX r)), .int .i64 0], S)) ∧ (∀ S, zW Try.prog O 33 [by_ r.k r.txt] S = some (.tuple #[by_ 2 (Y6 r.txt), .int .i64 0], S)) ∧
  (∀ S, zW Try.prog O 33 [by_ 1 (Jk r)] S = some (.tuple #[by_ 2 (qc r), .int .i64 0], S)) ∧ (∀ S, jS Try.prog 26 26 (by_ 2 (encs (vX r))) (by_ 1 (Y6 r.txt)) S = some (by_ 2 (Jk r), S)) := by
 obtain ⟨few, hl⟩ := kD hR
 have hi := ZK hR
 have el := YC (l := r.txt) (by omega)
 refine ⟨fun S => ?_, fun S => ?_, fun S => ?_, fun S => ?_⟩
 ·
  rw [zB.v (l := [r.kind, r.index, r.view, r.value]) Okl.read (by decide) (fun n hn => by have := few n hn; omega) S, acQ (l := [r.kind, r.index, r.view, r.value]) (by simp) (fun n hn => (few n hn).1) (by simp)]; rfl
 ·
  rw [jA.v hr0.okl hr0.ne S, acr, if_neg (by omega)]
 ·
  rw [jA.v (l := Jk r) Okl.read (by decide) S, acr, if_neg (by omega)]; rfl
 ·
  have e1 : (encs (vX r)).length ≤ 40 := YL (l := vX r) (fun n hn => by have := few n hn; omega)
  rw [xw Okl.own (by decide) Okl.read (by omega), if_neg (by omega)]; rfl
theorem zC.v {r : wJ} (hr0 : r.Ok) (S : zi) : zW Try.prog O zC.id [rv r] S = some (aeP r, S) := by
 obtain ⟨T, hTe⟩ : ∃ T, T = (rv r :: undef :: undef :: undef :: undef :: undef :: undef :: undef :: undef :: undef :: undef :: undef :: undef :: undef :: undef :: undef :: undef :: undef :: undef :: undef :: undef :: undef :: undef :: undef :: undef :: undef :: undef :: undef :: undef :: undef :: undef :: undef :: undef :: undef :: undef :: undef :: undef :: undef :: undef :: undef :: undef :: undef :: []) := ⟨_, rfl⟩
 have hr : zA Try.prog O false zC.code T zi.empty = zA Try.prog O false zC.code T zi.empty := rfl
 have g0 := Y1 r
 have hc : [rv r].all (jv 16) = true := all1 (Zj hr0.okl.le)
 have c0 := fun S => zq.v hr0 S
 unfold aeP
 cases hR : jU r
 ·
  rw [hR] at c0
  conv at hr =>
   rhs
   rw [hTe]
   simp only [zC.code, zC.rs, zSs, reduceIte, Nat.reduceEqDiff, Int.reduceEq, Int.reduceLT, Int.reduceLE, afY, Qo g0 hr0.ne, c0]
  rw [hTe] at hr
  exact zC.runs hr (.inr rfl) rfl rfl hc rfl
 ·
  rw [hR] at c0
  obtain ⟨w1, w2, w3, w4⟩ := zC.w hr0 hR
  conv at hr =>
   rhs
   rw [hTe]
   simp only [zC.code, zC.rs, zSs, reduceIte, Nat.reduceEqDiff, Int.reduceEq, Int.reduceLT, Int.reduceLE, afY, Qo g0 hr0.ne, c0, kW, kX, xE, kV, kZ, acC g0, acs g0, ab5 g0, ab7 g0, acy g0 hr0.ne, if_neg hr0.ne, bs4, w1, w2, w3, w4]
  rw [hTe] at hr
  exact zC.runs hr (.inr rfl) (by simp only [List.getD_cons_succ, List.getD_cons_zero, zX, zT, zI, zN, zU]) rfl hc (vO (all2 (Yo (k := 2) (Nat.le_refl 2)) rfl))
end Go.Proofs.Ytblpnklfimkfoaa
namespace Go.Proofs.Ytblpnklfimkfoaa
open Go.Abs
theorem XL {k : Nat} {l : List Int} {i : Int} {x : Int} {m : Nat} (h : Okl k l) (hi : i = (m : Int)) (hx : l[m]? = some x) (S : zi) : jh Try.prog 56 (iz k l) (.int .i64 i) S = some (EP [.int .i64 x], S) := by
 obtain ⟨h1, h2⟩ := List.getElem?_eq_some_iff.mp hx
 subst hi
 rw [aei h (by omega) (by omega)]
 simp [← h2]
theorem aex (l : List UInt8) : yI 4 l = none ∨ ∃ a b c d r, yI 4 l = some ([a, b, c, d], r) ∧ r.length ≤ l.length := by
 cases h : yI 4 l with
 | none => exact .inl rfl
 | some ar =>
  obtain ⟨a, r⟩ := ar
  obtain ⟨h1, h2⟩ := Vb h
  match a, h1 with
  | [x, y, z, w], _ => exact .inr ⟨x, y, z, w, r, rfl, h2⟩
theorem Zb {x : wJ} (hx : jU x = true) (s : List UInt8) : yI 4 (Jk x ++ s) = some (vX x, Y6 x.txt ++ s) := by
 obtain ⟨f1, _⟩ := kD hx
 exact (ZI _ _ _ _).mpr ⟨rfl, by rw [Jk, List.append_assoc], fun n hn => by have := f1 n hn; unfold Few; omega⟩
def xX (x y : wJ) : Prop := x.kind = y.kind ∧ x.index = y.index ∧ x.view = y.view ∧ x.value = y.value ∧ x.txt = y.txt
theorem xX.refl (x : wJ) : xX x x := ⟨rfl, rfl, rfl, rfl, rfl⟩
theorem xX.symm {x y : wJ} (h : xX x y) : xX y x := ⟨h.1.symm, h.2.1.symm, h.2.2.1.symm, h.2.2.2.1.symm, h.2.2.2.2.symm⟩
theorem xX.trans {x y z : wJ} (h : xX x y) (k : xX y z) : xX x z := ⟨h.1.trans k.1, h.2.1.trans k.2.1, h.2.2.1.trans k.2.2.1, h.2.2.2.1.trans k.2.2.2.1, h.2.2.2.2.trans k.2.2.2.2⟩
theorem xX.like {x y : wJ} (h : xX x y) : jU x = jU y ∧ Jk x = Jk y ∧ qc x = qc y := by
 obtain ⟨h1, h2, h3, h4, h5⟩ := h
 simp only [jU, qc, Jk, vX, h1, h2, h3, h4, h5, and_self]
theorem Xh {x y : wJ} {s t : List UInt8} (hx : jU x = true) (hy : jU y = true) (h : qc x ++ s = qc y ++ t) : xX x y ∧ s = t := by
 have ix := ZK hx; have iy := ZK hy
 have e1 := yE (l := Jk x) (r := s) (by omega)
 have e2 := yE (l := Jk y) (r := t) (by omega)
 have h : Y6 (Jk x) ++ s = Y6 (Jk y) ++ t := h
 rw [h, e2] at e1
 simp only [Option.some.injEq, Prod.mk.injEq] at e1
 obtain ⟨e3, e4⟩ := e1
 have f1 := Zb hx []
 have f2 := Zb hy []
 rw [List.append_nil, List.append_nil] at f1 f2
 rw [← e3, f2] at f1
 simp only [Option.some.injEq, Prod.mk.injEq, vX, List.cons.injEq, and_true] at f1
 obtain ⟨⟨a1, a2, a3, a4⟩, a5⟩ := f1
 have t1 := yE (l := x.txt) (r := []) (by have := (kD hx).2; omega)
 have t2 := yE (l := y.txt) (r := []) (by have := (kD hy).2; omega)
 rw [List.append_nil] at t1 t2
 rw [← a5, t2] at t1
 simp only [Option.some.injEq, Prod.mk.injEq, and_true] at t1
 exact ⟨⟨a1.symm, a2.symm, a3.symm, a4.symm, t1.symm⟩, e4.symm⟩
def YA (l : List UInt8) (r : wJ) (ok : Bool) : Prop := r.Ok ∧ ((ok = true ∧ jU r = true ∧ l = Jk r) ∨ (ok = false ∧ ∀ x, jU x = true → l ≠ Jk x))
theorem Yl {n : Int} (h : Few n) : Big n := by unfold Few at h; unfold Big; omega
theorem ab1 {l : List UInt8} (h : yI 4 l = none) : YA l rz false := ⟨afy, .inr ⟨rfl, fun x hx hl => by
 have := Zb hx []
 rw [List.append_nil, ← hl, h] at this; cases this⟩⟩
theorem abu {l s : List UInt8} {a b c d : Int} (h : yI 4 l = some ([a, b, c, d], s)) (h2 : Wj s = none) : YA l rz false := ⟨afy, .inr ⟨rfl, fun x hx hl => by
 have := Zb hx []
 rw [List.append_nil, ← hl, h] at this
 simp only [Option.some.injEq, Prod.mk.injEq] at this
 have t := yE (l := x.txt) (r := []) (by have := (kD hx).2; omega)
 rw [← this.2, h2] at t; cases t⟩⟩
theorem acP {l s t u : List UInt8} {a b c d : Int} (hl : l.length ≤ 140737488351232) (h : yI 4 l = some ([a, b, c, d], s)) (h2 : Wj s = some (t, u)) : YA l ⟨a, b, c, d, 1, t⟩ (decide ((u.length : Int) = 0) && jU ⟨a, b, c, d, 1, t⟩) := by
 obtain ⟨_, g2, few⟩ := (ZI _ _ _ _).mp h
 obtain ⟨f1, f2⟩ := Ws h2
 refine ⟨⟨Okl.read, by show (1 : Nat) ≠ 2; decide, by show t.length ≤ _; omega, Yl (few _ (by simp)), Yl (few _ (by simp)), Yl (few _ (by simp)), Yl (few _ (by simp))⟩, ?_⟩
 cases hR : (decide ((u.length : Int) = 0) && jU ⟨a, b, c, d, 1, t⟩)
 ·
  refine .inr ⟨rfl, fun x hx hl => ?_⟩
  have := Zb hx []
  rw [List.append_nil, ← hl, h] at this
  simp only [Option.some.injEq, Prod.mk.injEq, vX, List.cons.injEq, and_true] at this
  obtain ⟨⟨i1, i2, i3, i4⟩, i5⟩ := this
  have t2 := yE (l := x.txt) (r := []) (by have := (kD hx).2; omega)
  rw [← i5, h2] at t2
  simp only [Option.some.injEq, Prod.mk.injEq] at t2
  have hs : xX ⟨a, b, c, d, 1, t⟩ x := ⟨i1, i2, i3, i4, t2.1⟩
  rw [hs.like.1, hx, t2.2] at hR
  simp at hR
 ·
  rw [Bool.and_eq_true, decide_eq_true_eq] at hR
  refine .inl ⟨rfl, hR.2, ?_⟩
  have hu : u = [] := List.length_eq_zero_iff.1 (by omega)
  rw [g2, f1, hu, List.append_nil]
  rfl
theorem zx.v {k : Nat} {l : List UInt8} (hk : Okl k l) (k2 : k ≠ 2) (hl : l.length ≤ 140737488351232) : ∃ r ok, YA l r ok ∧ ∀ S, zW Try.prog O zx.id [by_ k l] S = some (.tuple #[rv r, .bool ok], S) := by
 have a1 : qM Try.prog 28 zi.empty = some (.pointer (some ⟨0, 0, none⟩), aeh rz) := ad3 zi.empty
 have g1 := Y1 rz
 have ne0 : (0 : Nat) ≠ 2 := by decide
 have cl : [by_ k l].all (jv 16) = true := all1 (Yo (k := k) hk.le)
 obtain ⟨T, hTe⟩ : ∃ T, T = (by_ k l :: undef :: undef :: undef :: undef :: undef :: undef :: undef :: undef :: undef :: undef :: undef :: undef :: undef :: undef :: undef :: undef :: undef :: undef :: undef :: undef :: undef :: undef :: undef :: undef :: undef :: undef :: undef :: undef :: undef :: undef :: undef :: undef :: undef :: undef :: undef :: undef :: undef :: undef :: undef :: undef :: undef :: undef :: undef :: undef :: undef :: undef :: undef :: undef :: undef :: undef :: undef :: undef :: []) := ⟨_, rfl⟩
 have hr : zA Try.prog O false zx.code T zi.empty = zA Try.prog O false zx.code T zi.empty := rfl
 have c1 := fun S => zn.v (many := 4) hk k2 (by omega) S
 have r1 : ∀ k0 k1, J3 k0 k1 4 l = _ := fun k0 k1 => Q8 (m := 4) (by decide) (by decide)
 rw [r1] at c1
 have z0 : ∀ S, yD Try.prog 28 [] S = some (rv rz, S) := fun S => X4 S
 rcases aex l with h | ⟨a, b, c, d, s, h, hlr⟩
 ·
  rw [h] at c1
  have s1 := afi g1 rz
  refine ⟨rz, false, ab1 h, fun S => ?_⟩
  conv at hr =>
   rhs
   rw [hTe]
   simp only [zx.code, zx.rs, zSs, reduceIte, Nat.reduceEqDiff, Int.reduceEq, Int.reduceLT, Int.reduceLE, if_neg k2, a1, c1, z0, s1]
  rw [hTe] at hr
  exact zx.runs hr (.inr rfl) (Qo (Ze _ 0 rz) ne0) rfl rfl cl rfl
 ·
  rw [h] at c1
  have c2 := fun S => zG.v (k := 1) (l := s) Okl.read (by decide) (by omega) S
  unfold XC at c2
  have a2 : qM Try.prog 28 (aeh rz) = some (.pointer (some ⟨1, 0, none⟩), Xe rz rz) := ad3 (aeh rz)
  have s1 := afi (aaR rz rz) rz
  have g2 := Ze (Xe rz rz) 1 rz
  have g3 : (adr (Xe rz rz) 1 rz).get 0 = some (.cells (fR rz) (.own []) 0) := (aap (by decide)).trans (abJ rz rz)
  generalize adr (Xe rz rz) 1 rz = A2 at s1 g2 g3
  cases ht : Wj s with
  | none =>
   rw [ht] at c2
   have s3 := afi g3 rz
   refine ⟨rz, false, abu h ht, fun S => ?_⟩
   conv at hr =>
    rhs
    rw [hTe]
    simp only [zx.code, zx.rs, zSs, reduceIte, Nat.reduceEqDiff, Int.reduceEq, Int.reduceLT, Int.reduceLE, if_neg k2, a1, c1, c2, z0, a2, s1, Qo g2 ne0, adx (adf _), JV g2, s3]
   rw [hTe] at hr
   exact zx.runs hr (.inr rfl) (Qo (Ze _ 0 rz) ne0) rfl rfl cl rfl
  | some tu =>
   obtain ⟨t, u⟩ := tu
   rw [ht] at c2
   have i0 := fun S => XL (k := 1) (i := 0) (m := 0) (l := [a, b, c, d]) Okl.read rfl rfl S
   have i1 := fun S => XL (k := 1) (i := 1) (m := 1) (l := [a, b, c, d]) Okl.read rfl rfl S
   have i2 := fun S => XL (k := 1) (i := 2) (m := 2) (l := [a, b, c, d]) Okl.read rfl rfl S
   have i3 := fun S => XL (k := 1) (i := 3) (m := 3) (l := [a, b, c, d]) Okl.read rfl rfl S
   have hP := acP hl h ht
   have ne1 : (1 : Nat) ≠ 2 := by decide
   have bd := fun S => xY (y0 := .int .i64 a) (y1 := .int .i64 b) (y2 := .int .i64 c) (y3 := .int .i64 d) (y4 := by_ 1 t) vY vY vY vY ac0 S
   have s2 : y9 Try.prog 28 (.pointer (some ⟨1, 0, none⟩)) (.agg [Value.int .i64 a, .int .i64 b, .int .i64 c, .int .i64 d, by_ 1 t].toArray) A2 = some (undef, adr A2 1 ⟨a, b, c, d, 1, t⟩) := afi g2 ⟨a, b, c, d, 1, t⟩
   have q1 := Ze A2 1 ⟨a, b, c, d, 1, t⟩
   have q0 : (adr A2 1 ⟨a, b, c, d, 1, t⟩).get 0 = some (.cells (fR rz) (.own []) 0) := (aap (by decide)).trans g3
   generalize adr A2 1 ⟨a, b, c, d, 1, t⟩ = A3 at s2 q1 q0
   have s3 := afi q0 ⟨a, b, c, d, 1, t⟩
   have c3 := fun S => zq.v hP.1 S
   have lu : ∀ S, qG Try.prog 26 (by_ 1 u) S = some (.int .i64 u.length, S) := fun S => qK Okl.read
   refine ⟨_, _, hP, fun S => ?_⟩
   conv at hr =>
    rhs
    rw [hTe]
    simp only [zx.code, zx.rs, zSs, reduceIte, Nat.reduceEqDiff, Int.reduceEq, Int.reduceLT, Int.reduceLE, if_neg k2, a1, c1, c2, z0, a2, s1, i0, i1, i2, i3, Zz, bd, s2, Qo q1 ne1, adx (adf _), lu, wz (Qo q1 ne1), wz (c3 _), gvw, JV q1, s3]
   rw [hTe] at hr
   exact zx.runs hr (.inr rfl) (Qo (Ze A3 0 ⟨a, b, c, d, 1, t⟩) ne1) rfl rfl cl (vO (all2 (Zj hP.1.okl.le) rfl))
def Xp (l : List UInt8) (rs : List wJ) (n : Nat) : Prop := (∀ r ∈ rs, r.Ok ∧ jU r = true) ∧ n = (rs.flatMap qc).length ∧ ∃ rest, l = rs.flatMap qc ++ rest ∧ ∀ x t, jU x = true → rest ≠ qc x ++ t
inductive xg : List wJ → List wJ → Prop
 | nil : xg [] []
 | cons {x y : wJ} {l m : List wJ} (h : xX x y) (k : xg l m) : xg (x :: l) (y :: m)
abbrev rl (k : Nat) (l : List wJ) : Value := vs fR 5 k l
theorem KL (r : wJ) (S : zi) : jr Try.prog 22 1 [(0, rv r)] S = some (rl 2 [r], S) := by kernel_rfl
theorem abK {k : Nat} {l : List wJ} {r : wJ} {S : zi} (h : Okl k l) (hk : k ≠ 1) (hl : l.length ≤ 2000000000000) : jS Try.prog 22 22 (rl k l) (rl 2 [r]) S = some (rl 2 (l ++ [r]), S) := by
 rw [Jf qB qF aal rfl aaF (by omega) qB aaU aeN h hk Okl.own (by simp; omega) (by simp; omega), if_neg (fun h => by have := h.2; simp at this)]
end Go.Proofs.Ytblpnklfimkfoaa
namespace Go.Proofs.Ytblpnklfimkfoaa
open Go.Abs
theorem aeY {k : Nat} {l : List UInt8} {m : Int} {S : zi} (h : Okl k l) (h0 : 0 ≤ m) (h1 : m ≤ l.length) : yV Try.prog 26 (by_ k l) (some (.int .i64 m)) none S = some (by_ (if k = 2 then 1 else k) (l.drop m.toNat), S) := by
 rw [Jc h (i := m) (j := l.length) rfl rfl h0 h1 (by omega)]
 congr 2
 rw [List.take_of_length_le (by rw [List.length_drop]; omega)]
theorem XF : ∀ (rs : List wJ), rs.length ≤ (rs.flatMap qc).length
 | [] => by simp
 | r :: rs => by
  have := XF rs; have := Zu r
  rw [List.flatMap_cons, List.length_append, List.length_cons]; omega
theorem acS {k d : Nat} {l : List wJ} (h : k ≤ 2) (hl : ∀ r ∈ l, r.Ok) : jv (d + 12) (rl k l) = true := Je (d := d + 8) h fun r hr => by
 have h3 : jv (d + 8) (by_ r.k r.txt) = true := Je (d := d + 4) (hl r hr).okl.le fun _ _ => rfl
 simp only [fR, List.all_cons, List.all_nil, h3, Bool.and_true]
 rfl
section
variable {k : Nat} {l : List UInt8}
theorem zo.round (hk : Okl k l) (k2 : k ≠ 2) (hl : l.length ≤ 1000000000000) : ∀ (n : Nat) (suf : List UInt8) (out : List wJ) {T : List Value} {r : St} {S : zi}, yF (zA Try.prog O false zo.jk) T S = r → T.length = 43 → suf.length ≤ n →
  T.getD 0 undef = by_ k l → T.getD 4 undef = rl (if out = [] then 0 else 2) out → T.getD 5 undef = .int .i64 (out.flatMap qc).length → l = out.flatMap qc ++ suf → (∀ r ∈ out, r.Ok ∧ jU r = true) →
  ∃ T' S' rs m, r = some (.exit 0, T', S') ∧ T'.length = 43 ∧ T'.getD 4 undef = rl (if rs = [] then 0 else 2) rs ∧ T'.getD 5 undef = .int .i64 (m : Nat) ∧ Xp l rs m := by
 intro n
 induction n with
 | zero =>
  intro suf out T r S hL hT hn h0 h4 h5 hpre hout
  have hs : suf = [] := List.length_eq_zero_iff.1 (by omega)
  have hTe := zo.eta hT
  rw [h0, h4, h5] at hTe
  have hr : zA Try.prog O false zo.jk T S = zA Try.prog O false zo.jk T S := rfl
  have d1 : ¬ ((out.flatMap qc).length : Int) < (l.length : Int) := by rw [hpre, hs]; simp
  conv at hr =>
   rhs
   rw [hTe]
   simp only [zo.jk, zo.code, zo.rs, zSs, reduceIte, Nat.reduceEqDiff, Int.reduceEq, Int.reduceLT, Int.reduceLE, if_neg k2, qK hk, goInt, d1]
  refine ⟨_, _, out, _, hL.symm.trans (jC hr (by simp)), rfl, rfl, rfl, hout, rfl, [], by rw [hpre, hs], fun x t hx h => ?_⟩
  have := congrArg List.length h
  have := Zu x
  rw [List.length_append, List.length_nil] at *
  omega
 | succ n ih =>
  intro suf out T r S hL hT hn h0 h4 h5 hpre hout
  have hTe := zo.eta hT
  rw [h0, h4, h5] at hTe
  have hr : zA Try.prog O false zo.jk T S = zA Try.prog O false zo.jk T S := rfl
  have hll : l.length = (out.flatMap qc).length + suf.length := by rw [hpre, List.length_append]
  by_cases d1 : ((out.flatMap qc).length : Int) < (l.length : Int)
  ·
   have sl := fun S => aeY (S := S) hk (m := (out.flatMap qc).length) (by omega) (by omega)
   rw [Int.toNat_natCast, show l.drop (out.flatMap qc).length = suf by rw [hpre, List.drop_left], if_neg k2] at sl
   have hk0 : k = 1 := by
    have := hk.le
    by_cases h0 : k = 0
    ·
     have := hk.nil h0; rw [this] at d1; simp at d1; omega
    ·
     omega
   have c1 := fun S => zG.v (k := k) (l := suf) ⟨hk.le, fun h => by omega⟩ k2 (by omega) S
   unfold XC at c1
   cases ht : Wj suf with
   | none =>
    rw [ht] at c1
    conv at hr =>
     rhs
     rw [hTe]
     simp only [zo.jk, zo.code, zo.rs, zSs, reduceIte, Nat.reduceEqDiff, Int.reduceEq, Int.reduceLT, Int.reduceLE, if_neg k2, qK hk, goInt, d1, sl, c1]
    refine ⟨_, _, out, _, hL.symm.trans (jC hr (by simp)), rfl, rfl, rfl, hout, rfl, suf, hpre, fun x t hx h => ?_⟩
    have := yE (l := Jk x) (r := t) (by have := ZK hx; omega)
    rw [show Y6 (Jk x) ++ t = suf from h.symm, ht] at this
    cases this
   | some tu =>
    obtain ⟨t, u⟩ := tu
    rw [ht] at c1
    obtain ⟨f1, f2⟩ := Ws ht
    obtain ⟨r1, ok, ⟨ro, hP⟩, c2⟩ := zx.v (k := 1) (l := t) Okl.read (by decide) (by omega)
    obtain ⟨S2, b1, b2, b3, b4⟩ := aaB r1 S
    rcases hP with ⟨rfl, hR, ht1⟩ | ⟨rfl, hno⟩
    ·
     have hsuf : suf = qc r1 ++ u := by rw [f1, ht1]; rfl
     have hout2 : ∀ r ∈ out ++ [r1], r.Ok ∧ jU r = true := fun r hr => by
      rcases List.mem_append.1 hr with hr | hr
      ·
       exact hout r hr
      ·
       rw [List.mem_singleton.1 hr]; exact ⟨ro, hR⟩
     have efl : (out ++ [r1]).flatMap qc = out.flatMap qc ++ qc r1 := by simp
     have hpre2 : l = (out ++ [r1]).flatMap qc ++ u := by rw [efl, List.append_assoc, ← hsuf]; exact hpre
     have hlu : l.length = ((out ++ [r1]).flatMap qc).length + u.length := by have h9 := congrArg List.length hpre2; rwa [List.length_append] at h9
     have rp := Zu r1
     have hol := XF out
     have lu : ∀ S, qG Try.prog 26 (by_ 1 u) S = some (.int .i64 u.length, S) := fun S => qK Okl.read
     have wi : IntKind.i64.wrap ((l.length : Int) - u.length) = (((out ++ [r1]).flatMap qc).length : Int) := by rw [wrap_i64 (by omega) (by omega)]; omega
     have c3 : jo Try.prog false 28 (.pointer (some ⟨S.next, 0, none⟩)) S2 = some (rv r1, S2) := Qo b2 ro.ne
     have ap := fun S => abK (S := S) (r := r1) (k := if out = [] then 0 else 2) (l := out) ⟨by split <;> omega, fun h => by split at h <;> first | assumption | omega⟩ (by split <;> omega) (by omega)
     conv at hr =>
      rhs
      rw [hTe]
      simp only [zo.jk, zo.code, zo.rs, zSs, reduceIte, Nat.reduceEqDiff, Int.reduceEq, Int.reduceLT, Int.reduceLE, if_neg k2, qK hk, goInt, d1, sl, c1, c2, ad3, b1, c3, KL, ap, lu, wi]
     exact ih u (out ++ [r1]) ((wZ hr).symm.trans hL) rfl (by rw [hsuf, List.length_append] at hn; omega) rfl (by rw [show (if out ++ [r1] = [] then 0 else 2) = 2 from if_neg (by simp)]; rfl) rfl hpre2 hout2
    ·
     conv at hr =>
      rhs
      rw [hTe]
      simp only [zo.jk, zo.code, zo.rs, zSs, reduceIte, Nat.reduceEqDiff, Int.reduceEq, Int.reduceLT, Int.reduceLE, if_neg k2, qK hk, goInt, d1, sl, c1, c2, ad3, b1]
     refine ⟨_, _, out, _, hL.symm.trans (jC hr (by simp)), rfl, rfl, rfl, hout, rfl, suf, hpre, fun x t hx h => ?_⟩
     have := yE (l := Jk x) (r := t) (by have := ZK hx; omega)
     rw [show Y6 (Jk x) ++ t = suf from h.symm, ht] at this
     simp only [Option.some.injEq, Prod.mk.injEq] at this
     exact hno x hx this.1
  ·
   conv at hr =>
    rhs
    rw [hTe]
    simp only [zo.jk, zo.code, zo.rs, zSs, reduceIte, Nat.reduceEqDiff, Int.reduceEq, Int.reduceLT, Int.reduceLE, if_neg k2, qK hk, goInt, d1]
   have hs : suf = [] := List.length_eq_zero_iff.1 (by omega)
   refine ⟨_, _, out, _, hL.symm.trans (jC hr (by simp)), rfl, rfl, rfl, hout, rfl, [], by rw [← hs]; exact hpre, fun x t hx h => ?_⟩
   have := congrArg List.length h
   have := Zu x
   rw [List.length_append, List.length_nil] at *
   omega
theorem zo.v (hk : Okl k l) (k2 : k ≠ 2) (hl : l.length ≤ 1000000000000) : ∃ rs m, Xp l rs m ∧ ∀ S, zW Try.prog O zo.id [by_ k l] S = some (.tuple #[rl (if rs = [] then 0 else 2) rs, .int .i64 (m : Nat)], S) := by
 obtain ⟨T, hTe⟩ : ∃ T, T = (by_ k l :: undef :: undef :: undef :: undef :: undef :: undef :: undef :: undef :: undef :: undef :: undef :: undef :: undef :: undef :: undef :: undef :: undef :: undef :: undef :: undef :: undef :: undef :: undef :: undef :: undef :: undef :: undef :: undef :: undef :: undef :: undef :: undef :: undef :: undef :: undef :: undef :: undef :: undef :: undef :: undef :: undef :: undef :: []) := ⟨_, rfl⟩
 have hr : zA Try.prog O false zo.code T zi.empty = zA Try.prog O false zo.code T zi.empty := rfl
 conv at hr =>
  rhs
  rw [hTe]
  simp only [zo.code, zo.rs, zSs, reduceIte, Nat.reduceEqDiff, Int.reduceEq, Int.reduceLT, Int.reduceLE]
 generalize hL : yF (zA Try.prog O false zo.jk) _ _ = r at hr
 obtain ⟨T', S', rs, m, rfl, g1, g2, g3, g4⟩ := zo.round hk k2 hl l.length l [] hL rfl (Nat.le_refl _) rfl rfl rfl rfl (fun r h => by cases h)
 have hT' := zo.eta g1
 rw [g2, g3] at hT'
 conv at hr =>
  rhs
  rw [hT']
  simp only [zo.code, zo.rs, zSs, reduceIte, Nat.reduceEqDiff, Int.reduceEq, Int.reduceLT, Int.reduceLE]
 rw [hTe] at hr
 refine ⟨rs, m, g4, fun S => ?_⟩
 have hkk : (if rs = [] then 0 else 2) ≤ 2 := by split <;> omega
 exact zo.runs hr (.inr rfl) (by simp only [List.getD_cons_succ, List.getD_cons_zero, zX, zT, zI, zN, zU]) rfl (all1 (Yo (k := k) hk.le)) (vO (all2 (acS (d := 3) hkk fun r h => (g4.1 r h).1) rfl))
end
end Go.Proofs.Ytblpnklfimkfoaa
namespace Go.Proofs.Ytblpnklfimkfoaa
open Go.Abs
abbrev jB.id : FuncId := 15
noncomputable def jB.code : Code := (Code.seq (Code.region 0 (reg Try.f15 0) false) (Code.seq (Code.region 1 (reg Try.f15 1) false) (Code.seq (Code.region 2 (reg Try.f15 2) false) (Code.seq (Code.region 3 (reg Try.f15 3) false) Code.ret))))
theorem jB.body : Try.f15.body = some jB.code := by kernel_rfl
variable (b d n c g i j k l m : Value) (S : zi)
theorem jB.r0  : ji Try.prog ⟨false, false, false⟩ (zW Try.prog O) (reg Try.f15 0) (reg Try.f15 0).toList ([b,d,n,c,g,i,j,k,l,m]) S =
  ( some ([b,d,Value.pointer none,c,g,i,j,k,l,m], S)) := by
 kernel_rfl
theorem jB.r1  : ji Try.prog ⟨false, false, false⟩ (zW Try.prog O) (reg Try.f15 1) (reg Try.f15 1).toList ([b,d,n,c,g,i,j,k,l,m]) S =
  (zO (yD Try.prog 73 [] S) (fun o f => zO (Y7 (dem o) f) (fun p q => some ([b,d,n,p,o,dem p,j,k,l,m], q)) ()) ()) := by
 kernel_rfl
theorem jB.r2  : ji Try.prog ⟨false, false, false⟩ (zW Try.prog O) (reg Try.f15 2) (reg Try.f15 2).toList ([b,d,n,c,g,i,j,k,l,m]) S =
  (zO ((zW Try.prog O) 39 [(dem (dem c)), (dem (dem b))] S) (fun r f => some ([b,d,n,c,g,i,dem c,dem b,r,m], f)) ()) := by
 kernel_rfl
theorem jB.r3  : ji Try.prog ⟨false, false, false⟩ (zW Try.prog O) (reg Try.f15 3) (reg Try.f15 3).toList ([b,d,n,c,g,i,j,k,l,m]) S =
  ( some ([b,d,c,dem c,g,i,j,k,l,dem c], S)) := by
 kernel_rfl
theorem jB.rs : type_of% (And.intro @jB.r0 (And.intro @jB.r1 (And.intro @jB.r2 (@jB.r3)))) := And.intro @jB.r0 (And.intro @jB.r1 (And.intro @jB.r2 (@jB.r3)))
theorem jB.runs {b : Value} {S f : zi} {e : AEx} {T : List Value} (h : zA Try.prog O false jB.code ([b,undef,undef,undef,undef,undef,undef,undef,undef,undef]) S = some (e, T, f)) (he : e = .normal ∨ e = .ret) : zW Try.prog O 15 [b] S = some (T.getD 2 undef, f) :=
 jJ rfl rfl Try.func15 (by decide) jB.body (by exact h) he (yB (a := T.getD 2 undef) ((show zJ Try.prog T f Try.f15.results.toList = zJ Try.prog T f [(ResultVar.tmp 2)] from by kernel_rfl).trans (by simp only [zJ])) (by kernel_rfl))
end Go.Proofs.Ytblpnklfimkfoaa
namespace Go.Proofs.Ytblpnklfimkfoaa
open Go.Abs
abbrev zD.id : FuncId := 23
noncomputable def zD.code : Code := (Code.seq (Code.region 0 (reg Try.f23 0) false) (Code.seq (Code.seq (Code.region 1 (reg Try.f23 1) false) (Code.cond (Operand.tmp 9) (Code.seq (Code.region 2 (reg Try.f23 2) false) Code.ret) Code.skip)) (Code.seq (Code.region 3 (reg Try.f23 3) false) (Code.seq (Code.region 4 (reg Try.f23 4) false) Code.ret))))
theorem zD.body : Try.f23.body = some zD.code := by kernel_rfl
variable (b c o p w q r s t u d f g i j k l m n : Value) (S : zi)
theorem zD.r0  : ji Try.prog ⟨true, false, false⟩ (yu O.hp true (zW Try.prog O)) (reg Try.f23 0) (reg Try.f23 0).toList ([b,c,o,p,w,q,r,s,t,u,d,f,g,i,j,k,l,m,n]) S =
  ( some ([b,c,o,p,Value.int IntKind.i64 0,q,r,s,t,u,d,f,g,i,j,k,l,m,n], S)) := by
 kernel_rfl
theorem zD.r1  : ji Try.prog ⟨true, false, false⟩ (yu O.hp true (zW Try.prog O)) (reg Try.f23 1) (reg Try.f23 1).toList ([b,c,o,p,w,q,r,s,t,u,d,f,g,i,j,k,l,m,n]) S =
  (zO (qG Try.prog 26 (dem c) S) (fun B v => zO ((zW Try.prog O) 40 [(dem (dem b))] v) (fun x z => zO (jW Try.prog BinOp.gtr 3 B x z) (fun y A => some ([b,c,o,p,w,dem c,B,dem b,x,y,d,f,g,i,j,k,l,m,n], A)) ()) ()) ()) := by
 kernel_rfl
theorem zD.r2  : ji Try.prog ⟨true, false, false⟩ (yu O.hp true (zW Try.prog O)) (reg Try.f23 2) (reg Try.f23 2).toList ([b,c,o,p,w,q,r,s,t,u,d,f,g,i,j,k,l,m,n]) S =
  ( some ([b,c,o,p,Value.int IntKind.i64 41,q,r,s,t,u,d,f,g,i,j,k,l,m,n], S)) := by
 kernel_rfl
theorem zD.r3  : ji Try.prog ⟨true, false, false⟩ (yu O.hp true (zW Try.prog O)) (reg Try.f23 3) (reg Try.f23 3).toList ([b,c,o,p,w,q,r,s,t,u,d,f,g,i,j,k,l,m,n]) S =
  (zO (jF (dem b) S) (fun C v => zO (zK Try.prog 73 C 0 v) (fun x z => zO (jo Try.prog false 26 x z) (fun y A => zO (yx Try.prog true 26 26 y (dem c) A) (fun D G => zO (jF (dem b) G) (fun E H => zO (zK Try.prog 73 E 0 H) (fun F I => zO (y9 Try.prog 26 F (dem D) I) (fun K J => some ([b,c,o,p,w,q,r,s,t,u,dem b,dem b,C,x,dem y,dem c,D,E,F], J)) ()) ()) ()) ()) ()) ()) ()) := by
 kernel_rfl
theorem zD.r4  : ji Try.prog ⟨true, false, false⟩ (yu O.hp true (zW Try.prog O)) (reg Try.f23 4) (reg Try.f23 4).toList ([b,c,o,p,w,q,r,s,t,u,d,f,g,i,j,k,l,m,n]) S =
  ( some ([b,c,o,p,Value.int IntKind.i64 0,q,r,s,t,u,d,f,g,i,j,k,l,m,n], S)) := by
 kernel_rfl
theorem zD.rs : type_of% (And.intro @zD.r0 (And.intro @zD.r1 (And.intro @zD.r2 (And.intro @zD.r3 (@zD.r4))))) := And.intro @zD.r0 (And.intro @zD.r1 (And.intro @zD.r2 (And.intro @zD.r3 (@zD.r4))))
theorem zD.runs {b c : Value} {S v : zi} {e : AEx} {T : List Value} (h : zA Try.prog O true zD.code ([b,c,undef,undef,undef,undef,undef,undef,undef,undef,undef,undef,undef,undef,undef,undef,undef,undef,undef]) S = some (e, T, v)) (he : e = .normal ∨ e = .ret) : zW Try.prog O 23 [b, c] S = some (T.getD 4 undef, v) :=
 jJ rfl rfl Try.func23 (by decide) zD.body (by exact h) he (yB (a := T.getD 4 undef) ((show zJ Try.prog T v Try.f23.results.toList = zJ Try.prog T v [(ResultVar.tmp 4)] from by kernel_rfl).trans (by simp only [zJ])) (by kernel_rfl))
end Go.Proofs.Ytblpnklfimkfoaa
namespace Go.Proofs.Ytblpnklfimkfoaa
open Go.Abs
abbrev zL.id : FuncId := 40
noncomputable def zL.code : Code := (Code.seq (Code.region 0 (reg Try.f40 0) false) (Code.seq (Code.region 1 (reg Try.f40 1) true) Code.ret))
theorem zL.body : Try.f40.body = some zL.code := by kernel_rfl
variable (b k B l m n o p q r f g i j : Value) (S : zi)
theorem zL.r0  : ji Try.prog ⟨true, false, false⟩ (yu O.hp true (zW Try.prog O)) (reg Try.f40 0) (reg Try.f40 0).toList ([b,k,B,l,m,n,o,p,q,r,f,g,i,j]) S =
  ( some ([b,k,Value.int IntKind.i64 0,l,m,n,o,p,q,r,f,g,i,j], S)) := by
 kernel_rfl
theorem zL.d1 : qh Try.prog (reg Try.f40 1) = true := by kernel_rfl
theorem zL.ff1 : fixed Try.prog (reg Try.f40 1) = false := by kernel_rfl
theorem zL.k1 : checked Try.prog (reg Try.f40 1) = [] := by kernel_rfl
theorem zL.g1 : again Try.prog (reg Try.f40 1) = [] := by kernel_rfl
theorem zL.r1  : zA Try.prog O true (.region 1 (reg Try.f40 1) true) ([b,k,B,l,m,n,o,p,q,r,f,g,i,j]) S =
  YD (zO (jF (dem b) S) (fun s c => zO (zK Try.prog 73 s 2 c) (fun t C => zO (jo Try.prog false 3 t C) (fun u D => zO (jF (dem b) D) (fun w E => zO (zK Try.prog 73 w 0 E) (fun x F => zO (jo Try.prog false 26 x F) (fun y G => zO (qG Try.prog 26 y G) (fun z H => zO (jW Try.prog BinOp.sub 3 u z H) (fun A I => zO (yS Try.prog true Builtin.max #[3, 3] 3 [(Value.int IntKind.i64 0), A] I) (fun d J => some ([b,k,d,dem b,s,t,u,dem b,w,x,y,z,A,dem d], J)) ()) ()) ()) ()) ()) ()) ()) ()) ()) := by
 rw [YR zL.d1 zL.ff1 zL.k1 zL.g1]
 refine congrArg YD ?_
 refine tP Try.f40 1 0 (v := b) ?_
 refine tD Try.f40 1 1 (fun s c => ?_)
 refine tD Try.f40 1 2 (fun t C => ?_)
 refine tD Try.f40 1 3 (fun u D => ?_)
 refine tP Try.f40 1 4 (v := b) ?_
 refine tD Try.f40 1 5 (fun w E => ?_)
 refine tD Try.f40 1 6 (fun x F => ?_)
 refine tD Try.f40 1 7 (fun y G => ?_)
 refine tD Try.f40 1 8 (fun z H => ?_)
 refine tD Try.f40 1 9 (fun A I => ?_)
 refine tD Try.f40 1 10 (fun d J => ?_)
 refine tP Try.f40 1 11 (v := d) ?_
 kernel_rfl
theorem zL.rs : type_of% (And.intro @zL.r0 (@zL.r1)) := And.intro @zL.r0 (@zL.r1)
theorem zL.runs {b : Value} {S c : zi} {e : AEx} {T : List Value} (h : zA Try.prog O true zL.code ([b,undef,undef,undef,undef,undef,undef,undef,undef,undef,undef,undef,undef,undef]) S = some (e, T, c)) (he : e = .normal ∨ e = .ret) : zW Try.prog O 40 [b] S = some (T.getD 2 undef, c) :=
 jJ rfl rfl Try.func40 (by decide) zL.body (by exact h) he (yB (a := T.getD 2 undef) ((show zJ Try.prog T c Try.f40.results.toList = zJ Try.prog T c [(ResultVar.tmp 2)] from by kernel_rfl).trans (by simp only [zJ])) (by kernel_rfl))
end Go.Proofs.Ytblpnklfimkfoaa
namespace Go.Proofs.Ytblpnklfimkfoaa
open Go.Abs
abbrev zZ.id : FuncId := 19
noncomputable def zZ.code : Code := (Code.region 0 (reg Try.f19 0) false)
theorem zZ.body : Try.f19.body = some zZ.code := by kernel_rfl
variable (a c l m n o p q r s : Value) (S : zi)
theorem zZ.r0  : ji Try.prog ⟨false, false, false⟩ (zW Try.prog O) (reg Try.f19 0) (reg Try.f19 0).toList ([a,c,l,m,n,o,p,q,r,s]) S =
  (zO (jF (dem a) S) (fun d b => zO (zK Try.prog 73 d 0 b) (fun f t => zO (jo Try.prog false 26 f t) (fun g u => zO (qG Try.prog 26 g u) (fun i v => zO (jF (dem a) v) (fun j w => zO (zK Try.prog 73 j 1 w) (fun k x => zO (y9 Try.prog 3 k (dem i) x) (fun z y => some ([a,c,dem a,dem a,d,f,g,i,j,k], y)) ()) ()) ()) ()) ()) ()) ()) := by
 kernel_rfl
theorem zZ.rs : type_of% (@zZ.r0) := @zZ.r0
theorem zZ.runs {a : Value} {S b : zi} {e : AEx} {T : List Value} (h : zA Try.prog O false zZ.code ([a,undef,undef,undef,undef,undef,undef,undef,undef,undef]) S = some (e, T, b)) (he : e = .normal ∨ e = .ret) : zW Try.prog O 19 [a] S = some (Value.tuple #[], b) :=
 jJ rfl rfl Try.func19 (by decide) zZ.body (by exact h) he rfl
end Go.Proofs.Ytblpnklfimkfoaa
namespace Go.Proofs.Ytblpnklfimkfoaa
open Go.Abs
abbrev zH.id : FuncId := 21
noncomputable def zH.code : Code := (Code.seq (Code.region 0 (reg Try.f21 0) true) (Code.region 1 (reg Try.f21 1) false))
theorem zH.body : Try.f21.body = some zH.code := by kernel_rfl
variable (a b R U x4 x5 x6 x7 x8 x9 d f g i j k l m n o p q r s t u w x y z A B : Value) (S : zi)
theorem zH.d0 : qh Try.prog (reg Try.f21 0) = true := by kernel_rfl
theorem zH.ff0 : fixed Try.prog (reg Try.f21 0) = false := by kernel_rfl
theorem zH.k0 : checked Try.prog (reg Try.f21 0) = [] := by kernel_rfl
theorem zH.g0 : again Try.prog (reg Try.f21 0) = [] := by kernel_rfl
theorem zH.r0  : zA Try.prog O false (.region 0 (reg Try.f21 0) true) ([a,b,R,U,x4,x5,x6,x7,x8,x9,d,f,g,i,j,k,l,m,n,o,p,q,r,s,t,u,w,x,y,z,A,B]) S =
  YD (zO (jF (dem a) S) (fun v2 c => zO (zK Try.prog 73 v2 0 c) (fun v3 S2 => zO (jo Try.prog false 26 v3 S2) (fun v4 S3 => zO (jF (dem a) S3) (fun v6 S4 => zO (zK Try.prog 73 v6 1 S4) (fun v7 S5 => zO (jo Try.prog false 3 v7 S5) (fun v8 S6 => zO (jF (dem a) S6) (fun C S7 => zO (zK Try.prog 73 C 0 S7) (fun D S8 => zO (jo Try.prog false 26 D S8) (fun E S9 => zO (qG Try.prog 26 E S9) (fun F V => zO (jF (dem a) V) (fun G W => zO (zK Try.prog 73 G 1 W) (fun H X => zO (jo Try.prog false 3 H X) (fun I Y => zO (jW Try.prog BinOp.sub 3 F I Y) (fun J Z => zO (yS Try.prog false Builtin.min #[3, 3] 3 [(dem b), J] Z) (fun K a0 => zO (yS Try.prog false Builtin.max #[3, 3] 3 [(Value.int IntKind.i64 0), K] a0) (fun L a1 => zO (jW Try.prog BinOp.add 3 v8 L a1) (fun M a2 => zO (wG Try.prog false 26 v4 none (some M) a2) (fun N a3 => zO (jF (dem a) a3) (fun P a4 => zO (zK Try.prog 73 P 0 a4) (fun Q a5 => zO (y9 Try.prog 26 Q (dem N) a5) (fun a7 a6 => some ([a,b,R,U,dem a,dem a,v2,v3,v4,dem a,v6,v7,v8,dem b,dem a,C,D,E,F,dem a,G,H,I,J,K,L,M,N,P,Q,A,B], a6)) ()) ()) ()) ()) ()) ()) ()) ()) ()) ()) ()) ()) ()) ()) ()) ()) ()) ()) ()) ()) ()) := by
 rw [yY zH.d0 zH.ff0 zH.k0 zH.g0]
 refine congrArg YD ?_
 refine tP Try.f21 0 0 (v := a) ?_
 refine tP Try.f21 0 1 (v := a) ?_
 refine tD Try.f21 0 2 (fun v2 c => ?_)
 refine tD Try.f21 0 3 (fun v3 S2 => ?_)
 refine tD Try.f21 0 4 (fun v4 S3 => ?_)
 refine tP Try.f21 0 5 (v := a) ?_
 refine tD Try.f21 0 6 (fun v6 S4 => ?_)
 refine tD Try.f21 0 7 (fun v7 S5 => ?_)
 refine tD Try.f21 0 8 (fun v8 S6 => ?_)
 refine tP Try.f21 0 9 (v := b) ?_
 refine tP Try.f21 0 10 (v := a) ?_
 refine tD Try.f21 0 11 (fun C S7 => ?_)
 refine tD Try.f21 0 12 (fun D S8 => ?_)
 refine tD Try.f21 0 13 (fun E S9 => ?_)
 refine tD Try.f21 0 14 (fun F V => ?_)
 refine tP Try.f21 0 15 (v := a) ?_
 refine tD Try.f21 0 16 (fun G W => ?_)
 refine tD Try.f21 0 17 (fun H X => ?_)
 refine tD Try.f21 0 18 (fun I Y => ?_)
 refine tD Try.f21 0 19 (fun J Z => ?_)
 refine tD Try.f21 0 20 (fun K a0 => ?_)
 refine tD Try.f21 0 21 (fun L a1 => ?_)
 refine tD Try.f21 0 22 (fun M a2 => ?_)
 refine tD Try.f21 0 23 (fun N a3 => ?_)
 refine tD Try.f21 0 24 (fun P a4 => ?_)
 refine tD Try.f21 0 25 (fun Q a5 => ?_)
 refine tD Try.f21 0 26 (fun a7 a6 => ?_)
 kernel_rfl
theorem zH.r1  : ji Try.prog ⟨false, false, false⟩ (zW Try.prog O) (reg Try.f21 1) (reg Try.f21 1).toList ([a,b,R,U,x4,x5,x6,x7,x8,x9,d,f,g,i,j,k,l,m,n,o,p,q,r,s,t,u,w,x,y,z,A,B]) S =
  (zO ((zW Try.prog O) 19 [(dem (dem a))] S) (fun v1 c => some ([a,b,R,U,x4,x5,x6,x7,x8,x9,d,f,g,i,j,k,l,m,n,o,p,q,r,s,t,u,w,x,y,z,dem a,v1], c)) ()) := by
 kernel_rfl
theorem zH.rs : type_of% (And.intro @zH.r0 (@zH.r1)) := And.intro @zH.r0 (@zH.r1)
theorem zH.runs {a b : Value} {S c : zi} {e : AEx} {T : List Value} (h : zA Try.prog O false zH.code ([a,b,undef,undef,undef,undef,undef,undef,undef,undef,undef,undef,undef,undef,undef,undef,undef,undef,undef,undef,undef,undef,undef,undef,undef,undef,undef,undef,undef,undef,undef,undef]) S = some (e, T, c)) (he : e = .normal ∨ e = .ret) : zW Try.prog O 21 [a, b] S = some (Value.tuple #[], c) :=
 jJ rfl rfl Try.func21 (by decide) zH.body (by exact h) he rfl
end Go.Proofs.Ytblpnklfimkfoaa
namespace Go.Proofs.Ytblpnklfimkfoaa
open Go.Abs
abbrev jd.id : FuncId := 39
noncomputable def jd.code : Code := (Code.region 0 (reg Try.f39 0) false)
theorem jd.body : Try.f39.body = some jd.code := by kernel_rfl
variable (a b d f l m n o p q : Value) (S : zi)
theorem jd.r0  : ji Try.prog ⟨false, false, false⟩ (zW Try.prog O) (reg Try.f39 0) (reg Try.f39 0).toList ([a,b,d,f,l,m,n,o,p,q]) S =
  (zO (yS Try.prog false Builtin.min #[3, 3] 3 [(dem b), (Value.int IntKind.i64 65536)] S) (fun g c => zO (yS Try.prog false Builtin.max #[3, 3] 3 [(Value.int IntKind.i64 0), g] c) (fun i r => zO (jF (dem a) r) (fun j s => zO (zK Try.prog 73 j 2 s) (fun k t => zO (y9 Try.prog 3 k (dem i) t) (fun v u => some ([a,b,d,f,dem a,dem b,g,i,j,k], u)) ()) ()) ()) ()) ()) := by
 kernel_rfl
theorem jd.rs : type_of% (@jd.r0) := @jd.r0
theorem jd.runs {a b : Value} {S c : zi} {e : AEx} {T : List Value} (h : zA Try.prog O false jd.code ([a,b,undef,undef,undef,undef,undef,undef,undef,undef]) S = some (e, T, c)) (he : e = .normal ∨ e = .ret) : zW Try.prog O 39 [a, b] S = some (Value.tuple #[], c) :=
 jJ rfl rfl Try.func39 (by decide) jd.body (by exact h) he rfl
end Go.Proofs.Ytblpnklfimkfoaa
namespace Go.Proofs.Ytblpnklfimkfoaa
open Go.Abs
def Jo (S : zi) (q : Nat) (a : Option Addr) (data : List UInt8) : Prop :=
 (a = none ∧ data = []) ∨ ∃ r anc rest, a = some ⟨r, 0, none⟩ ∧ S.get r = some (.cells (data.flatMap cb ++ rest) (.own anc) 1) ∧ q < r ∧ r < S.next ∧ ∀ a ∈ anc, q < a ∧ a < r
def Old (q : Nat) (S S1 : zi) : Prop := ∀ k, k < q → S1.get k = S.get k
theorem Old.refl (q : Nat) (S : zi) : Old q S S := fun _ _ => rfl
theorem Old.trans {q : Nat} {S S1 S2 : zi} (h : Old q S S1) (k : Old q S1 S2) : Old q S S2 := fun i hi => (k i hi).trans (h i hi)
theorem Old.set {q r : Nat} {S S1 : zi} (h : Old q S S1) (hr : q ≤ r) (o : wX) : Old q S (S1.set r o) := fun i hi => by rw [zi.jq, if_neg (by omega)]; exact h i hi
structure Dk (S : zi) (q : Nat) (data : List UInt8) (sy room : Int) : Prop where
 lt : q < S.next
 len : data.length ≤ 65536
 sy0 : 0 ≤ sy
 syl : sy ≤ data.length
 rm0 : 0 ≤ room
 rml : room ≤ 65536
 cell : ∃ a, S.get q = some (.cells [.slice a data.length data.length, .int .i64 sy, .int .i64 room] (.own []) 0) ∧ Jo S q a data
theorem Dk.ext {S S1 : zi} {q : Nat} {data : List UInt8} {sy room : Int} (h : Dk S q data sy room) (k : Ext S S1) : Dk S1 q data sy room := by
 obtain ⟨a, h1, h2⟩ := h.cell
 refine ⟨Nat.lt_of_lt_of_le h.lt k.1, h.len, h.sy0, h.syl, h.rm0, h.rml, a, by rw [k.2 q h.lt]; exact h1, ?_⟩
 rcases h2 with h2 | ⟨r, anc, rest, h3, h4, h5, h6, h7⟩
 ·
  exact .inl h2
 ·
  exact .inr ⟨r, anc, rest, h3, by rw [k.2 r h6]; exact h4, h5, Nat.lt_of_lt_of_le h6 k.1, h7⟩
theorem Dk.put {S : zi} {q : Nat} {data data' : List UInt8} {sy room sy' room' : Int} {a : Option Addr} (h : Dk S q data sy room) (hd : Jo S q a data') (h0 : data'.length ≤ 65536) (h1 : 0 ≤ sy') (h2 : sy' ≤ data'.length) (h3 : 0 ≤ room') (h4 : room' ≤ 65536) {cs : List Value} (hc : cs = [.slice a data'.length data'.length, .int .i64 sy', .int .i64 room']) :
  Dk (S.set q (.cells cs (.own []) 0)) q data' sy' room' := by
 subst hc
 refine ⟨by simpa using h.lt, h0, h1, h2, h3, h4, a, by rw [zi.jq, if_pos rfl], ?_⟩
 rcases hd with hd | ⟨r, anc, rest, k1, k2, k3, k4, k5⟩
 ·
  exact .inl hd
 ·
  exact .inr ⟨r, anc, rest, k1, by rw [zi.jq, if_neg (by omega)]; exact k2, k3, by simpa using k4, k5⟩
theorem Jo.take {S : zi} {q : Nat} {a : Option Addr} {data : List UInt8} (h : Jo S q a data) (n : Nat) : Jo S q a (data.take n) := by
 rcases h with ⟨h1, h2⟩ | ⟨r, anc, rest, k1, k2, k3, k4, k5⟩
 ·
  exact .inl ⟨h1, by rw [h2, List.take_nil]⟩
 ·
  refine .inr ⟨r, anc, (data.drop n).flatMap cb ++ rest, k1, ?_, k3, k4, k5⟩
  rw [k2, ← List.append_assoc, ← List.flatMap_append, List.take_append_drop]
def roomOf (room : Int) (n : Nat) : Int := if room - n > 0 then room - n else 0
section
variable {S : zi} {q : Nat} {data : List UInt8} {sy room : Int}
theorem zL.v (h : Dk S q data sy room) : zW Try.prog O zL.id [.pointer (some ⟨q, 0, none⟩)] S = some (.int .i64 (roomOf room data.length), S) := by
 obtain ⟨T, hTe⟩ : ∃ T, T = (.pointer (some ⟨q, 0, none⟩) :: undef :: undef :: undef :: undef :: undef :: undef :: undef :: undef :: undef :: undef :: undef :: undef :: undef :: []) := ⟨_, rfl⟩
 have hr : zA Try.prog O true zL.code T S = zA Try.prog O true zL.code T S := rfl
 obtain ⟨a, h1, h2⟩ := h.cell
 have l1 := xK (t := 3) (o := 0 + 2) h1 KN rfl
 have l2 := kT (t := 26) (o := 0 + 0) h1 yM rfl
 have ln := fun S => JM jD a data.length data.length S
 have b1 := h.rm0; have b2 := h.rml; have b3 := h.len
 have w1 : IntKind.i64.wrap (room - data.length) = room - data.length := wrap_i64 (by omega) (by omega)
 conv at hr =>
  rhs
  rw [hTe]
  simp only [zL.code, zL.rs, zSs, reduceIte, Nat.reduceEqDiff, Int.reduceEq, Int.reduceLT, Int.reduceLE, wM, wF, vK, l1, l2, ln, goInt, w1, aga]
 rw [hTe] at hr
 exact zL.runs hr (.inr rfl)
theorem zZ.v (h : Dk S q data sy room) : ∃ v S1, zW Try.prog O zZ.id [.pointer (some ⟨q, 0, none⟩)] S = some (v, S1) ∧ Dk S1 q data data.length room ∧ Old q S S1 := by
 obtain ⟨T, hTe⟩ : ∃ T, T = (.pointer (some ⟨q, 0, none⟩) :: undef :: undef :: undef :: undef :: undef :: undef :: undef :: undef :: undef :: []) := ⟨_, rfl⟩
 have hr : zA Try.prog O false zZ.code T S = zA Try.prog O false zZ.code T S := rfl
 obtain ⟨a, h1, h2⟩ := h.cell
 have l2 := kT (t := 26) (o := 0 + 0) h1 yM rfl
 have ln := fun S => JM jD a data.length data.length S
 have s1 := qY (P := Try.prog) (t := 3) (o := 0 + 1) (x := .int .i64 data.length) h1 acT rfl rfl (by simp)
 conv at hr =>
  rhs
  rw [hTe]
  simp only [zZ.code, zZ.rs, zSs, reduceIte, Nat.reduceEqDiff, Int.reduceEq, Int.reduceLT, Int.reduceLE, wM, wF, vJ, l2, ln, goInt, s1]
 rw [hTe] at hr
 have hrun := zZ.runs hr (.inl rfl)
 exact ⟨_, _, hrun, h.put h2 h.len (by omega) (by omega) h.rm0 h.rml rfl, (Old.refl q S).set (Nat.le_refl _) _⟩
theorem jd.v {r : Int} (h : Dk S q data sy room) : ∃ v S1, zW Try.prog O jd.id [.pointer (some ⟨q, 0, none⟩), .int .i64 r] S = some (v, S1) ∧ Dk S1 q data sy (max 0 (min r 65536)) ∧ Old q S S1 := by
 obtain ⟨T, hTe⟩ : ∃ T, T = (.pointer (some ⟨q, 0, none⟩) :: .int .i64 r :: undef :: undef :: undef :: undef :: undef :: undef :: undef :: undef :: []) := ⟨_, rfl⟩
 have hr : zA Try.prog O false jd.code T S = zA Try.prog O false jd.code T S := rfl
 obtain ⟨a, h1, h2⟩ := h.cell
 have s1 := fun x : Int => qY (P := Try.prog) (t := 3) (o := 0 + 2) (x := .int .i64 x) h1 acT rfl rfl (by simp)
 conv at hr =>
  rhs
  rw [hTe]
  simp only [jd.code, jd.rs, zSs, reduceIte, Nat.reduceEqDiff, Int.reduceEq, Int.reduceLT, Int.reduceLE, wM, vK, agj, aga, s1]
 rw [hTe] at hr
 have hrun := jd.runs hr (.inl rfl)
 refine ⟨_, _, hrun, ?_⟩
 have e : ∀ x : Int, (if (if (65536 : Int) < x then 65536 else x) > 0 then (if (65536 : Int) < x then 65536 else x) else 0) = max 0 (min x 65536) := by intro x; split <;> omega
 rw [e]
 exact ⟨h.put h2 h.len h.sy0 h.syl (by omega) (by omega) rfl, (Old.refl q S).set (Nat.le_refl _) _⟩
end
end Go.Proofs.Ytblpnklfimkfoaa
namespace Go.Proofs.Ytblpnklfimkfoaa
open Go.Abs
section
variable {S : zi} {q : Nat} {data : List UInt8} {sy room : Int}
theorem jB.v {r : Int} (S : zi) : ∃ S1, zW Try.prog O jB.id [.int .i64 r] S = some (.pointer (some ⟨S.next, 0, none⟩), S1) ∧ Dk S1 S.next [] 0 (max 0 (min r 65536)) ∧ Old S.next S S1 := by
 obtain ⟨T, hTe⟩ : ∃ T, T = (.int .i64 r :: undef :: undef :: undef :: undef :: undef :: undef :: undef :: undef :: undef :: []) := ⟨_, rfl⟩
 have hr : zA Try.prog O false jB.code T S = zA Try.prog O false jB.code T S := rfl
 have h0 : Dk (S.push (.cells [.slice none 0 0, .int .i64 0, .int .i64 0] (.own []) 0)) S.next [] 0 0 :=
  ⟨by simp, by simp, by omega, by simp, by omega, by omega, none, by rw [zi.zY, if_pos rfl]; rfl, .inl ⟨rfl, rfl⟩⟩
 obtain ⟨v, S1, e1, d1, o1⟩ := jd.v (r := r) h0
 have bx : Y7 (.agg [.slice none 0 0, .int .i64 0, .int .i64 0].toArray) S = some (.pointer (some ⟨S.next, 0, none⟩), S.push (.cells [.slice none 0 0, .int .i64 0, .int .i64 0] (.own []) 0)) := rfl
 conv at hr =>
  rhs
  rw [hTe]
  simp only [jB.code, jB.rs, zSs, reduceIte, Nat.reduceEqDiff, Int.reduceEq, Int.reduceLT, Int.reduceLE, Qy, bx, e1]
 rw [hTe] at hr
 exact ⟨_, jB.runs hr (.inr rfl), d1, fun k hk => (o1 k hk).trans (by rw [zi.zY, if_neg (by omega)])⟩
theorem qP (l : List UInt8) : (l.flatMap cb).length = l.length := by rw [qZ QK, Nat.mul_one]
theorem adB (l : List UInt8) : (l.flatMap cb).all (·.oneCell') = true := by rw [List.all_flatMap, List.all_eq_true]; exact fun x _ => rfl
theorem af2 (l : List UInt8) : (l.flatMap cb).all sg = true := by rw [List.all_flatMap, List.all_eq_true]; exact fun x _ => rfl
theorem Jo.append {a : Option Addr} {k : Nat} {b : List UInt8} (hd : Jo S q a data) (hq : q < S.next) (hk : Okl k b) (hl : data.length + b.length ≤ 65536) :
  ∃ a' S1, yx Try.prog true 26 26 (.slice a data.length data.length) (by_ k b) S = some (.slice a' (data ++ b).length (data ++ b).length, S1) ∧ Jo S1 q a' (data ++ b) ∧ S1.get q = S.get q ∧ q < S1.next ∧ Old q S S1 ∧ ∀ p, p < S.next → (∀ r, a = some ⟨r, 0, none⟩ → r < p) → S1.get p = S.get p := by
 have hsrc : Wh Try.prog 26 1 (by_ k b) S = some (b.length, b.flatMap cb) := acX jD hk.okv (by rw [qP, Nat.mul_one]) (adB b)
 rcases hd with ⟨rfl, rfl⟩ | ⟨r, anc, rest, rfl, k2, k3, k4, k5⟩
 ·
  have e1 := X7 (t := 26) (tx := 26) (S := S) jD qg Jw rfl Jr (by decide) hsrc (by simp at hl; omega) (by simp at hl; omega)
  by_cases h0 : b.length = 0
  ·
   have hb : b = [] := List.length_eq_zero_iff.1 h0
   subst hb
   exact ⟨none, S, e1, .inl ⟨rfl, rfl⟩, rfl, hq, Old.refl _ _, fun _ _ _ => rfl⟩
  ·
   rw [if_neg h0, if_neg h0] at e1
   refine ⟨some ⟨S.next, 0, none⟩, _, e1, .inr ⟨S.next, [], [], rfl, ?_, by omega, by simp, by simp⟩, ?_, by simp; omega, fun k hk => by rw [zi.zY, if_neg (by omega)], fun p hp _ => by rw [zi.zY, if_neg (by omega)]⟩
   ·
    rw [zi.zY, if_pos rfl, List.append_nil, List.nil_append]
   ·
    rw [zi.zY, if_neg (by omega)]
 ·
  have hlen : (data.flatMap cb).length = data.length := qP data
  have htk : ((data.flatMap cb ++ rest).drop 0).take (data.length * 1) = data.flatMap cb := by
   rw [List.drop_zero, Nat.mul_one, ← hlen, List.take_left]
  have e1 := Va (hp := true) (t := 26) (tx := 26) (o := 0) (n := data.length) (c := data.length) jD qg Jw rfl Jr (by decide) hsrc k2 (by rw [List.length_append, hlen]; omega) (by omega) (by omega) (by rw [htk]; exact adB data)
  rw [htk, ← List.length_append] at e1
  by_cases h0 : 0 + data.length * 1 = (data.flatMap cb ++ rest).length
  ·
   rw [if_pos h0] at e1
   refine ⟨some ⟨S.next, 0, none⟩, _, e1, .inr ⟨S.next, _, [], rfl, by rw [zi.zY, zi.ql, if_pos rfl, List.append_nil, List.flatMap_append], by omega, by simp, ?_⟩, ?_, by simp; omega, fun k hk => by rw [zi.zY, zi.ql, if_neg (by omega), zi.jq, if_neg (by omega)], fun p hp hr => by have := hr r rfl; rw [zi.zY, zi.ql, if_neg (by omega), zi.jq, if_neg (by omega)]⟩
   ·
    split
    ·
     simp
    ·
     intro x h; rcases List.mem_cons.1 h with h | h
     ·
      omega
     ·
      have := k5 x h; omega
   ·
    rw [zi.zY, zi.ql, if_neg (by omega), zi.jq, if_neg (by omega)]
  ·
   rw [if_neg h0] at e1
   refine ⟨some ⟨S.next, 0, none⟩, _, e1, .inr ⟨S.next, [], [], rfl, by rw [zi.zY, zi.ql, zi.xR, if_pos rfl, List.append_nil, List.flatMap_append], by omega, by simp, by simp⟩, ?_, by simp; omega, fun k hk => by rw [zi.zY, zi.ql, zi.xR, if_neg (by omega), zi.jq, if_neg (by omega), zi.yZ, if_neg (fun h => by have := k5 k h; omega)], fun p hp hr => by have := hr r rfl; rw [zi.zY, zi.ql, zi.xR, if_neg (by omega), zi.jq, if_neg (by omega), zi.yZ, if_neg (fun h => by have := k5 p h; omega)]⟩
   rw [zi.zY, zi.ql, zi.xR, if_neg (by omega), zi.jq, if_neg (by omega), zi.yZ, if_neg (fun h => by have := k5 q h; omega)]
def Low (S : zi) (q p : Nat) : Prop := ∀ r n c rest own e, S.get q = some (.cells (.slice (some ⟨r, 0, none⟩) n c :: rest) own e) → r < p
theorem Dk.low {S0 S : zi} {q : Nat} {data : List UInt8} {sy room : Int} (h : Dk S0 q data sy room) (k : Ext S0 S) : Low S q S0.next := by
 intro r n c rest own e hg
 obtain ⟨a, h1, h2⟩ := h.cell
 rw [k.2 q h.lt, h1] at hg
 simp only [Option.some.injEq, wX.cells.injEq, List.cons.injEq, Value.slice.injEq] at hg
 obtain ⟨⟨⟨rfl, _⟩, _⟩, _⟩ := hg
 rcases h2 with ⟨h2, _⟩ | ⟨r', anc, rest', h2, _, _, h4, _⟩
 ·
  cases h2
 ·
  simp only [Option.some.injEq, Addr.mk.injEq, and_true] at h2
  omega
theorem zD.v {k : Nat} {b : List UInt8} (h : Dk S q data sy room) (hk : Okl k b) (k2 : k ≠ 2) (hb : b.length ≤ 140737488355328) : ∃ S1, zW Try.prog O zD.id [.pointer (some ⟨q, 0, none⟩), by_ k b] S = some (.int .i64 (if roomOf room data.length < b.length then 41 else 0), S1) ∧
  Dk S1 q (if roomOf room data.length < b.length then data else data ++ b) sy room ∧ Old q S S1 ∧ ∀ p, q < p → p < S.next → Low S q p → S1.get p = S.get p := by
 obtain ⟨T, hTe⟩ : ∃ T, T = (.pointer (some ⟨q, 0, none⟩) :: by_ k b :: undef :: undef :: undef :: undef :: undef :: undef :: undef :: undef :: undef :: undef :: undef :: undef :: undef :: undef :: undef :: undef :: undef :: []) := ⟨_, rfl⟩
 have hr : zA Try.prog O true zD.code T S = zA Try.prog O true zD.code T S := rfl
 have c1 := zL.v h
 have ln := fun S => qK (S := S) hk
 by_cases h1 : roomOf room data.length < b.length
 ·
  conv at hr =>
   rhs
   rw [hTe]
   simp only [zD.code, zD.rs, zSs, reduceIte, Nat.reduceEqDiff, Int.reduceEq, Int.reduceLT, Int.reduceLE, if_neg k2, ln, goInt, c1, h1]
  rw [hTe] at hr
  have hrun := zD.runs hr (.inr rfl)
  rw [if_pos h1, if_pos h1]
  exact ⟨_, hrun, h, Old.refl _ _, fun _ _ _ _ => rfl⟩
 ·
  obtain ⟨a, h3, h4⟩ := h.cell
  have l2 := kT (t := 26) (o := 0 + 0) h3 yM rfl
  have hle : data.length + b.length ≤ 65536 := by
   have b1 := h.rml; have b2 := h.len
   unfold roomOf at h1
   split at h1 <;> omega
  obtain ⟨a', S1, e1, d1, g1, n1, o1, w1⟩ := h4.append h.lt hk hle
  have h5 := g1.trans h3
  have s1 := qY (P := Try.prog) (t := 26) (o := 0 + 0) (x := .slice a' (data ++ b).length (data ++ b).length) h5 Qn rfl rfl (by simp)
  conv at hr =>
   rhs
   rw [hTe]
   simp only [zD.code, zD.rs, zSs, reduceIte, Nat.reduceEqDiff, Int.reduceEq, Int.reduceLT, Int.reduceLE, if_neg k2, ln, goInt, c1, h1, wM, wF, l2, e1, s1]
  rw [hTe] at hr
  have hrun := zD.runs hr (.inr rfl)
  rw [if_neg h1, if_neg h1]
  refine ⟨_, hrun, ⟨n1, by simpa using hle, h.sy0, ?_, h.rm0, h.rml, a', by rw [zi.jq, if_pos rfl]; rfl, ?_⟩, o1.set (Nat.le_refl _) _, fun p hqp hps hlow => by
   rw [zi.jq, if_neg (by omega)]
   exact w1 p hps fun r hr => by subst hr; exact hlow r _ _ _ _ _ h3⟩
  ·
   have := h.syl; rw [List.length_append]; omega
  ·
   rcases d1 with d1 | ⟨r, anc, rest, j1, j2, j3, j4, j5⟩
   ·
    exact .inl d1
   ·
    exact .inr ⟨r, anc, rest, j1, by show ((S1.kills []).set q _).get r = _; rw [zi.jq, if_neg (by omega)]; exact j2, j3, by simpa using j4, j5⟩
theorem Jo.slice {a : Option Addr} {dr : Bool} (hd : Jo S q a data) {hi : Int} (h0 : 0 ≤ hi) (h1 : hi ≤ data.length) (hdr : dr = false) :
  ∃ a', wG Try.prog dr 26 (.slice a data.length data.length) none (some (.int .i64 hi)) S = some (.slice a' (data.take hi.toNat).length (data.take hi.toNat).length, S) ∧ Jo S q a' (data.take hi.toNat) := by
 have hd0 := hd
 rcases hd with ⟨rfl, rfl⟩ | ⟨r, anc, rest, rfl, k2, k3, k4, k5⟩
 ·
  have h1 : hi ≤ 0 := h1
  refine ⟨none, ?_, hd0.take _⟩
  rw [List.take_nil]
  exact aaD jD qg (l := 0) (h := hi) rfl rfl (by omega) h0 h1
 ·
  refine ⟨some ⟨r, 0, none⟩, ?_, hd0.take _⟩
  have := aaM (P := Try.prog) (t := 26) (o := 0) (n := data.length) (c := data.length) (lo := none) (hi := some (.int .i64 hi)) (l := 0) (h := hi) hdr k2 jD qg rfl rfl (by omega) h0 h1
  rw [this]
  have e : hi.toNat - Int.toNat 0 = (data.take hi.toNat).length := by rw [List.length_take]; omega
  rw [e]
  rfl
theorem zH.v {keep : Int} (h : Dk S q data sy room) (hk : -9223372036854775808 ≤ keep ∧ keep < 9223372036854775808) : ∃ v S1, zW Try.prog O zH.id [.pointer (some ⟨q, 0, none⟩), .int .i64 keep] S = some (v, S1) ∧
  Dk S1 q (data.take (sy + max 0 (min keep (data.length - sy))).toNat) (data.take (sy + max 0 (min keep (data.length - sy))).toNat).length room ∧ Old q S S1 := by
 obtain ⟨T, hTe⟩ : ∃ T, T = (.pointer (some ⟨q, 0, none⟩) :: .int .i64 keep :: undef :: undef :: undef :: undef :: undef :: undef :: undef :: undef :: undef :: undef :: undef :: undef :: undef :: undef :: undef :: undef :: undef :: undef :: undef :: undef :: undef :: undef :: undef :: undef :: undef :: undef :: undef :: undef :: undef :: undef :: []) := ⟨_, rfl⟩
 have hr : zA Try.prog O false zH.code T S = zA Try.prog O false zH.code T S := rfl
 obtain ⟨a, h1, h2⟩ := h.cell
 have b1 := h.sy0; have b2 := h.syl; have b3 := h.len
 have l1 := xK (t := 3) (o := 0 + 1) h1 KN rfl
 have l2 := kT (t := 26) (o := 0 + 0) h1 yM rfl
 have ln := fun S => JM jD a data.length data.length S
 have w1 : IntKind.i64.wrap (data.length - sy) = data.length - sy := wrap_i64 (by omega) (by omega)
 have e1 : (if (data.length : Int) - sy < keep then (data.length : Int) - sy else keep) = min keep (data.length - sy) := by split <;> omega
 have e2 : (if min keep (data.length - sy) > 0 then min keep (data.length - sy) else 0) = max 0 (min keep (data.length - sy)) := by split <;> omega
 have w2 : IntKind.i64.wrap (sy + max 0 (min keep (data.length - sy))) = sy + max 0 (min keep (data.length - sy)) := wrap_i64 (by omega) (by omega)
 obtain ⟨a', s1, d1⟩ := h2.slice (dr := false) (hi := sy + max 0 (min keep (data.length - sy))) (by omega) (by omega) rfl
 generalize hm : sy + max 0 (min keep (data.length - sy)) = m at *
 have s2 := qY (P := Try.prog) (t := 26) (o := 0 + 0) (x := .slice a' (data.take m.toNat).length (data.take m.toNat).length) h1 Qn rfl rfl (by simp)
 have hle : (data.take m.toNat).length ≤ 65536 := by rw [List.length_take]; omega
 have d2 := h.put d1 (sy' := 0) (room' := room) hle (by omega) (by omega) h.rm0 h.rml rfl
 have hsl : sy ≤ ((data.take m.toNat).length : Int) := by rw [List.length_take]; omega
 have d3 := h.put d1 (sy' := sy) (room' := room) hle h.sy0 hsl h.rm0 h.rml rfl
 obtain ⟨v, S1, e3, d4, o4⟩ := zZ.v d3
 have e3 : zW Try.prog O 19 [Value.pointer (some ⟨q, 0, none⟩)] ((S.kills []).set q (.cells (splice [.slice a data.length data.length, .int .i64 sy, .int .i64 room] (0 + 0) (Value.slice a' (data.take m.toNat).length (data.take m.toNat).length).cells.toList) (.own []) 0)) = some (v, S1) := e3
 conv at hr =>
  rhs
  rw [hTe]
  simp only [zH.code, zH.rs, zSs, reduceIte, Nat.reduceEqDiff, Int.reduceEq, Int.reduceLT, Int.reduceLE, wM, wF, vJ, l1, l2, ln, goInt, w1, agj, aga, e1, e2, w2, hm, s1, s2, e3]
 rw [hTe] at hr
 have hrun := zH.runs hr (.inl rfl)
 exact ⟨_, _, hrun, d4, ((Old.refl q S).set (Nat.le_refl _) _).trans o4⟩
theorem zy.v (h : Dk S q data sy room) : zW Try.prog O 25 [.pointer (some ⟨q, 0, none⟩)] S = some (by_ 2 data, S) := by
 rw [ab9 (q := WU) rfl]
 obtain ⟨a, h1, h2⟩ := h.cell
 have hlt := h.lt
 have hb := h.len
 rcases h2 with ⟨rfl, rfl⟩ | ⟨r, anc, rest, rfl, k2, k3, k4, k5⟩
 ·
  simp only [WU, h1, if_pos hlt]
  rfl
 ·
  have hlen : (data.flatMap cb).length = data.length := qP data
  have htk : (data.flatMap cb ++ rest).take data.length = data.flatMap cb := by rw [← hlen, List.take_left]
  simp only [WU, h1, if_pos hlt, k2, htk, af2, if_true, if_pos k4]
  rw [if_pos (by rw [List.length_append, hlen]; omega), if_pos (by omega)]
  rfl
end
end Go.Proofs.Ytblpnklfimkfoaa
namespace Go.Proofs.Ytblpnklfimkfoaa
open Go.Abs
theorem afG {t : TypeId} {a b : List UInt8} {S : zi} : xI Try.prog .eql t (.string ⟨a.toArray⟩) (.string ⟨b.toArray⟩) S = some (.bool (decide (a = b)), S) := by rw [XW]
end Go.Proofs.Ytblpnklfimkfoaa
namespace Go.Proofs.Ytblpnklfimkfoaa
open Go.Abs
theorem zM.v {a b : wJ} (ha : a.Ok) (hb : b.Ok) (S : zi) : zW Try.prog O zM.id [rv a, rv b] S = some (.bool ((((decide (a.kind = b.kind) && decide (a.index = b.index)) && decide (a.view = b.view)) && decide (a.value = b.value)) && decide (a.txt = b.txt)), S) := by
 obtain ⟨T, hTe⟩ : ∃ T, T = (rv a :: rv b :: undef :: undef :: undef :: undef :: undef :: undef :: undef :: undef :: undef :: undef :: undef :: undef :: undef :: undef :: undef :: undef :: undef :: undef :: undef :: undef :: undef :: undef :: undef :: undef :: undef :: undef :: undef :: undef :: undef :: undef :: undef :: undef :: undef :: undef :: undef :: undef :: undef :: undef :: []) := ⟨_, rfl⟩
 have hr : zA Try.prog O false zM.code T zi.empty = zA Try.prog O false zM.code T zi.empty := rfl
 have g0 := abJ a b
 have g1 := aaR a b
 have hc : [rv a, rv b].all (jv 16) = true := all2 (Zj ha.okl.le) (Zj hb.okl.le)
 have s1 : ∀ S, xZ Try.prog 26 9 (by_ a.k a.txt) S = some (.string ⟨a.txt.toArray⟩, S) := fun S => adv ha.okl
 have s2 : ∀ S, xZ Try.prog 26 9 (by_ b.k b.txt) S = some (.string ⟨b.txt.toArray⟩, S) := fun S => adv hb.okl
 have s3 : ∀ S, wL Try.prog false false 26 9 (by_ a.k a.txt) S = some (.string ⟨a.txt.toArray⟩, S) := fun S => by rw [Za]; exact s1 S
 have s4 : ∀ S, wL Try.prog false false 26 9 (by_ b.k b.txt) S = some (.string ⟨b.txt.toArray⟩, S) := fun S => by rw [Za]; exact s2 S
 have cq : ∀ S, jW Try.prog .eql 9 (.string ⟨a.txt.toArray⟩) (.string ⟨b.txt.toArray⟩) S = some (.bool (decide (a.txt = b.txt)), S) := fun S => afG (t := 9)
 conv at hr =>
  rhs
  rw [hTe]
  simp only [zM.code, zM.rs, zSs, reduceIte, Nat.reduceEqDiff, Int.reduceEq, Int.reduceLT, Int.reduceLE, afY, agh, kW, acC g0, acC g1, wz (kX _ _ _), wz (xE _ _ _), wz (kV _ _ _), wz (kZ _ _ _), wz (acs g0), wz (acs g1), wz (ab5 g0), wz (ab5 g1), wz (ab7 g0), wz (ab7 g1), wz (acy g0 ha.ne), wz (acy g1 hb.ne), wz (s1 _), wz (s2 _), wz (s3 _), wz (s4 _), wz (cq _), gvw]
 rw [hTe] at hr
 exact zM.runs hr (.inr rfl) hc rfl
theorem abv {a b : wJ} (ha : a.Ok) (hb : b.Ok) (h : xX a b) (S : zi) : zW Try.prog O 38 [rv a, rv b] S = some (.bool true, S) := by
 obtain ⟨h1, h2, h3, h4, h5⟩ := h
 have := zM.v ha hb S
 simp only [h1, h2, h3, h4, h5, decide_true, Bool.and_self] at this
 exact this
theorem xg.len {a b : List wJ} (h : xg a b) : a.length = b.length := by
 induction h with
 | nil => rfl
 | cons _ _ ih => simp [ih]
theorem xg.refl : ∀ l : List wJ, xg l l
 | [] => .nil
 | x :: l => .cons (xX.refl x) (xg.refl l)
theorem ad9 {k : Nat} {l pre suf : List wJ} {x : wJ} (hk : Okl k l) (hl : l = pre ++ x :: suf) (S : zi) : jh Try.prog 22 (rl k l) (.int .i64 pre.length) S = some (EP [.int .i64 x.kind, .int .i64 x.index, .int .i64 x.view, .int .i64 x.value, by_ x.k x.txt], S) := by
 rw [aeE qB qF aaU hk (by omega) (by rw [hl]; simp; omega), adU hl]; rfl
theorem JO {k : Nat} {l : List wJ} (hk : Okl k l) (S : zi) : qG Try.prog 22 (rl k l) S = some (.int .i64 l.length, S) := aar qB hk
theorem zk.round {k j : Nat} {a b : List wJ} (hk : Okl k a) (hj : Okl j b) (k2 : k ≠ 2) (j2 : j ≠ 2) (ha : ∀ r ∈ a, r.Ok) (hb : ∀ r ∈ b, r.Ok) (hl : a.length ≤ 2000000000000) {S : zi} : ∀ (sa sb pa pb : List wJ) {T : List Value} {r : St}, xg sa sb → yF (zA Try.prog O false zk.jk) T S = r → T.length = 27 →
  T.getD 0 undef = rl k a → T.getD 1 undef = rl j b → T.getD 12 undef = .int .i64 a.length → T.getD 13 undef = .int .i64 pa.length → a = pa ++ sa → b = pb ++ sb → pa.length = pb.length →
  ∃ T', r = some (.exit 0, T', S) ∧ T'.length = 27 := by
 intro sa
 induction sa with
 | nil =>
  intro sb pa pb T r hs hL hT h0 h1 h12 h13 hpa hpb hp
  have hTe := zk.eta hT
  rw [h0, h1, h12, h13] at hTe
  have hr : zA Try.prog O false zk.jk T S = zA Try.prog O false zk.jk T S := rfl
  have d1 : ¬ (pa.length : Int) < (a.length : Int) := by rw [hpa]; simp
  conv at hr =>
   rhs
   rw [hTe]
   simp only [zk.jk, zk.code, zk.rs, zSs, reduceIte, Nat.reduceEqDiff, Int.reduceEq, Int.reduceLT, Int.reduceLE, d1]
  exact ⟨_, hL.symm.trans (jC hr (by simp)), rfl⟩
 | cons x sa ih =>
  intro sb pa pb T r hs hL hT h0 h1 h12 h13 hpa hpb hp
  cases hs with
  | @cons _ y _ sb hxy hs =>
  have hTe := zk.eta hT
  rw [h0, h1, h12, h13] at hTe
  have hr : zA Try.prog O false zk.jk T S = zA Try.prog O false zk.jk T S := rfl
  have hal : a.length = pa.length + sa.length + 1 := by rw [hpa]; simp; omega
  have d1 : (pa.length : Int) < (a.length : Int) := by omega
  have e1 := fun S => ad9 hk hpa S
  have e2 := fun S => ad9 hj hpb S
  rw [← hp] at e2
  have c1 := fun S => abv (ha x (by rw [hpa]; simp)) (hb y (by rw [hpb]; simp)) hxy S
  have wi : IntKind.i64.wrap ((pa.length : Int) + 1) = ((pa ++ [x]).length : Int) := by rw [wrap_i64 (by omega) (by omega)]; simp
  conv at hr =>
   rhs
   rw [hTe]
   simp only [zk.jk, zk.code, zk.rs, zSs, reduceIte, Nat.reduceEqDiff, Int.reduceEq, Int.reduceLT, Int.reduceLE, if_neg k2, if_neg j2, d1, e1, e2, qR, c1, wi]
  exact ih sb (pa ++ [x]) (pb ++ [y]) hs ((wZ hr).symm.trans hL) rfl rfl rfl rfl rfl (by simp [hpa]) (by simp [hpb]) (by simp [hp])
theorem zk.v {k j : Nat} {a b : List wJ} (hk : Okl k a) (hj : Okl j b) (k2 : k ≠ 2) (j2 : j ≠ 2) (ha : ∀ r ∈ a, r.Ok) (hb : ∀ r ∈ b, r.Ok) (hl : a.length ≤ 2000000000000) (hs : xg a b) (S : zi) : zW Try.prog O zk.id [rl k a, rl j b] S = some (.bool true, S) := by
 obtain ⟨T, hTe⟩ : ∃ T, T = (rl k a :: rl j b :: undef :: undef :: undef :: undef :: undef :: undef :: undef :: undef :: undef :: undef :: undef :: undef :: undef :: undef :: undef :: undef :: undef :: undef :: undef :: undef :: undef :: undef :: undef :: undef :: undef :: []) := ⟨_, rfl⟩
 have hr : zA Try.prog O false zk.code T S = zA Try.prog O false zk.code T S := rfl
 have el : (b.length : Int) = (a.length : Int) := by rw [hs.len]
 conv at hr =>
  rhs
  rw [hTe]
  simp only [zk.code, zk.rs, zSs, reduceIte, Nat.reduceEqDiff, Int.reduceEq, Int.reduceLT, Int.reduceLE, if_neg k2, if_neg j2, JO hk, JO hj, el, decide_true, Bool.not_true]
 generalize hL : yF (zA Try.prog O false zk.jk) _ _ = r at hr
 obtain ⟨T', rfl, g1⟩ := zk.round hk hj k2 j2 ha hb hl a b [] [] hs hL rfl rfl rfl rfl rfl rfl rfl rfl
 have hT' := zk.eta g1
 conv at hr =>
  rhs
  rw [hT']
  simp only [zk.code, zk.rs, zSs, reduceIte, Nat.reduceEqDiff, Int.reduceEq, Int.reduceLT, Int.reduceLE]
 rw [hTe] at hr
 exact zk.runs hr (.inr rfl)
def afq (room : Int) (data : List UInt8) (r : wJ) : Int := if jU r then (if roomOf room data.length < (qc r).length then 41 else 0) else 51
theorem zV.v {S : zi} {q : Nat} {data : List UInt8} {sy room : Int} (h : Dk S q data sy room) {r : wJ} (ro : r.Ok) : ∃ S1, zW Try.prog O zV.id [.pointer (some ⟨q, 0, none⟩), rv r] S = some (.int .i64 (afq room data r), S1) ∧ Dk S1 q (if afq room data r = 0 then data ++ qc r else data) sy room ∧ Old q S S1 ∧ ∀ p, q < p → p < S.next → Low S q p → S1.get p = S.get p := by
 obtain ⟨T, hTe⟩ : ∃ T, T = (.pointer (some ⟨q, 0, none⟩) :: rv r :: undef :: undef :: undef :: undef :: undef :: undef :: undef :: undef :: undef :: undef :: undef :: undef :: undef :: undef :: undef :: undef :: []) := ⟨_, rfl⟩
 have hr : zA Try.prog O false zV.code T S = zA Try.prog O false zV.code T S := rfl
 obtain ⟨S2, b1, b2, b3, b4⟩ := aeR r S
 have h2 := h.ext b3
 have o2 : Old q S S2 := fun k hk => b3.2 k (by have := h.lt; omega)
 have c1 := fun S => zC.v ro S
 unfold aeP at c1
 unfold afq
 cases hR : jU r
 ·
  rw [hR] at c1
  conv at hr =>
   rhs
   rw [hTe]
   simp only [zV.code, zV.rs, zSs, reduceIte, Nat.reduceEqDiff, Int.reduceEq, Int.reduceLT, Int.reduceLE, b1, Qo b2 ro.ne, c1]
  rw [hTe] at hr
  refine ⟨_, zV.runs hr (.inr rfl), ?_, o2, fun p _ hp _ => b3.2 p hp⟩
  exact h2
 ·
  rw [hR] at c1
  obtain ⟨S3, c2, h3, o3, w3⟩ := zD.v (k := 1) (b := qc r) h2 Okl.read (by decide) (by have := acu hR; omega)
  conv at hr =>
   rhs
   rw [hTe]
   simp only [zV.code, zV.rs, zSs, reduceIte, Nat.reduceEqDiff, Int.reduceEq, Int.reduceLT, Int.reduceLE, b1, Qo b2 ro.ne, c1, c2]
  rw [hTe] at hr
  refine ⟨_, zV.runs hr (.inr rfl), ?_, o2.trans o3, fun p hqp hp hlow => (w3 p hqp (by omega) (fun r n c rest own e hg => hlow r n c rest own e (by rw [← b3.2 q h.lt]; exact hg))).trans (b3.2 p hp)⟩
  by_cases hq : roomOf room data.length < (qc r).length
  ·
   simp only [if_pos hq] at h3 ⊢
   exact h3
  ·
   simp only [if_neg hq] at h3 ⊢
   exact h3
theorem je.v {S : zi} {q : Nat} {data : List UInt8} {sy room : Int} (h : Dk S q data sy room) : ∃ rs m, Xp data rs m ∧ zW Try.prog O je.id [.pointer (some ⟨q, 0, none⟩)] S = some (rl (if rs = [] then 0 else 2) rs, S) := by
 obtain ⟨T, hTe⟩ : ∃ T, T = (.pointer (some ⟨q, 0, none⟩) :: undef :: undef :: undef :: undef :: undef :: undef :: undef :: undef :: undef :: undef :: undef :: []) := ⟨_, rfl⟩
 have hr : zA Try.prog O false je.code T S = zA Try.prog O false je.code T S := rfl
 have c1 := zy.v h
 obtain ⟨rs, m, hs, c2⟩ := zo.v (k := 1) (l := data) Okl.read (by decide) (by have := h.len; omega)
 refine ⟨rs, m, hs, ?_⟩
 conv at hr =>
  rhs
  rw [hTe]
  simp only [je.code, je.rs, zSs, reduceIte, Nat.reduceEqDiff, Int.reduceEq, Int.reduceLT, Int.reduceLE, c1, c2]
 rw [hTe] at hr
 exact je.runs hr (.inr rfl)
theorem abL : ∀ (want : List wJ) (m : Nat) (rs : List wJ) (n : Nat), (∀ r ∈ want, jU r = true) → Xp ((want.flatMap qc).take m) rs n →
  xg rs (want.take rs.length) ∧ rs.length ≤ want.length ∧ ∀ j, j ≤ want.length → ((want.take j).flatMap qc).length ≤ m → j ≤ rs.length := by
 intro want
 induction want with
 | nil =>
  intro m rs n hw ⟨h1, h2, rest, h3, h4⟩
  cases rs with
  | nil => exact ⟨.nil, by simp, fun j hj _ => hj⟩
  | cons r rs =>
   rw [List.flatMap_nil, List.take_nil, List.flatMap_cons] at h3
   have := congrArg List.length h3
   have := Zu r
   simp at *
   omega
 | cons w want ih =>
  intro m rs n hw ⟨h1, h2, rest, h3, h4⟩
  rw [List.flatMap_cons] at h3
  by_cases hm : m < (qc w).length
  ·
   cases rs with
   | nil =>
    refine ⟨.nil, by simp, fun j hj hl => ?_⟩
    cases j with
    | zero => simp
    | succ j =>
     rw [List.take_succ_cons, List.flatMap_cons, List.length_append] at hl
     omega
   | cons r rs =>
    exfalso
    rw [List.take_append_of_le_length (by omega), List.flatMap_cons, List.append_assoc] at h3
    have e := List.take_append_drop m (qc w)
    rw [h3, List.append_assoc] at e
    obtain ⟨i1, i2⟩ := Xh (h1 r (by simp)).2 (hw w (by simp)) (e.trans (List.append_nil _).symm)
    have e3 := congrArg List.length h3
    rw [List.length_take, List.length_append] at e3
    have e4 : (qc r).length = (qc w).length := by rw [i1.like.2.2]
    omega
  ·
   rw [List.take_append, List.take_of_length_le (by omega)] at h3
   cases rs with
   | nil =>
    rw [List.flatMap_nil, List.nil_append] at h3
    exact absurd h3.symm (h4 w _ (hw w (by simp)))
   | cons r rs =>
    rw [List.flatMap_cons, List.append_assoc] at h3
    obtain ⟨i1, i2⟩ := Xh (h1 r (by simp)).2 (hw w (by simp)) h3.symm
    obtain ⟨j1, j2, j3⟩ := ih (m - (qc w).length) rs _ (fun r hr => hw r (by simp [hr])) ⟨fun r hr => h1 r (by simp [hr]), rfl, rest, i2.symm, h4⟩
    refine ⟨?_, by simp; omega, fun j hj hl => ?_⟩
    ·
     rw [List.length_cons, List.take_succ_cons]; exact .cons i1 j1
    ·
     cases j with
     | zero => simp
     | succ j =>
      rw [List.take_succ_cons, List.flatMap_cons, List.length_append] at hl
      have := j3 j (by simp at hj; omega) (by omega)
      simp; omega
abbrev acA : Ty := .pair (.int .i64) (.pair (.int .i64) (.pair (.int .i64) (.pair (.int .i64) (.pair (.slc 1 (.int .u8)) .unit))))
theorem afA (x : acA.Val) (hg : acA.Good x) : ∃ r : wJ, acA.Z9 x = fR r ∧ r.Ok := by
 obtain ⟨a, b, c, d, t, u⟩ := x
 obtain ⟨h1, h2, h3, h4, h5, _⟩ := hg
 obtain ⟨k, l, p1, p2, p3, p4⟩ := ac1 t h5
 refine ⟨⟨a, b, c, d, k, l⟩, ?_, ⟨p1, p2, p4, Qa h1, Qa h2, Qa h3, Qa h4⟩⟩
 show [Value.int .i64 a] ++ ([Value.int .i64 b] ++ ([Value.int .i64 c] ++ ([Value.int .i64 d] ++ ((Ty.slc 1 (.int .u8)).Z9 t ++ [])))) = _
 rw [p3]; rfl
theorem ad5 (x : (Ty.slc 56 acA).Val) (hg : (Ty.slc 56 acA).Good x) : ∃ k l, Okl k l ∧ k ≠ 2 ∧ (Ty.slc 56 acA).Z9 x = [rl k l] ∧ l.length * 56 ≤ 140737488351232 ∧ ∀ t ∈ l, t.Ok :=
 afo (b := 56) (e := acA) fR wJ.Ok (fun x hx => afA x hx) (fun _ => rfl) x hg
end Go.Proofs.Ytblpnklfimkfoaa
namespace Go.Proofs.Ytblpnklfimkfoaa
open Go.Abs
theorem qH.v : ∃ S1, zW Try.prog O 10 [] zi.empty = some (.bool true, S1) := by
 have h : (qo Try.prog O 40 10 [] zi.empty).map (·.1) = some (.bool true) := by kernel_rfl
 cases hc : qo Try.prog O 40 10 [] zi.empty with
 | none => rw [hc] at h; cases h
 | some r =>
  obtain ⟨v, S1⟩ := r
  rw [hc] at h
  cases h
  exact ⟨S1, abY hc⟩
end Go.Proofs.Ytblpnklfimkfoaa
namespace Go.Proofs.Ytblpnklfimkfoaa
open Go.Abs
namespace journalKeeps
def codes : List (Bool × Ty) := [(false, .slc 56 acA), (false, .int .i64), (false, .int .i64)]
theorem coded : WZ Try.prog 9 [22, 3, 3] = some codes := by kernel_rfl
def pre (want : List wJ) (n : Nat) : Nat := ((want.take n).flatMap qc).length
theorem round {k q : Nat} {l : List wJ} {sync : Int} (hk : Okl k l) (k2 : k ≠ 2) (hl : l.length ≤ 60) (hg : ∀ t ∈ l, t.Ok) : ∀ (suf done : List wJ) {T : List Value} {r : St} {S : zi} {want : List wJ} {safe : Nat}, yF (zA Try.prog O false zh.jk) T S = r → T.length = 67 →
  T.getD 1 undef = .int .i64 sync → T.getD 7 undef = .pointer (some ⟨q, 0, none⟩) → T.getD 8 undef = rl 2 want → T.getD 9 undef = .int .i64 (safe : Nat) → T.getD 20 undef = rl k l → T.getD 21 undef = .int .i64 l.length → T.getD 22 undef = .int .i64 done.length → l = done ++ suf →
  (∀ t ∈ want, t.Ok ∧ jU t = true) → want.length ≤ done.length → safe ≤ want.length → Dk S q (want.flatMap qc) (pre want safe : Nat) 60000 →
  ∃ T' S' want' safe', r = some (.exit 0, T', S') ∧ T'.length = 67 ∧ T'.getD 2 undef = T.getD 2 undef ∧ T'.getD 7 undef = .pointer (some ⟨q, 0, none⟩) ∧ T'.getD 8 undef = rl 2 want' ∧ T'.getD 9 undef = .int .i64 (safe' : Nat) ∧
   (∀ t ∈ want', t.Ok ∧ jU t = true) ∧ want'.length ≤ 60 ∧ safe' ≤ want'.length ∧ Dk S' q (want'.flatMap qc) (pre want' safe' : Nat) 60000 := by
 intro suf
 induction suf with
 | nil =>
  intro done T r S want safe hL hT h1 h7 h8 h9 h20 h21 h22 hpre hw hwl hs hD
  have hTe := zh.eta hT
  rw [h1, h7, h8, h9, h20, h21, h22] at hTe
  have hr : zA Try.prog O false zh.jk T S = zA Try.prog O false zh.jk T S := rfl
  have d1 : ¬ (done.length : Int) < (l.length : Int) := by rw [hpre]; simp
  conv at hr =>
   rhs
   rw [hTe]
   simp only [zh.jk, zh.code, zh.rs, zSs, reduceIte, Nat.reduceEqDiff, Int.reduceEq, Int.reduceLT, Int.reduceLE, d1]
  exact ⟨_, _, want, safe, hL.symm.trans (jC hr (by simp)), rfl, rfl, rfl, rfl, rfl, hw, by rw [hpre] at hl; simp at hl; omega, hs, hD⟩
 | cons x suf ih =>
  intro done T r S want safe hL hT h1 h7 h8 h9 h20 h21 h22 hpre hw hwl hs hD
  have hTe := zh.eta hT
  rw [h1, h7, h8, h9, h20, h21, h22] at hTe
  have hr : zA Try.prog O false zh.jk T S = zA Try.prog O false zh.jk T S := rfl
  have hll : l.length = done.length + suf.length + 1 := by rw [hpre]; simp; omega
  have d1 : (done.length : Int) < (l.length : Int) := by omega
  have xo := hg x (by rw [hpre]; simp)
  have e1 := fun S => ad9 hk hpre S
  have wi : IntKind.i64.wrap ((done.length : Int) + 1) = ((done ++ [x]).length : Int) := by rw [wrap_i64 (by omega) (by omega)]; simp
  obtain ⟨S2, b1, b2, b3, b4⟩ := aaB x S
  obtain ⟨S3, c1, hD3, o3, w3⟩ := zV.v (hD.ext b3) xo
  have g3 : S3.get S.next = some (.cells (fR x) (.own []) 0) := by
   rw [w3 S.next hD.lt b4 (hD.low b3), b2]
  have go : ∀ {T1 : List Value} {S4 : zi} {want1 : List wJ} {safe1 : Nat}, zA Try.prog O false zh.jk T S = some (.normal, T1, S4) → T1.length = 67 → T1.getD 1 undef = .int .i64 sync → T1.getD 2 undef = T.getD 2 undef → T1.getD 7 undef = .pointer (some ⟨q, 0, none⟩) → T1.getD 8 undef = rl 2 want1 → T1.getD 9 undef = .int .i64 (safe1 : Nat) → T1.getD 20 undef = rl k l → T1.getD 21 undef = .int .i64 l.length → T1.getD 22 undef = .int .i64 (done ++ [x]).length →
    (∀ t ∈ want1, t.Ok ∧ jU t = true) → want1.length ≤ done.length + 1 → safe1 ≤ want1.length → Dk S4 q (want1.flatMap qc) (pre want1 safe1 : Nat) 60000 →
    ∃ T' S' want' safe', r = some (.exit 0, T', S') ∧ T'.length = 67 ∧ T'.getD 2 undef = T.getD 2 undef ∧ T'.getD 7 undef = .pointer (some ⟨q, 0, none⟩) ∧ T'.getD 8 undef = rl 2 want' ∧ T'.getD 9 undef = .int .i64 (safe' : Nat) ∧
     (∀ t ∈ want', t.Ok ∧ jU t = true) ∧ want'.length ≤ 60 ∧ safe' ≤ want'.length ∧ Dk S' q (want'.flatMap qc) (pre want' safe' : Nat) 60000 := by
   intro T1 S4 want1 safe1 hr f1 f2 f3 f4 f5 f6 f7 f8 f9 p1 p2 p3 p4
   obtain ⟨T', S', w', s', q1, q2, q3, q4⟩ := ih (done ++ [x]) ((wZ hr).symm.trans hL) f1 f2 f4 f5 f6 f7 f8 f9 (by simp [hpre]) p1 (by simp; omega) p3 p4
   exact ⟨T', S', w', s', q1, q2, q3.trans f3, q4⟩
  have lw : ∀ (w : List wJ) S, qG Try.prog 22 (rl 1 w) S = some (.int .i64 w.length, S) := fun w S => JO Okl.read S
  have full : ∀ w : List wJ, pre w w.length = (w.flatMap qc).length := fun w => by rw [pre, List.take_length]
  by_cases hq : afq 60000 (want.flatMap qc) x = 0
  ·
   have dq := decide_eq_true hq
   rw [if_pos hq] at hD3
   have hR : jU x = true := by
    unfold afq at hq
    split at hq
    ·
     assumption
    ·
     cases hq
   have ap := fun S => abK (S := S) (r := x) (k := 2) (l := want) Okl.own (by decide) (by omega)
   have hw2 : ∀ t ∈ want ++ [x], t.Ok ∧ jU t = true := fun t ht => by
    rcases List.mem_append.1 ht with ht | ht
    ·
     exact hw t ht
    ·
     rw [List.mem_singleton.1 ht]; exact ⟨xo, hR⟩
   have ef : (want ++ [x]).flatMap qc = want.flatMap qc ++ qc x := by simp
   rw [← ef] at hD3
   by_cases hs2 : (done.length : Int) = sync
   ·
    obtain ⟨v, S4, c2, hD4, o4⟩ := zZ.v hD3
    have d2 := decide_eq_true hs2
    conv at hr =>
     rhs
     rw [hTe]
     simp only [zh.jk, zh.code, zh.rs, zSs, reduceIte, Nat.reduceEqDiff, Int.reduceEq, Int.reduceLT, Int.reduceLE, d1, e1, qR, ad3, b1, Qo b2 xo.ne, c1, dq, Qo g3 xo.ne, KL, ap, d2, c2, lw, wi]
    exact go (want1 := want ++ [x]) (safe1 := (want ++ [x]).length) hr rfl rfl rfl rfl rfl rfl rfl rfl rfl hw2 (by simp; omega) (Nat.le_refl _) (by rw [full]; exact hD4)
   ·
    have d2 := decide_eq_false hs2
    conv at hr =>
     rhs
     rw [hTe]
     simp only [zh.jk, zh.code, zh.rs, zSs, reduceIte, Nat.reduceEqDiff, Int.reduceEq, Int.reduceLT, Int.reduceLE, d1, e1, qR, ad3, b1, Qo b2 xo.ne, c1, dq, Qo g3 xo.ne, KL, ap, d2, wi]
    refine go (want1 := want ++ [x]) (safe1 := safe) hr rfl rfl rfl rfl rfl rfl rfl rfl rfl hw2 (by simp; omega) (by simp; omega) ?_
    have : pre (want ++ [x]) safe = pre want safe := by unfold pre; rw [List.take_append_of_le_length hs]
    rw [this]
    exact hD3
  ·
   have dq := decide_eq_false hq
   rw [if_neg hq] at hD3
   by_cases hs2 : (done.length : Int) = sync
   ·
    obtain ⟨v, S4, c2, hD4, o4⟩ := zZ.v hD3
    have d2 := decide_eq_true hs2
    conv at hr =>
     rhs
     rw [hTe]
     simp only [zh.jk, zh.code, zh.rs, zSs, reduceIte, Nat.reduceEqDiff, Int.reduceEq, Int.reduceLT, Int.reduceLE, d1, e1, qR, ad3, b1, Qo b2 xo.ne, c1, dq, d2, c2, lw, wi]
    exact go (want1 := want) (safe1 := want.length) hr rfl rfl rfl rfl rfl rfl rfl rfl rfl hw (by omega) (Nat.le_refl _) (by rw [full]; exact hD4)
   ·
    have d2 := decide_eq_false hs2
    conv at hr =>
     rhs
     rw [hTe]
     simp only [zh.jk, zh.code, zh.rs, zSs, reduceIte, Nat.reduceEqDiff, Int.reduceEq, Int.reduceLT, Int.reduceLE, d1, e1, qR, ad3, b1, Qo b2 xo.ne, c1, dq, d2, wi]
    exact go (want1 := want) (safe1 := safe) hr rfl rfl rfl rfl rfl rfl rfl rfl rfl hw (by omega) hs hD3
theorem run {k : Nat} {l : List wJ} {sync keep : Int} (hk : Okl k l) (k2 : k ≠ 2) (hg : ∀ t ∈ l, t.Ok) (hkp : -9223372036854775808 ≤ keep ∧ keep < 9223372036854775808) : ∃ S', zW Try.prog O 6 [rl k l, .int .i64 sync, .int .i64 keep] zi.empty = some (.bool true, S') := by
 obtain ⟨T, hTe⟩ : ∃ T, T = (rl k l :: .int .i64 sync :: .int .i64 keep :: undef :: undef :: undef :: undef :: undef :: undef :: undef :: undef :: undef :: undef :: undef :: undef :: undef :: undef :: undef :: undef :: undef :: undef :: undef :: undef :: undef :: undef :: undef :: undef :: undef :: undef :: undef :: undef :: undef :: undef :: undef :: undef :: undef :: undef :: undef :: undef :: undef :: undef :: undef :: undef :: undef :: undef :: undef :: undef :: undef :: undef :: undef :: undef :: undef :: undef :: undef :: undef :: undef :: undef :: undef :: undef :: undef :: undef :: undef :: undef :: undef :: undef :: undef :: undef :: []) := ⟨_, rfl⟩
 have hr : zA Try.prog O false zh.code T zi.empty = zA Try.prog O false zh.code T zi.empty := rfl
 obtain ⟨S1, c0⟩ := qH.v
 obtain ⟨S2, c1, hD, _⟩ := jB.v (r := 60000) S1
 by_cases h1 : (60 : Int) < (l.length : Int)
 ·
  conv at hr =>
   rhs
   rw [hTe]
   simp only [zh.code, zh.rs, zSs, reduceIte, Nat.reduceEqDiff, Int.reduceEq, Int.reduceLT, Int.reduceLE, c0, if_neg k2, JO hk, h1]
  rw [hTe] at hr
  exact ⟨_, zh.runs hr (.inr rfl)⟩
 ·
  have rl0 : ∀ S, jr Try.prog 22 0 [] S = some (rl 2 [], S) := fun S => by rw [J9]; rfl
  conv at hr =>
   rhs
   rw [hTe]
   simp only [zh.code, zh.rs, zSs, reduceIte, Nat.reduceEqDiff, Int.reduceEq, Int.reduceLT, Int.reduceLE, c0, if_neg k2, JO hk, h1, c1, rl0]
  generalize hL : yF (zA Try.prog O false zh.jk) _ _ = r at hr
  obtain ⟨T', S', want, safe, rfl, g1, g2, g3, g4, g5, g6, g7, g8, g9⟩ := round hk k2 (by omega) hg l [] (want := []) (safe := 0) hL rfl rfl rfl rfl rfl rfl rfl rfl rfl (fun t ht => by cases ht) (Nat.le_refl _) (Nat.le_refl _) hD
  have g2 : T'.getD 2 undef = .int .i64 keep := g2
  have hT' := zh.eta g1
  rw [g2, g3, g4, g5] at hT'
  obtain ⟨v, S3, c2, hD3, _⟩ := zH.v (keep := keep) g9 hkp
  obtain ⟨rs, m, hs, c3⟩ := je.v hD3
  have b1 := g9.sy0; have b2 := g9.syl
  obtain ⟨i1, i2, i3⟩ := abL want _ rs m (fun t ht => (g6 t ht).2) hs
  have i4 := i3 safe g8 (by
   have : pre want safe = ((want.take safe).flatMap qc).length := rfl
   rw [← this]; omega)
  have hk0 : Okl (if rs = [] then 0 else 2) rs := ⟨by split <;> omega, fun h => by split at h <;> first | assumption | omega⟩
  generalize (if rs = [] then 0 else 2) = k0 at c3 hk0
  have e1 : decide ((safe : Int) ≤ (rs.length : Int)) = true := decide_eq_true (by omega)
  have e2 : decide ((rs.length : Int) ≤ (want.length : Int)) = true := decide_eq_true (by omega)
  have sl : ∀ S, yV Try.prog 22 (rl 1 want) none (some (.int .i64 rs.length)) S = some (rl 1 (want.take rs.length), S) := fun S => by
   rw [XA qB qF aaU (Okl.read (l := want)) (i := 0) (j := rs.length) rfl rfl (by omega) (by omega) (by omega)]
   simp
  have c4 := fun S => zk.v hk0.dem (Okl.read (l := want.take rs.length)) (aea _) (by decide) (fun t ht => (hs.1 t ht).1) (fun t ht => (g6 t (List.mem_of_mem_take ht)).1) (by omega) i1 S
  conv at hr =>
   rhs
   rw [hT']
   simp only [zh.code, zh.rs, zSs, reduceIte, Nat.reduceEqDiff, Int.reduceEq, Int.reduceLT, Int.reduceLE, c2, c3, afW, JO hk0.dem, e1, JO (Okl.read (l := want)), e2, sl, c4]
  rw [hTe] at hr
  exact ⟨_, zh.runs hr (.inr rfl)⟩
theorem law (x : Args codes) (h : Args.Good codes x) : ∃ k, (qX Try.prog k 6 (Args.place codes x zi.empty).1 (Args.place codes x zi.empty).2).map (·.1) = some (.bool true) := by
 obtain ⟨a, b, c, u⟩ := x
 obtain ⟨h1, h2, h3, _⟩ := h
 obtain ⟨k, l, p1, p2, p3, p4, p5⟩ := ad5 a h1
 obtain ⟨S', e⟩ := run (sync := b) p1 p2 p5 (Qa h3)
 refine Ko afV (S' := S') ?_
 have e2 : Args.Z9 codes (a, b, c, u) = [rl k l, .int .i64 b, .int .i64 c] := by
  show [kR false ((Ty.slc 56 acA).Z9 a), kR false [.int .i64 b], kR false [.int .i64 c]] = _
  rw [p3]; rfl
 rw [e2]
 exact e
end journalKeeps
end Go.Proofs.Ytblpnklfimkfoaa
namespace Go.Proofs.Ytblpnklfimkfoaa.journalKeeps
open Go.ChangeShapes Go.WideShapes Go.ChangeAt Go.RowKit Go.Abs
theorem own : ownKnob Try.prog.godebug = none := by kernel_rfl
theorem laidOut : laidOutB Try.prog = true := by kernel_rfl
theorem mixes : Try.prog.follows .mixedOrders = true := by kernel_rfl
set_option maxRecDepth 100000 in
theorem lifted (os : Os) (started : os.Started) (H : Type) (enc : TypeId × Value → H) :
  ReturnsInHanded {} Try.checked os 6 .any (Rows.journalKeepsSpec.pre6 enc Try.prog Try.f6 Rows.journalKeepsRow.domain false) (Rows.journalKeepsSpec.post enc Try.prog Try.f6 false true false false) := by
 refine returnsInHanded_of_change_sized (C := Try.checked) own started (by kernel_rfl) Try.func6
  (ChangeSpec.witness6 (enc := enc) (C := Try.checked) false ⟨#[], #[.slice none 0 0, .int .i64 0, .int .i64 0], []⟩ 8 (by kernel_rfl) (by kernel_rfl) (by kernel_rfl) (by kernel_rfl)) ?_
 intro W base args ds gs before hval0 hW hcnd hsz0 _
 have hW' := hW
 obtain ⟨p, q, hA0, hV, rfl, hfz, hnd⟩ := hW
 obtain ⟨rfl, rfl⟩ := trodVars_none hV
 have hsz1 : (DataW.weightsEach Try.prog (Try.f6.params.toList ++ Rows.journalKeepsSpec.plain.varTypes Try.prog) (ds ++ [])).all (· ≤ reachBytes) = true := hsz0
 have hval : ∀ (j : Nat) t v, Try.f6.params[j]? = some t → args[j]? = some v → Value.okWide Try.prog W .any base t v := hval0
 have hA1 : DataW.TrodAll enc Try.prog W 0 (fun _ => true) true Try.f6.params.toList args.toList ds p := hA0
 rw [Try.params6] at hA1 hsz1 hval
 have hA : DataW.TrodAll enc Try.prog W 0 (fun _ => true) true [22, 3, 3] args.toList ds p := hA1
 have hsz : (DataW.weightsEach Try.prog [22, 3, 3] ds).all (· ≤ reachBytes) = true := by rw [List.append_nil ds] at hsz1; exact hsz1
 clear hA0 hA1 hval0 hsz0 hsz1
 have r := hA
 obtain ⟨v0, vs0, d0, ds0, p0, q0, hargs0, rfl, hp0, h0, r0⟩ := trodAll_cons r
 obtain ⟨v1, vs1, d1, ds1, p1, q1, hargs1, rfl, hp1, h1, r1⟩ := trodAll_cons r0
 obtain ⟨v2, vs2, d2, ds2, p2, q2, hargs2, rfl, hp2, h2, r2⟩ := trodAll_cons r1
 obtain ⟨_, rfl, _⟩ := trodAll_nil r2
 refine (aam mixes coded law hA (fun j t v h1 h2 => hval j t v (by rw [List.getElem?_toArray]; exact h1) h2) hsz).mono fun e W' ⟨he, bel⟩ => ?_
 subst he
 exact ⟨_, rfl, _, _, _, [], _, [], hW', trodAll_mk1 (shut_bool (by kernel_rfl) _), acJ laidOut bel _ _ _ _ (by kernel_rfl) hA, rfl, bel.frame _, fun h => by cases h⟩
theorem over : Rows.journalKeepsRow.holds Try.pinned (OpenSpec.ofChange Rows.journalKeepsSpec) :=
 OpenClaim.holds_of_wide 6 Try.f6 rfl rfl rfl rfl rfl rfl rfl ⟨rfl, rfl, rfl, rfl, rfl⟩ rfl rfl rfl rfl rfl (by kernel_rfl) Try.func6 (by kernel_rfl)
  (of_decide_eq_true (by kernel_rfl)) (by unfold Func.isWrapper; first | (rw [if_pos (by decide +kernel)]; kernel_rfl) | (rw [if_neg (by decide +kernel)]; exact ⟨rfl, rfl⟩))
  (fun os started H enc _ => lifted os started H enc)
theorem proved : Rows.JournalKeepsSaid := over
end Go.Proofs.Ytblpnklfimkfoaa.journalKeeps
namespace Go.Proofs.Ytblpnklfimkfoaa
theorem journalKeeps_holds : Rows.JournalKeepsSaid := journalKeeps.proved
#print axioms journalKeeps_holds
end Go.Proofs.Ytblpnklfimkfoaa
