/-
The law MsgMarks returns true for every input, and leaves it as it was; no condition. Part 5 of 6 of the texts (put together by a program: own names are short, what isn't needed is left out).
-/
import Derived.Test.YtbgcphbbchndkaaZMsgMarks4
import Derived.Test.YtbgcphbbchndkaaChecked
import Derived.KernelRfl
set_option linter.unusedVariables false
set_option linter.unusedSimpArgs false
set_option maxRecDepth 100000
namespace Go.Proofs.Ytbgcphbbchndkaa
open Go.Abs
abbrev jf.id : FuncId := 36
noncomputable def jf.jr : Code := (Code.seq (Code.region 6 (reg Try.f36 6) false) (Code.seq (Code.cond (Operand.tmp 21) Code.skip (Code.exit 2)) (Code.seq (Code.block 3 (Code.seq (Code.region 7 (reg Try.f36 7) false) (Code.region 8 (reg Try.f36 8) false))) (Code.region 9 (reg Try.f36 9) false))))
noncomputable def jf.XQ : Code := (Code.seq (Code.region 3 (reg Try.f36 3) false) (Code.seq (Code.cond (Operand.tmp 15) Code.skip (Code.exit 0)) (Code.seq (Code.block 1 (Code.seq (Code.region 4 (reg Try.f36 4) false) (Code.seq (Code.region 5 (reg Try.f36 5) false) (Code.block 2 (Code.loop jf.jr))))) (Code.region 10 (reg Try.f36 10) false))))
noncomputable def jf.code : Code := (Code.seq (Code.region 0 (reg Try.f36 0) false) (Code.seq (Code.region 1 (reg Try.f36 1) false) (Code.seq (Code.seq (Code.region 2 (reg Try.f36 2) false) (Code.block 0 (Code.loop jf.XQ))) (Code.seq (Code.region 11 (reg Try.f36 11) false) Code.ret))))
theorem jf.body : Try.f36.body = some jf.code := by kernel_rfl
theorem jf.eta {T : List Value} (h : T.length = 35) : T = [T.getD 0 undef,T.getD 1 undef,T.getD 2 undef,T.getD 3 undef,T.getD 4 undef,T.getD 5 undef,T.getD 6 undef,T.getD 7 undef,T.getD 8 undef,T.getD 9 undef,T.getD 10 undef,T.getD 11 undef,T.getD 12 undef,T.getD 13 undef,T.getD 14 undef,T.getD 15 undef,T.getD 16 undef,T.getD 17 undef,T.getD 18 undef,T.getD 19 undef,T.getD 20 undef,T.getD 21 undef,T.getD 22 undef,T.getD 23 undef,T.getD 24 undef,T.getD 25 undef,T.getD 26 undef,T.getD 27 undef,T.getD 28 undef,T.getD 29 undef,T.getD 30 undef,T.getD 31 undef,T.getD 32 undef,T.getD 33 undef,T.getD 34 undef] := (qH T 35 h).trans (by kernel_rfl)
variable (C D I J M E K G L H j k d f b l m n g i c o p q r s t u v w x y z A B : Value) (S : zh)
theorem jf.r0  : jc Try.prog ⟨false, false, false⟩ (zM Try.prog O) (reg Try.f36 0) (reg Try.f36 0).toList ([C,D,I,J,M,E,K,G,L,H,j,k,d,f,b,l,m,n,g,i,c,o,p,q,r,s,t,u,v,w,x,y,z,A,B]) S =
  ( some ([C,D,I,J,Value.int IntKind.u64 0,E,K,G,L,H,j,k,d,f,b,l,m,n,g,i,c,o,p,q,r,s,t,u,v,w,x,y,z,A,B], S)) := by
 kernel_rfl
theorem jf.r1  : jc Try.prog ⟨false, false, false⟩ (zM Try.prog O) (reg Try.f36 1) (reg Try.f36 1).toList ([C,D,I,J,M,E,K,G,L,H,j,k,d,f,b,l,m,n,g,i,c,o,p,q,r,s,t,u,v,w,x,y,z,A,B]) S =
  (zB (jT Try.prog BinOp.xor 42 (dem C) (Value.int IntKind.u64 14695981039346656037) S) (fun P F => some ([C,D,I,J,M,P,K,G,L,H,dem C,dem P,d,f,b,l,m,n,g,i,c,o,p,q,r,s,t,u,v,w,x,y,z,A,B], F)) ()) := by
 kernel_rfl
theorem jf.r2  : jc Try.prog ⟨false, false, false⟩ (zM Try.prog O) (reg Try.f36 2) (reg Try.f36 2).toList ([C,D,I,J,M,E,K,G,L,H,j,k,d,f,b,l,m,n,g,i,c,o,p,q,r,s,t,u,v,w,x,y,z,A,B]) S =
  (zB (ZT Try.prog 88 (dem D) S) (fun P F => some ([C,D,I,J,M,E,K,G,L,H,j,k,dem D,P,Value.int IntKind.i64 0,l,m,n,g,i,c,o,p,q,r,s,t,u,v,w,x,y,z,A,B], F)) ()) := by
 kernel_rfl
theorem jf.r3  : jc Try.prog ⟨false, false, false⟩ (zM Try.prog O) (reg Try.f36 3) (reg Try.f36 3).toList ([C,D,I,J,M,E,K,G,L,H,j,k,d,f,b,l,m,n,g,i,c,o,p,q,r,s,t,u,v,w,x,y,z,A,B]) S =
  (zB (jT Try.prog BinOp.lss 3 b f S) (fun N F => some ([C,D,I,J,M,E,K,G,L,H,j,k,d,f,b,N,m,n,g,i,c,o,p,q,r,s,t,u,v,w,x,y,z,A,B], F)) ()) := by
 kernel_rfl
theorem jf.r4  : jc Try.prog ⟨false, false, false⟩ (zM Try.prog O) (reg Try.f36 4) (reg Try.f36 4).toList ([C,D,I,J,M,E,K,G,L,H,j,k,d,f,b,l,m,n,g,i,c,o,p,q,r,s,t,u,v,w,x,y,z,A,B]) S =
  (zB (zW Try.prog 88 d b S) (fun N F => zB (zS Try.prog false 23 N F) (fun P Q => some ([C,D,I,J,M,E,K,P,L,H,j,k,d,f,b,l,N,dem P,g,i,c,o,p,q,r,s,t,u,v,w,x,y,z,A,B], Q)) ()) ()) := by
 kernel_rfl
theorem jf.r5  : jc Try.prog ⟨false, false, false⟩ (zM Try.prog O) (reg Try.f36 5) (reg Try.f36 5).toList ([C,D,I,J,M,E,K,G,L,H,j,k,d,f,b,l,m,n,g,i,c,o,p,q,r,s,t,u,v,w,x,y,z,A,B]) S =
  (zB (ZT Try.prog 23 (dem G) S) (fun P F => some ([C,D,I,J,M,E,K,G,L,H,j,k,d,f,b,l,m,n,dem G,P,Value.int IntKind.i64 0,o,p,q,r,s,t,u,v,w,x,y,z,A,B], F)) ()) := by
 kernel_rfl
theorem jf.r6  : jc Try.prog ⟨false, false, false⟩ (zM Try.prog O) (reg Try.f36 6) (reg Try.f36 6).toList ([C,D,I,J,M,E,K,G,L,H,j,k,d,f,b,l,m,n,g,i,c,o,p,q,r,s,t,u,v,w,x,y,z,A,B]) S =
  (zB (jT Try.prog BinOp.lss 3 c i S) (fun N F => some ([C,D,I,J,M,E,K,G,L,H,j,k,d,f,b,l,m,n,g,i,c,N,p,q,r,s,t,u,v,w,x,y,z,A,B], F)) ()) := by
 kernel_rfl
theorem jf.r7  : jc Try.prog ⟨false, false, false⟩ (zM Try.prog O) (reg Try.f36 7) (reg Try.f36 7).toList ([C,D,I,J,M,E,K,G,L,H,j,k,d,f,b,l,m,n,g,i,c,o,p,q,r,s,t,u,v,w,x,y,z,A,B]) S =
  (zB (zW Try.prog 23 g c S) (fun N F => zB (zS Try.prog false 5 N F) (fun P Q => some ([C,D,I,J,M,E,K,G,L,P,j,k,d,f,b,l,m,n,g,i,c,o,N,dem P,r,s,t,u,v,w,x,y,z,A,B], Q)) ()) ()) := by
 kernel_rfl
theorem jf.r8  : jc Try.prog ⟨false, false, false⟩ (zM Try.prog O) (reg Try.f36 8) (reg Try.f36 8).toList ([C,D,I,J,M,E,K,G,L,H,j,k,d,f,b,l,m,n,g,i,c,o,p,q,r,s,t,u,v,w,x,y,z,A,B]) S =
  (zB (y9 Try.prog false false 5 42 (dem H) S) (fun R F => zB (jT Try.prog BinOp.xor 42 (dem E) R F) (fun U Q => zB (jT Try.prog BinOp.mul 42 U (Value.int IntKind.u64 1099511628211) Q) (fun V W => some ([C,D,I,J,M,V,K,G,L,H,j,k,d,f,b,l,m,n,g,i,c,o,p,q,dem E,dem H,R,U,dem V,w,x,y,z,A,B], W)) ()) ()) ()) := by
 kernel_rfl
theorem jf.r9  : jc Try.prog ⟨false, false, false⟩ (zM Try.prog O) (reg Try.f36 9) (reg Try.f36 9).toList ([C,D,I,J,M,E,K,G,L,H,j,k,d,f,b,l,m,n,g,i,c,o,p,q,r,s,t,u,v,w,x,y,z,A,B]) S =
  (zB (jT Try.prog BinOp.add 3 c (Value.int IntKind.i64 1) S) (fun N F => some ([C,D,I,J,M,E,K,G,L,H,j,k,d,f,b,l,m,n,g,i,dem N,o,p,q,r,s,t,u,v,N,x,y,z,A,B], F)) ()) := by
 kernel_rfl
theorem jf.r10  : jc Try.prog ⟨false, false, false⟩ (zM Try.prog O) (reg Try.f36 10) (reg Try.f36 10).toList ([C,D,I,J,M,E,K,G,L,H,j,k,d,f,b,l,m,n,g,i,c,o,p,q,r,s,t,u,v,w,x,y,z,A,B]) S =
  (zB (jT Try.prog BinOp.add 3 b (Value.int IntKind.i64 1) S) (fun N F => some ([C,D,I,J,M,E,K,G,L,H,j,k,d,f,dem N,l,m,n,g,i,c,o,p,q,r,s,t,u,v,w,N,y,z,A,B], F)) ()) := by
 kernel_rfl
theorem jf.r11  : jc Try.prog ⟨false, false, false⟩ (zM Try.prog O) (reg Try.f36 11) (reg Try.f36 11).toList ([C,D,I,J,M,E,K,G,L,H,j,k,d,f,b,l,m,n,g,i,c,o,p,q,r,s,t,u,v,w,x,y,z,A,B]) S =
  (zB (jT Try.prog BinOp.shr 42 (dem E) (Value.int IntKind.u64 29) S) (fun R F => zB (jT Try.prog BinOp.xor 42 (dem E) R F) (fun U Q => some ([C,D,I,J,U,E,K,G,L,H,j,k,d,f,b,l,m,n,g,i,c,o,p,q,r,s,t,u,v,w,x,dem E,dem E,R,dem U], Q)) ()) ()) := by
 kernel_rfl
theorem jf.rs : type_of% (And.intro @jf.r0 (And.intro @jf.r1 (And.intro @jf.r2 (And.intro @jf.r3 (And.intro @jf.r4 (And.intro @jf.r5 (And.intro @jf.r6 (And.intro @jf.r7 (And.intro @jf.r8 (And.intro @jf.r9 (And.intro @jf.r10 (@jf.r11)))))))))))) := And.intro @jf.r0 (And.intro @jf.r1 (And.intro @jf.r2 (And.intro @jf.r3 (And.intro @jf.r4 (And.intro @jf.r5 (And.intro @jf.r6 (And.intro @jf.r7 (And.intro @jf.r8 (And.intro @jf.r9 (And.intro @jf.r10 (@jf.r11)))))))))))
theorem jf.runs {C D : Value} {S F : zh} {e : AEx} {T : List Value} (h : zu Try.prog O false jf.code ([C,D,undef,undef,undef,undef,undef,undef,undef,undef,undef,undef,undef,undef,undef,undef,undef,undef,undef,undef,undef,undef,undef,undef,undef,undef,undef,undef,undef,undef,undef,undef,undef,undef,undef]) S = some (e, T, F)) (he : e = .normal ∨ e = .ret) : zM Try.prog O 36 [C, D] S = some (T.getD 4 undef, F) :=
 yI rfl rfl Try.func36 (by decide) jf.body (by exact h) he (yE (a := T.getD 4 undef) ((show zD Try.prog T F Try.f36.results.toList = zD Try.prog T F [(ResultVar.tmp 4)] from by kernel_rfl).trans (by simp only [zD])) (by kernel_rfl))
end Go.Proofs.Ytbgcphbbchndkaa
namespace Go.Proofs.Ytbgcphbbchndkaa
open Go.Abs
abbrev wI.id : FuncId := 26
noncomputable def wI.code : Code := (Code.seq (Code.region 0 (reg Try.f26 0) false) (Code.seq (Code.region 1 (reg Try.f26 1) false) Code.ret))
theorem wI.body : Try.f26.body = some wI.code := by kernel_rfl
variable (b c d k l m q n o p g i j : Value) (S : zh)
theorem wI.r0  : jc Try.prog ⟨false, false, false⟩ (zM Try.prog O) (reg Try.f26 0) (reg Try.f26 0).toList ([b,c,d,k,l,m,q,n,o,p,g,i,j]) S =
  ( some ([b,c,d,k,l,m,Value.bool false,n,o,p,g,i,j], S)) := by
 kernel_rfl
theorem wI.r1  : jc Try.prog ⟨false, false, false⟩ (zM Try.prog O) (reg Try.f26 1) (reg Try.f26 1).toList ([b,c,d,k,l,m,q,n,o,p,g,i,j]) S =
  (zB (jy Try.prog 88 1 [(0, (dem d))] S) (fun r f => zB ((zM Try.prog O) 36 [(dem (dem b)), (dem r)] f) (fun s u => zB (jT Try.prog BinOp.eql 42 s (dem c) u) (fun t v => some ([b,c,d,k,l,m,t,dem b,dem d,r,s,dem c,dem t], v)) ()) ()) ()) := by
 kernel_rfl
theorem wI.rs : type_of% (And.intro @wI.r0 (@wI.r1)) := And.intro @wI.r0 (@wI.r1)
theorem wI.runs {b c d : Value} {S f : zh} {e : AEx} {T : List Value} (h : zu Try.prog O false wI.code ([b,c,d,undef,undef,undef,undef,undef,undef,undef,undef,undef,undef]) S = some (e, T, f)) (he : e = .normal ∨ e = .ret) : zM Try.prog O 26 [b, c, d] S = some (T.getD 6 undef, f) :=
 yI rfl rfl Try.func26 (by decide) wI.body (by exact h) he (yE (a := T.getD 6 undef) ((show zD Try.prog T f Try.f26.results.toList = zD Try.prog T f [(ResultVar.tmp 6)] from by kernel_rfl).trans (by simp only [zD])) (by kernel_rfl))
end Go.Proofs.Ytbgcphbbchndkaa
namespace Go.Proofs.Ytbgcphbbchndkaa
open Go.Abs
abbrev zn.id : FuncId := 51
noncomputable def zn.jr : Code := (Code.seq (Code.region 6 (reg Try.f51 6) false) (Code.seq (Code.cond (Operand.tmp 22) Code.skip (Code.exit 0)) (Code.seq (Code.block 1 (Code.seq (Code.region 7 (reg Try.f51 7) false) (Code.seq (Code.seq (Code.region 8 (reg Try.f51 8) false) (Code.cond (Operand.tmp 34) (Code.seq (Code.region 9 (reg Try.f51 9) false) Code.ret) Code.skip)) (Code.seq (Code.region 10 (reg Try.f51 10) false) (Code.region 11 (reg Try.f51 11) false))))) (Code.region 12 (reg Try.f51 12) false))))
noncomputable def zn.code : Code := (Code.seq (Code.region 0 (reg Try.f51 0) false) (Code.seq (Code.seq (Code.region 1 (reg Try.f51 1) false) (Code.cond (Operand.tmp 17) (Code.seq (Code.region 2 (reg Try.f51 2) false) Code.ret) Code.skip)) (Code.seq (Code.region 3 (reg Try.f51 3) false) (Code.seq (Code.region 4 (reg Try.f51 4) false) (Code.seq (Code.seq (Code.region 5 (reg Try.f51 5) false) (Code.block 0 (Code.loop zn.jr))) (Code.seq (Code.region 13 (reg Try.f51 13) false) Code.ret))))))
theorem zn.body : Try.f51.body = some zn.code := by kernel_rfl
theorem zn.eta {T : List Value} (h : T.length = 45) : T = [T.getD 0 undef,T.getD 1 undef,T.getD 2 undef,T.getD 3 undef,T.getD 4 undef,T.getD 5 undef,T.getD 6 undef,T.getD 7 undef,T.getD 8 undef,T.getD 9 undef,T.getD 10 undef,T.getD 11 undef,T.getD 12 undef,T.getD 13 undef,T.getD 14 undef,T.getD 15 undef,T.getD 16 undef,T.getD 17 undef,T.getD 18 undef,T.getD 19 undef,T.getD 20 undef,T.getD 21 undef,T.getD 22 undef,T.getD 23 undef,T.getD 24 undef,T.getD 25 undef,T.getD 26 undef,T.getD 27 undef,T.getD 28 undef,T.getD 29 undef,T.getD 30 undef,T.getD 31 undef,T.getD 32 undef,T.getD 33 undef,T.getD 34 undef,T.getD 35 undef,T.getD 36 undef,T.getD 37 undef,T.getD 38 undef,T.getD 39 undef,T.getD 40 undef,T.getD 41 undef,T.getD 42 undef,T.getD 43 undef,T.getD 44 undef] := (qH T 45 h).trans (by kernel_rfl)
variable (P N V W X Y Z Q R U b a f g i k l m n o c d p q r s t u w x y z A B C D E F G H I J K L M : Value) (S : zh)
theorem zn.r0  : jc Try.prog ⟨false, false, false⟩ (zM Try.prog O) (reg Try.f51 0) (reg Try.f51 0).toList ([P,N,V,W,X,Y,Z,Q,R,U,b,a,f,g,i,k,l,m,n,o,c,d,p,q,r,s,t,u,w,x,y,z,A,B,C,D,E,F,G,H,I,J,K,L,M]) S =
  ( some ([P,N,V,W,Value.slice none 0 0,Value.slice none 0 0,Value.int IntKind.i64 0,Q,R,U,b,a,f,g,i,k,l,m,n,o,c,d,p,q,r,s,t,u,w,x,y,z,A,B,C,D,E,F,G,H,I,J,K,L,M], S)) := by
 kernel_rfl
theorem zn.r1  : jc Try.prog ⟨false, false, false⟩ (zM Try.prog O) (reg Try.f51 1) (reg Try.f51 1).toList ([P,N,V,W,X,Y,Z,Q,R,U,b,a,f,g,i,k,l,m,n,o,c,d,p,q,r,s,t,u,w,x,y,z,A,B,C,D,E,F,G,H,I,J,K,L,M]) S =
  (zB (jT Try.prog BinOp.lss 3 (dem N) (Value.int IntKind.i64 0) S) (fun v1 S1 => gdK (dem v1) false (ret N) S1 (fun v3 S2 => gdK (dem v1) false (jT Try.prog BinOp.gtr 3 (dem v3) (Value.int IntKind.i64 64)) S2 (fun v4 S3 => zB (wR (dem v1) (Value.bool true) v4 S3) (fun v5 S4 => some ([P,N,V,W,X,Y,Z,Q,R,U,b,a,dem N,v1,dem v1,dem v3,v4,v5,n,o,c,d,p,q,r,s,t,u,w,x,y,z,A,B,C,D,E,F,G,H,I,J,K,L,M], S4)) ()) ()) ()) ()) := by
 refine sP Try.f51 1 0 (v := N) ?_
 refine sD Try.f51 1 1 (fun v1 S1 => ?_)
 refine sP Try.f51 1 2 (v := v1) ?_
 refine sG Try.f51 1 3 (j := 2) (fun v3 S2 => ?_)
 refine sG Try.f51 1 4 (j := 2) (fun v4 S3 => ?_)
 refine sD Try.f51 1 5 (fun v5 S4 => ?_)
 kernel_rfl
theorem zn.r2  : jc Try.prog ⟨false, false, false⟩ (zM Try.prog O) (reg Try.f51 2) (reg Try.f51 2).toList ([P,N,V,W,X,Y,Z,Q,R,U,b,a,f,g,i,k,l,m,n,o,c,d,p,q,r,s,t,u,w,x,y,z,A,B,C,D,E,F,G,H,I,J,K,L,M]) S =
  ( some ([P,N,V,W,Value.slice none 0 0,Value.slice none 0 0,Value.int IntKind.i64 11,Q,R,U,b,a,f,g,i,k,l,m,n,o,c,d,p,q,r,s,t,u,w,x,y,z,A,B,C,D,E,F,G,H,I,J,K,L,M], S)) := by
 kernel_rfl
theorem zn.r3  : jc Try.prog ⟨false, false, false⟩ (zM Try.prog O) (reg Try.f51 3) (reg Try.f51 3).toList ([P,N,V,W,X,Y,Z,Q,R,U,b,a,f,g,i,k,l,m,n,o,c,d,p,q,r,s,t,u,w,x,y,z,A,B,C,D,E,F,G,H,I,J,K,L,M]) S =
  (zB ((zM Try.prog O) 50 [(dem (dem P))] S) (fun v1 S1 => some ([P,N,V,W,X,Y,Z,v1,R,U,b,a,f,g,i,k,l,m,dem P,dem v1,c,d,p,q,r,s,t,u,w,x,y,z,A,B,C,D,E,F,G,H,I,J,K,L,M], S1)) ()) := by
 kernel_rfl
theorem zn.r4  : jc Try.prog ⟨false, false, false⟩ (zM Try.prog O) (reg Try.f51 4) (reg Try.f51 4).toList ([P,N,V,W,X,Y,Z,Q,R,U,b,a,f,g,i,k,l,m,n,o,c,d,p,q,r,s,t,u,w,x,y,z,A,B,C,D,E,F,G,H,I,J,K,L,M]) S =
  ( some ([P,N,V,W,X,Y,Z,Q,Value.slice none 0 0,U,b,a,f,g,i,k,l,m,n,o,c,d,p,q,r,s,t,u,w,x,y,z,A,B,C,D,E,F,G,H,I,J,K,L,M], S)) := by
 kernel_rfl
theorem zn.r5  : jc Try.prog ⟨false, false, false⟩ (zM Try.prog O) (reg Try.f51 5) (reg Try.f51 5).toList ([P,N,V,W,X,Y,Z,Q,R,U,b,a,f,g,i,k,l,m,n,o,c,d,p,q,r,s,t,u,w,x,y,z,A,B,C,D,E,F,G,H,I,J,K,L,M]) S =
  ( some ([P,N,V,W,X,Y,Z,Q,R,U,b,a,f,g,i,k,l,m,n,o,dem N,Value.int IntKind.i64 0,p,q,r,s,t,u,w,x,y,z,A,B,C,D,E,F,G,H,I,J,K,L,M], S)) := by
 kernel_rfl
theorem zn.r6  : jc Try.prog ⟨false, false, false⟩ (zM Try.prog O) (reg Try.f51 6) (reg Try.f51 6).toList ([P,N,V,W,X,Y,Z,Q,R,U,b,a,f,g,i,k,l,m,n,o,c,d,p,q,r,s,t,u,w,x,y,z,A,B,C,D,E,F,G,H,I,J,K,L,M]) S =
  (zB (jT Try.prog BinOp.lss 3 d c S) (fun v0 S1 => some ([P,N,V,W,X,Y,Z,Q,R,U,b,a,f,g,i,k,l,m,n,o,c,d,v0,q,r,s,t,u,w,x,y,z,A,B,C,D,E,F,G,H,I,J,K,L,M], S1)) ()) := by
 kernel_rfl
theorem zn.r7  : jc Try.prog ⟨false, false, false⟩ (zM Try.prog O) (reg Try.f51 7) (reg Try.f51 7).toList ([P,N,V,W,X,Y,Z,Q,R,U,b,a,f,g,i,k,l,m,n,o,c,d,p,q,r,s,t,u,w,x,y,z,A,B,C,D,E,F,G,H,I,J,K,L,M]) S =
  (zB ((zM Try.prog O) 24 [(dem (dem Q))] S) (fun v1 S1 => zB (zA v1 0 S1) (fun v3 S2 => zB (zA (zF 0 v1) 1 S2) (fun v4 S3 => zB (zA (zF 1 (zF 0 v1)) 2 S3) (fun v5 S4 => some ([P,N,V,W,X,Y,Z,Q,R,v3,v4,v5,f,g,i,k,l,m,n,o,c,d,p,zF 2 (zF 1 (zF 0 v1)),dem Q,dem v1,dem v3,dem v4,dem v5,x,y,z,A,B,C,D,E,F,G,H,I,J,K,L,M], S4)) ()) ()) ()) ()) := by
 kernel_rfl
theorem zn.r8  : jc Try.prog ⟨false, false, false⟩ (zM Try.prog O) (reg Try.f51 8) (reg Try.f51 8).toList ([P,N,V,W,X,Y,Z,Q,R,U,b,a,f,g,i,k,l,m,n,o,c,d,p,q,r,s,t,u,w,x,y,z,A,B,C,D,E,F,G,H,I,J,K,L,M]) S =
  (zB (jT Try.prog BinOp.neq 31 (dem a) (Value.int IntKind.i64 0) S) (fun v1 S1 => gdK (dem v1) false (ret U) S1 (fun v3 S2 => gdK (dem v1) false (jT Try.prog BinOp.gtr 42 (dem v3) (Value.int IntKind.u64 4611686018427387905)) S2 (fun v4 S3 => zB (wR (dem v1) (Value.bool true) v4 S3) (fun v5 S4 => some ([P,N,V,W,X,Y,Z,Q,R,U,b,a,f,g,i,k,l,m,n,o,c,d,p,q,r,s,t,u,w,dem a,v1,dem v1,dem v3,v4,v5,D,E,F,G,H,I,J,K,L,M], S4)) ()) ()) ()) ()) := by
 refine sP Try.f51 8 0 (v := a) ?_
 refine sD Try.f51 8 1 (fun v1 S1 => ?_)
 refine sP Try.f51 8 2 (v := v1) ?_
 refine sG Try.f51 8 3 (j := 2) (fun v3 S2 => ?_)
 refine sG Try.f51 8 4 (j := 2) (fun v4 S3 => ?_)
 refine sD Try.f51 8 5 (fun v5 S4 => ?_)
 kernel_rfl
theorem zn.r9  : jc Try.prog ⟨false, false, false⟩ (zM Try.prog O) (reg Try.f51 9) (reg Try.f51 9).toList ([P,N,V,W,X,Y,Z,Q,R,U,b,a,f,g,i,k,l,m,n,o,c,d,p,q,r,s,t,u,w,x,y,z,A,B,C,D,E,F,G,H,I,J,K,L,M]) S =
  ( some ([P,N,V,W,Value.slice none 0 0,Value.slice none 0 0,Value.int IntKind.i64 11,Q,R,U,b,a,f,g,i,k,l,m,n,o,c,d,p,q,r,s,t,u,w,x,y,z,A,B,C,D,E,F,G,H,I,J,K,L,M], S)) := by
 kernel_rfl
theorem zn.r10  : jc Try.prog ⟨false, false, false⟩ (zM Try.prog O) (reg Try.f51 10) (reg Try.f51 10).toList ([P,N,V,W,X,Y,Z,Q,R,U,b,a,f,g,i,k,l,m,n,o,c,d,p,q,r,s,t,u,w,x,y,z,A,B,C,D,E,F,G,H,I,J,K,L,M]) S =
  (zB (y9 Try.prog false false 42 3 (dem U) S) (fun v2 S1 => zB (jT Try.prog BinOp.sub 3 v2 (Value.int IntKind.i64 1) S1) (fun v3 S2 => zB (jy Try.prog 57 1 [(0, v3)] S2) (fun v4 S3 => zB (wz Try.prog 57 57 R v4 S3) (fun v5 S4 => some ([P,N,V,W,X,Y,Z,Q,v5,U,b,a,f,g,i,k,l,m,n,o,c,d,p,q,r,s,t,u,w,x,y,z,A,B,C,dem R,dem U,v2,v3,v4,dem v5,J,K,L,M], S4)) ()) ()) ()) ()) := by
 kernel_rfl
theorem zn.r11  : jc Try.prog ⟨false, false, false⟩ (zM Try.prog O) (reg Try.f51 11) (reg Try.f51 11).toList ([P,N,V,W,X,Y,Z,Q,R,U,b,a,f,g,i,k,l,m,n,o,c,d,p,q,r,s,t,u,w,x,y,z,A,B,C,D,E,F,G,H,I,J,K,L,M]) S =
  ( some ([P,N,V,W,X,Y,Z,b,R,U,dem b,a,f,g,i,k,l,m,n,o,c,d,p,q,r,s,t,u,w,x,y,z,A,B,C,D,E,F,G,H,I,dem b,K,L,M], S)) := by
 kernel_rfl
theorem zn.r12  : jc Try.prog ⟨false, false, false⟩ (zM Try.prog O) (reg Try.f51 12) (reg Try.f51 12).toList ([P,N,V,W,X,Y,Z,Q,R,U,b,a,f,g,i,k,l,m,n,o,c,d,p,q,r,s,t,u,w,x,y,z,A,B,C,D,E,F,G,H,I,J,K,L,M]) S =
  (zB (jT Try.prog BinOp.add 3 d (Value.int IntKind.i64 1) S) (fun v0 S1 => some ([P,N,V,W,X,Y,Z,Q,R,U,b,a,f,g,i,k,l,m,n,o,c,dem v0,p,q,r,s,t,u,w,x,y,z,A,B,C,D,E,F,G,H,I,J,v0,L,M], S1)) ()) := by
 kernel_rfl
theorem zn.r13  : jc Try.prog ⟨false, false, false⟩ (zM Try.prog O) (reg Try.f51 13) (reg Try.f51 13).toList ([P,N,V,W,X,Y,Z,Q,R,U,b,a,f,g,i,k,l,m,n,o,c,d,p,q,r,s,t,u,w,x,y,z,A,B,C,D,E,F,G,H,I,J,K,L,M]) S =
  ( some ([P,N,V,W,R,Q,Value.int IntKind.i64 0,dem Q,dem R,U,b,a,f,g,i,k,l,m,n,o,c,d,p,q,r,s,t,u,w,x,y,z,A,B,C,D,E,F,G,H,I,J,K,dem R,dem Q], S)) := by
 kernel_rfl
theorem zn.rs : type_of% (And.intro @zn.r0 (And.intro @zn.r1 (And.intro @zn.r2 (And.intro @zn.r3 (And.intro @zn.r4 (And.intro @zn.r5 (And.intro @zn.r6 (And.intro @zn.r7 (And.intro @zn.r8 (And.intro @zn.r9 (And.intro @zn.r10 (And.intro @zn.r11 (And.intro @zn.r12 (@zn.r13)))))))))))))) := And.intro @zn.r0 (And.intro @zn.r1 (And.intro @zn.r2 (And.intro @zn.r3 (And.intro @zn.r4 (And.intro @zn.r5 (And.intro @zn.r6 (And.intro @zn.r7 (And.intro @zn.r8 (And.intro @zn.r9 (And.intro @zn.r10 (And.intro @zn.r11 (And.intro @zn.r12 (@zn.r13)))))))))))))
theorem zn.runs {P N : Value} {S S1 : zh} {e : AEx} {T : List Value} (h : zu Try.prog O false zn.code ([P,N,undef,undef,undef,undef,undef,undef,undef,undef,undef,undef,undef,undef,undef,undef,undef,undef,undef,undef,undef,undef,undef,undef,undef,undef,undef,undef,undef,undef,undef,undef,undef,undef,undef,undef,undef,undef,undef,undef,undef,undef,undef,undef,undef]) S = some (e, T, S1)) (he : e = .normal ∨ e = .ret)  (h0 : jC (T.getD 4 undef) = true) (h1 : jC (T.getD 5 undef) = true) (h2 : jC (T.getD 6 undef) = true) : zM Try.prog O 51 [P, N] S = some (Value.tuple #[T.getD 4 undef, T.getD 5 undef, T.getD 6 undef], S1) :=
 yI rfl rfl Try.func51 (by decide) zn.body (by exact h) he ((yT ((show zD Try.prog T S1 Try.f51.results.toList = zD Try.prog T S1 [(ResultVar.tmp 4), (ResultVar.tmp 5), (ResultVar.tmp 6)] from by kernel_rfl).trans (by simp only [zD])) (by kernel_rfl) (by simp only [List.all_cons, List.all_nil, h0, h1, h2, Bool.and_true])).trans rfl)
end Go.Proofs.Ytbgcphbbchndkaa
namespace Go.Proofs.Ytbgcphbbchndkaa
open Go.Abs
abbrev zJ.id : FuncId := 32
noncomputable def zJ.jr : Code := (Code.seq (Code.region 5 (reg Try.f32 5) false) (Code.seq (Code.cond (Operand.tmp 13) Code.skip (Code.exit 0)) (Code.seq (Code.block 1 (Code.seq (Code.region 6 (reg Try.f32 6) false) (Code.seq (Code.seq (Code.region 7 (reg Try.f32 7) false) (Code.cond (Operand.tmp 17) (Code.seq (Code.region 8 (reg Try.f32 8) false) Code.ret) Code.skip)) (Code.region 9 (reg Try.f32 9) false)))) (Code.region 10 (reg Try.f32 10) false))))
noncomputable def zJ.code : Code := (Code.seq (Code.region 0 (reg Try.f32 0) false) (Code.seq (Code.seq (Code.region 1 (reg Try.f32 1) false) (Code.cond (Operand.tmp 9) (Code.seq (Code.region 2 (reg Try.f32 2) false) Code.ret) Code.skip)) (Code.seq (Code.region 3 (reg Try.f32 3) false) (Code.seq (Code.seq (Code.region 4 (reg Try.f32 4) false) (Code.block 0 (Code.loop zJ.jr))) (Code.seq (Code.region 11 (reg Try.f32 11) false) Code.ret)))))
theorem zJ.body : Try.f32.body = some zJ.code := by kernel_rfl
theorem zJ.eta {T : List Value} (h : T.length = 26) : T = [T.getD 0 undef,T.getD 1 undef,T.getD 2 undef,T.getD 3 undef,T.getD 4 undef,T.getD 5 undef,T.getD 6 undef,T.getD 7 undef,T.getD 8 undef,T.getD 9 undef,T.getD 10 undef,T.getD 11 undef,T.getD 12 undef,T.getD 13 undef,T.getD 14 undef,T.getD 15 undef,T.getD 16 undef,T.getD 17 undef,T.getD 18 undef,T.getD 19 undef,T.getD 20 undef,T.getD 21 undef,T.getD 22 undef,T.getD 23 undef,T.getD 24 undef,T.getD 25 undef] := (qH T 26 h).trans (by kernel_rfl)
variable (s v A B u w t x y z b c a d f g i j k l m n o p q r : Value) (S : zh)
theorem zJ.r0  : jc Try.prog ⟨false, false, false⟩ (zM Try.prog O) (reg Try.f32 0) (reg Try.f32 0).toList ([s,v,A,B,u,w,t,x,y,z,b,c,a,d,f,g,i,j,k,l,m,n,o,p,q,r]) S =
  ( some ([s,v,Value.slice none 0 0,Value.int IntKind.i64 0,u,w,t,x,y,z,b,c,a,d,f,g,i,j,k,l,m,n,o,p,q,r], S)) := by
 kernel_rfl
theorem zJ.r1  : jc Try.prog ⟨false, false, false⟩ (zM Try.prog O) (reg Try.f32 1) (reg Try.f32 1).toList ([s,v,A,B,u,w,t,x,y,z,b,c,a,d,f,g,i,j,k,l,m,n,o,p,q,r]) S =
  (zB (ZT Try.prog 57 (dem s) S) (fun D C => zB (jT Try.prog BinOp.gtr 3 D (Value.int IntKind.i64 64) C) (fun G F => some ([s,v,A,B,u,w,t,dem s,D,G,b,c,a,d,f,g,i,j,k,l,m,n,o,p,q,r], F)) ()) ()) := by
 kernel_rfl
theorem zJ.r2  : jc Try.prog ⟨false, false, false⟩ (zM Try.prog O) (reg Try.f32 2) (reg Try.f32 2).toList ([s,v,A,B,u,w,t,x,y,z,b,c,a,d,f,g,i,j,k,l,m,n,o,p,q,r]) S =
  ( some ([s,v,Value.slice none 0 0,Value.int IntKind.i64 11,u,w,t,x,y,z,b,c,a,d,f,g,i,j,k,l,m,n,o,p,q,r], S)) := by
 kernel_rfl
theorem zJ.r3  : jc Try.prog ⟨false, false, false⟩ (zM Try.prog O) (reg Try.f32 3) (reg Try.f32 3).toList ([s,v,A,B,u,w,t,x,y,z,b,c,a,d,f,g,i,j,k,l,m,n,o,p,q,r]) S =
  ( some ([s,v,A,B,Value.slice none 0 0,w,t,x,y,z,b,c,a,d,f,g,i,j,k,l,m,n,o,p,q,r], S)) := by
 kernel_rfl
theorem zJ.r4  : jc Try.prog ⟨false, false, false⟩ (zM Try.prog O) (reg Try.f32 4) (reg Try.f32 4).toList ([s,v,A,B,u,w,t,x,y,z,b,c,a,d,f,g,i,j,k,l,m,n,o,p,q,r]) S =
  (zB (ZT Try.prog 57 (dem s) S) (fun D C => some ([s,v,A,B,u,w,t,x,y,z,dem s,D,Value.int IntKind.i64 0,d,f,g,i,j,k,l,m,n,o,p,q,r], C)) ()) := by
 kernel_rfl
theorem zJ.r5  : jc Try.prog ⟨false, false, false⟩ (zM Try.prog O) (reg Try.f32 5) (reg Try.f32 5).toList ([s,v,A,B,u,w,t,x,y,z,b,c,a,d,f,g,i,j,k,l,m,n,o,p,q,r]) S =
  (zB (jT Try.prog BinOp.lss 3 a c S) (fun E C => some ([s,v,A,B,u,w,t,x,y,z,b,c,a,E,f,g,i,j,k,l,m,n,o,p,q,r], C)) ()) := by
 kernel_rfl
theorem zJ.r6  : jc Try.prog ⟨false, false, false⟩ (zM Try.prog O) (reg Try.f32 6) (reg Try.f32 6).toList ([s,v,A,B,u,w,t,x,y,z,b,c,a,d,f,g,i,j,k,l,m,n,o,p,q,r]) S =
  (zB (zW Try.prog 57 b a S) (fun E C => zB (zS Try.prog false 3 E C) (fun D F => some ([s,v,A,B,u,w,D,x,y,z,b,c,a,d,E,dem D,i,j,k,l,m,n,o,p,q,r], F)) ()) ()) := by
 kernel_rfl
theorem zJ.r7  : jc Try.prog ⟨false, false, false⟩ (zM Try.prog O) (reg Try.f32 7) (reg Try.f32 7).toList ([s,v,A,B,u,w,t,x,y,z,b,c,a,d,f,g,i,j,k,l,m,n,o,p,q,r]) S =
  (zB (jT Try.prog BinOp.lss 3 (dem t) (Value.int IntKind.i64 (-1)) S) (fun D C => some ([s,v,A,B,u,w,t,x,y,z,b,c,a,d,f,g,dem t,D,k,l,m,n,o,p,q,r], C)) ()) := by
 kernel_rfl
theorem zJ.r8  : jc Try.prog ⟨false, false, false⟩ (zM Try.prog O) (reg Try.f32 8) (reg Try.f32 8).toList ([s,v,A,B,u,w,t,x,y,z,b,c,a,d,f,g,i,j,k,l,m,n,o,p,q,r]) S =
  ( some ([s,v,Value.slice none 0 0,Value.int IntKind.i64 11,u,w,t,x,y,z,b,c,a,d,f,g,i,j,k,l,m,n,o,p,q,r], S)) := by
 kernel_rfl
theorem zJ.r9  : jc Try.prog ⟨false, false, false⟩ (zM Try.prog O) (reg Try.f32 9) (reg Try.f32 9).toList ([s,v,A,B,u,w,t,x,y,z,b,c,a,d,f,g,i,j,k,l,m,n,o,p,q,r]) S =
  (zB (y9 Try.prog false false 3 42 (dem t) S) (fun G C => zB (jT Try.prog BinOp.add 42 G (Value.int IntKind.u64 1) C) (fun H F => zB ((zM Try.prog O) 35 [(dem H)] F) (fun I K => zB (wz Try.prog 23 23 u I K) (fun J L => some ([s,v,A,B,J,w,t,x,y,z,b,c,a,d,f,g,i,j,dem u,dem t,G,H,I,dem J,q,r], L)) ()) ()) ()) ()) := by
 kernel_rfl
theorem zJ.r10  : jc Try.prog ⟨false, false, false⟩ (zM Try.prog O) (reg Try.f32 10) (reg Try.f32 10).toList ([s,v,A,B,u,w,t,x,y,z,b,c,a,d,f,g,i,j,k,l,m,n,o,p,q,r]) S =
  (zB (jT Try.prog BinOp.add 3 a (Value.int IntKind.i64 1) S) (fun E C => some ([s,v,A,B,u,w,t,x,y,z,b,c,dem E,d,f,g,i,j,k,l,m,n,o,p,E,r], C)) ()) := by
 kernel_rfl
theorem zJ.r11  : jc Try.prog ⟨false, false, false⟩ (zM Try.prog O) (reg Try.f32 11) (reg Try.f32 11).toList ([s,v,A,B,u,w,t,x,y,z,b,c,a,d,f,g,i,j,k,l,m,n,o,p,q,r]) S =
  ( some ([s,v,u,Value.int IntKind.i64 0,dem u,w,t,x,y,z,b,c,a,d,f,g,i,j,k,l,m,n,o,p,q,dem u], S)) := by
 kernel_rfl
theorem zJ.rs : type_of% (And.intro @zJ.r0 (And.intro @zJ.r1 (And.intro @zJ.r2 (And.intro @zJ.r3 (And.intro @zJ.r4 (And.intro @zJ.r5 (And.intro @zJ.r6 (And.intro @zJ.r7 (And.intro @zJ.r8 (And.intro @zJ.r9 (And.intro @zJ.r10 (@zJ.r11)))))))))))) := And.intro @zJ.r0 (And.intro @zJ.r1 (And.intro @zJ.r2 (And.intro @zJ.r3 (And.intro @zJ.r4 (And.intro @zJ.r5 (And.intro @zJ.r6 (And.intro @zJ.r7 (And.intro @zJ.r8 (And.intro @zJ.r9 (And.intro @zJ.r10 (@zJ.r11)))))))))))
theorem zJ.runs {s : Value} {S C : zh} {e : AEx} {T : List Value} (h : zu Try.prog O false zJ.code ([s,undef,undef,undef,undef,undef,undef,undef,undef,undef,undef,undef,undef,undef,undef,undef,undef,undef,undef,undef,undef,undef,undef,undef,undef,undef]) S = some (e, T, C)) (he : e = .normal ∨ e = .ret)  (h0 : jC (T.getD 2 undef) = true) (h1 : jC (T.getD 3 undef) = true) : zM Try.prog O 32 [s] S = some (Value.tuple #[T.getD 2 undef, T.getD 3 undef], C) :=
 yI rfl rfl Try.func32 (by decide) zJ.body (by exact h) he ((yT ((show zD Try.prog T C Try.f32.results.toList = zD Try.prog T C [(ResultVar.tmp 2), (ResultVar.tmp 3)] from by kernel_rfl).trans (by simp only [zD])) (by kernel_rfl) (by simp only [List.all_cons, List.all_nil, h0, h1, Bool.and_true])).trans rfl)
end Go.Proofs.Ytbgcphbbchndkaa
namespace Go.Proofs.Ytbgcphbbchndkaa
open Go.Abs
abbrev zk.id : FuncId := 16
noncomputable def zk.jr : Code := (Code.seq (Code.seq (Code.region 4 (reg Try.f16 4) false) (Code.cond (Operand.tmp 17) Code.skip (Code.exit 0))) (Code.seq (Code.block 1 (Code.seq (Code.region 6 (reg Try.f16 6) false) (Code.seq (Code.seq (Code.region 7 (reg Try.f16 7) false) (Code.cond (Operand.tmp 31) (Code.seq (Code.region 8 (reg Try.f16 8) false) Code.ret) Code.skip)) (Code.seq (Code.region 9 (reg Try.f16 9) false) (Code.seq (Code.region 10 (reg Try.f16 10) false) (Code.seq (Code.region 11 (reg Try.f16 11) false) (Code.cond (Operand.tmp 43) (Code.seq (Code.region 12 (reg Try.f16 12) false) (Code.seq (Code.seq (Code.region 13 (reg Try.f16 13) false) (Code.cond (Operand.tmp 50) (Code.seq (Code.region 14 (reg Try.f16 14) false) Code.ret) Code.skip)) (Code.seq (Code.region 15 (reg Try.f16 15) false) Code.ret))) Code.skip))))))) (Code.region 5 (reg Try.f16 5) false)))
noncomputable def zk.code : Code := (Code.seq (Code.region 0 (reg Try.f16 0) false) (Code.seq (Code.region 1 (reg Try.f16 1) false) (Code.seq (Code.region 2 (reg Try.f16 2) false) (Code.seq (Code.seq (Code.region 3 (reg Try.f16 3) false) (Code.block 0 (Code.loop zk.jr))) (Code.seq (Code.region 16 (reg Try.f16 16) false) Code.ret)))))
theorem zk.body : Try.f16.body = some zk.code := by kernel_rfl
theorem zk.eta {T : List Value} (h : T.length = 58) : T = [T.getD 0 undef,T.getD 1 undef,T.getD 2 undef,T.getD 3 undef,T.getD 4 undef,T.getD 5 undef,T.getD 6 undef,T.getD 7 undef,T.getD 8 undef,T.getD 9 undef,T.getD 10 undef,T.getD 11 undef,T.getD 12 undef,T.getD 13 undef,T.getD 14 undef,T.getD 15 undef,T.getD 16 undef,T.getD 17 undef,T.getD 18 undef,T.getD 19 undef,T.getD 20 undef,T.getD 21 undef,T.getD 22 undef,T.getD 23 undef,T.getD 24 undef,T.getD 25 undef,T.getD 26 undef,T.getD 27 undef,T.getD 28 undef,T.getD 29 undef,T.getD 30 undef,T.getD 31 undef,T.getD 32 undef,T.getD 33 undef,T.getD 34 undef,T.getD 35 undef,T.getD 36 undef,T.getD 37 undef,T.getD 38 undef,T.getD 39 undef,T.getD 40 undef,T.getD 41 undef,T.getD 42 undef,T.getD 43 undef,T.getD 44 undef,T.getD 45 undef,T.getD 46 undef,T.getD 47 undef,T.getD 48 undef,T.getD 49 undef,T.getD 50 undef,T.getD 51 undef,T.getD 52 undef,T.getD 53 undef,T.getD 54 undef,T.getD 55 undef,T.getD 56 undef,T.getD 57 undef] := (qH T 58 h).trans (by kernel_rfl)
theorem zk.list {T : List Value} (h : T.length = 58) : ∃ x0 x1 x2 x3 x4 x5 x6 x7 x8 x9 a b c d f g i k l m n o p q r s t u w x y z A B C D E F G H I J K L M N P Q R U V W X Y Z a0 a1 a2, T = [x0,x1,x2,x3,x4,x5,x6,x7,x8,x9,a,b,c,d,f,g,i,k,l,m,n,o,p,q,r,s,t,u,w,x,y,z,A,B,C,D,E,F,G,H,I,J,K,L,M,N,P,Q,R,U,V,W,X,Y,Z,a0,a1,a2] := ⟨_, _, _, _, _, _, _, _, _, _, _, _, _, _, _, _, _, _, _, _, _, _, _, _, _, _, _, _, _, _, _, _, _, _, _, _, _, _, _, _, _, _, _, _, _, _, _, _, _, _, _, _, _, _, _, _, _, _, zk.eta h⟩
variable (x0 x1 x2 x3 x4 x5 x6 x7 x8 x9 a b c d f g i k l m n o p q r s t u w x y z A B C D E F G H I J K L M N P Q R U V W X Y Z a0 a1 a2 : Value) (S : zh)
theorem zk.r0  : jc Try.prog ⟨false, false, false⟩ (zM Try.prog O) (reg Try.f16 0) (reg Try.f16 0).toList ([x0,x1,x2,x3,x4,x5,x6,x7,x8,x9,a,b,c,d,f,g,i,k,l,m,n,o,p,q,r,s,t,u,w,x,y,z,A,B,C,D,E,F,G,H,I,J,K,L,M,N,P,Q,R,U,V,W,X,Y,Z,a0,a1,a2]) S =
  ( some ([x0,x1,Value.int IntKind.u64 0,Value.slice none 0 0,Value.int IntKind.i64 0,x5,x6,x7,x8,x9,a,b,c,d,f,g,i,k,l,m,n,o,p,q,r,s,t,u,w,x,y,z,A,B,C,D,E,F,G,H,I,J,K,L,M,N,P,Q,R,U,V,W,X,Y,Z,a0,a1,a2], S)) := by
 kernel_rfl
theorem zk.r1  : jc Try.prog ⟨false, false, false⟩ (zM Try.prog O) (reg Try.f16 1) (reg Try.f16 1).toList ([x0,x1,x2,x3,x4,x5,x6,x7,x8,x9,a,b,c,d,f,g,i,k,l,m,n,o,p,q,r,s,t,u,w,x,y,z,A,B,C,D,E,F,G,H,I,J,K,L,M,N,P,Q,R,U,V,W,X,Y,Z,a0,a1,a2]) S =
  ( some ([x0,x1,x2,x3,x4,Value.int IntKind.u64 0,x6,x7,x8,x9,a,b,c,d,f,g,i,k,l,m,n,o,p,q,r,s,t,u,w,x,y,z,A,B,C,D,E,F,G,H,I,J,K,L,M,N,P,Q,R,U,V,W,X,Y,Z,a0,a1,a2], S)) := by
 kernel_rfl
theorem zk.r2  : jc Try.prog ⟨false, false, false⟩ (zM Try.prog O) (reg Try.f16 2) (reg Try.f16 2).toList ([x0,x1,x2,x3,x4,x5,x6,x7,x8,x9,a,b,c,d,f,g,i,k,l,m,n,o,p,q,r,s,t,u,w,x,y,z,A,B,C,D,E,F,G,H,I,J,K,L,M,N,P,Q,R,U,V,W,X,Y,Z,a0,a1,a2]) S =
  ( some ([x0,x1,x2,x3,x4,x5,Value.int IntKind.u64 1,x7,x8,x9,a,b,c,d,f,g,i,k,l,m,n,o,p,q,r,s,t,u,w,x,y,z,A,B,C,D,E,F,G,H,I,J,K,L,M,N,P,Q,R,U,V,W,X,Y,Z,a0,a1,a2], S)) := by
 kernel_rfl
theorem zk.r3  : jc Try.prog ⟨false, false, false⟩ (zM Try.prog O) (reg Try.f16 3) (reg Try.f16 3).toList ([x0,x1,x2,x3,x4,x5,x6,x7,x8,x9,a,b,c,d,f,g,i,k,l,m,n,o,p,q,r,s,t,u,w,x,y,z,A,B,C,D,E,F,G,H,I,J,K,L,M,N,P,Q,R,U,V,W,X,Y,Z,a0,a1,a2]) S =
  ( some ([x0,x1,x2,x3,x4,x5,x6,Value.int IntKind.i64 0,x8,x9,a,b,c,d,f,g,i,k,l,m,n,o,p,q,r,s,t,u,w,x,y,z,A,B,C,D,E,F,G,H,I,J,K,L,M,N,P,Q,R,U,V,W,X,Y,Z,a0,a1,a2], S)) := by
 kernel_rfl
theorem zk.r4  : jc Try.prog ⟨false, false, false⟩ (zM Try.prog O) (reg Try.f16 4) (reg Try.f16 4).toList ([x0,x1,x2,x3,x4,x5,x6,x7,x8,x9,a,b,c,d,f,g,i,k,l,m,n,o,p,q,r,s,t,u,w,x,y,z,A,B,C,D,E,F,G,H,I,J,K,L,M,N,P,Q,R,U,V,W,X,Y,Z,a0,a1,a2]) S =
  (zB (ZT Try.prog 23 (dem x0) S) (fun v2 S1 => zB (jT Try.prog BinOp.lss 3 (dem x7) v2 S1) (fun v3 S2 => gdK (dem v3) true (ret x7) S2 (fun v5 S3 => gdK (dem v3) true (jT Try.prog BinOp.lss 3 (dem v5) (Value.int IntKind.i64 10)) S3 (fun v6 S4 => zB (wR (dem v3) v6 (Value.bool false) S4) (fun v7 S5 => some ([x0,x1,x2,x3,x4,x5,x6,x7,x8,x9,dem x7,dem x0,v2,v3,dem v3,dem v5,v6,v7,l,m,n,o,p,q,r,s,t,u,w,x,y,z,A,B,C,D,E,F,G,H,I,J,K,L,M,N,P,Q,R,U,V,W,X,Y,Z,a0,a1,a2], S5)) ()) ()) ()) ()) ()) := by
 refine sP Try.f16 4 0 (v := x7) ?_
 refine sP Try.f16 4 1 (v := x0) ?_
 refine sD Try.f16 4 2 (fun v2 S1 => ?_)
 refine sD Try.f16 4 3 (fun v3 S2 => ?_)
 refine sP Try.f16 4 4 (v := v3) ?_
 refine sG Try.f16 4 5 (j := 4) (fun v5 S3 => ?_)
 refine sG Try.f16 4 6 (j := 4) (fun v6 S4 => ?_)
 refine sD Try.f16 4 7 (fun v7 S5 => ?_)
 kernel_rfl
theorem zk.r6  : jc Try.prog ⟨false, false, false⟩ (zM Try.prog O) (reg Try.f16 6) (reg Try.f16 6).toList ([x0,x1,x2,x3,x4,x5,x6,x7,x8,x9,a,b,c,d,f,g,i,k,l,m,n,o,p,q,r,s,t,u,w,x,y,z,A,B,C,D,E,F,G,H,I,J,K,L,M,N,P,Q,R,U,V,W,X,Y,Z,a0,a1,a2]) S =
  (zB (zW Try.prog 23 (dem x0) (dem x7) S) (fun v2 S1 => zB (zS Try.prog false 5 v2 S1) (fun v3 S2 => zB (jT Try.prog BinOp.rem 5 v3 (Value.int IntKind.u8 128) S2) (fun v4 S3 => zB (y9 Try.prog false false 5 42 v4 S3) (fun v5 S4 => some ([x0,x1,x2,x3,x4,x5,x6,x7,v5,x9,a,b,c,d,f,g,i,k,l,m,dem x0,dem x7,v2,v3,v4,dem v5,t,u,w,x,y,z,A,B,C,D,E,F,G,H,I,J,K,L,M,N,P,Q,R,U,V,W,X,Y,Z,a0,a1,a2], S4)) ()) ()) ()) ()) := by
 kernel_rfl
theorem zk.r7  : jc Try.prog ⟨false, false, false⟩ (zM Try.prog O) (reg Try.f16 7) (reg Try.f16 7).toList ([x0,x1,x2,x3,x4,x5,x6,x7,x8,x9,a,b,c,d,f,g,i,k,l,m,n,o,p,q,r,s,t,u,w,x,y,z,A,B,C,D,E,F,G,H,I,J,K,L,M,N,P,Q,R,U,V,W,X,Y,Z,a0,a1,a2]) S =
  (zB (jT Try.prog BinOp.eql 3 (dem x7) (Value.int IntKind.i64 9) S) (fun v1 S1 => gdK (dem v1) true (ret x8) S1 (fun v3 S2 => gdK (dem v1) true (jT Try.prog BinOp.gtr 42 (dem v3) (Value.int IntKind.u64 1)) S2 (fun v4 S3 => zB (wR (dem v1) v4 (Value.bool false) S3) (fun v5 S4 => some ([x0,x1,x2,x3,x4,x5,x6,x7,x8,x9,a,b,c,d,f,g,i,k,l,m,n,o,p,q,r,s,dem x7,v1,dem v1,dem v3,v4,v5,A,B,C,D,E,F,G,H,I,J,K,L,M,N,P,Q,R,U,V,W,X,Y,Z,a0,a1,a2], S4)) ()) ()) ()) ()) := by
 refine sP Try.f16 7 0 (v := x7) ?_
 refine sD Try.f16 7 1 (fun v1 S1 => ?_)
 refine sP Try.f16 7 2 (v := v1) ?_
 refine sG Try.f16 7 3 (j := 2) (fun v3 S2 => ?_)
 refine sG Try.f16 7 4 (j := 2) (fun v4 S3 => ?_)
 refine sD Try.f16 7 5 (fun v5 S4 => ?_)
 kernel_rfl
theorem zk.r8  : jc Try.prog ⟨false, false, false⟩ (zM Try.prog O) (reg Try.f16 8) (reg Try.f16 8).toList ([x0,x1,x2,x3,x4,x5,x6,x7,x8,x9,a,b,c,d,f,g,i,k,l,m,n,o,p,q,r,s,t,u,w,x,y,z,A,B,C,D,E,F,G,H,I,J,K,L,M,N,P,Q,R,U,V,W,X,Y,Z,a0,a1,a2]) S =
  ( some ([x0,x1,Value.int IntKind.u64 0,Value.slice none 0 0,Value.int IntKind.i64 11,x5,x6,x7,x8,x9,a,b,c,d,f,g,i,k,l,m,n,o,p,q,r,s,t,u,w,x,y,z,A,B,C,D,E,F,G,H,I,J,K,L,M,N,P,Q,R,U,V,W,X,Y,Z,a0,a1,a2], S)) := by
 kernel_rfl
theorem zk.r9  : jc Try.prog ⟨false, false, false⟩ (zM Try.prog O) (reg Try.f16 9) (reg Try.f16 9).toList ([x0,x1,x2,x3,x4,x5,x6,x7,x8,x9,a,b,c,d,f,g,i,k,l,m,n,o,p,q,r,s,t,u,w,x,y,z,A,B,C,D,E,F,G,H,I,J,K,L,M,N,P,Q,R,U,V,W,X,Y,Z,a0,a1,a2]) S =
  (zB (jT Try.prog BinOp.mul 42 (dem x8) (dem x6) S) (fun v3 S1 => zB (jT Try.prog BinOp.add 42 (dem x5) v3 S1) (fun v4 S2 => some ([x0,x1,x2,x3,x4,v4,x6,x7,x8,x9,a,b,c,d,f,g,i,k,l,m,n,o,p,q,r,s,t,u,w,x,y,z,dem x5,dem x8,dem x6,v3,dem v4,F,G,H,I,J,K,L,M,N,P,Q,R,U,V,W,X,Y,Z,a0,a1,a2], S2)) ()) ()) := by
 kernel_rfl
theorem zk.r10  : jc Try.prog ⟨false, false, false⟩ (zM Try.prog O) (reg Try.f16 10) (reg Try.f16 10).toList ([x0,x1,x2,x3,x4,x5,x6,x7,x8,x9,a,b,c,d,f,g,i,k,l,m,n,o,p,q,r,s,t,u,w,x,y,z,A,B,C,D,E,F,G,H,I,J,K,L,M,N,P,Q,R,U,V,W,X,Y,Z,a0,a1,a2]) S =
  (zB (jT Try.prog BinOp.mul 42 (dem x6) (Value.int IntKind.u64 128) S) (fun v1 S1 => some ([x0,x1,x2,x3,x4,x5,v1,x7,x8,x9,a,b,c,d,f,g,i,k,l,m,n,o,p,q,r,s,t,u,w,x,y,z,A,B,C,D,E,dem x6,dem v1,H,I,J,K,L,M,N,P,Q,R,U,V,W,X,Y,Z,a0,a1,a2], S1)) ()) := by
 kernel_rfl
theorem zk.r11  : jc Try.prog ⟨false, false, false⟩ (zM Try.prog O) (reg Try.f16 11) (reg Try.f16 11).toList ([x0,x1,x2,x3,x4,x5,x6,x7,x8,x9,a,b,c,d,f,g,i,k,l,m,n,o,p,q,r,s,t,u,w,x,y,z,A,B,C,D,E,F,G,H,I,J,K,L,M,N,P,Q,R,U,V,W,X,Y,Z,a0,a1,a2]) S =
  (zB (zW Try.prog 23 (dem x0) (dem x7) S) (fun v2 S1 => zB (zS Try.prog false 5 v2 S1) (fun v3 S2 => zB (jT Try.prog BinOp.lss 5 v3 (Value.int IntKind.u8 128) S2) (fun v4 S3 => some ([x0,x1,x2,x3,x4,x5,x6,x7,x8,x9,a,b,c,d,f,g,i,k,l,m,n,o,p,q,r,s,t,u,w,x,y,z,A,B,C,D,E,F,G,dem x0,dem x7,v2,v3,v4,M,N,P,Q,R,U,V,W,X,Y,Z,a0,a1,a2], S3)) ()) ()) ()) := by
 kernel_rfl
theorem zk.r12  : jc Try.prog ⟨false, false, false⟩ (zM Try.prog O) (reg Try.f16 12) (reg Try.f16 12).toList ([x0,x1,x2,x3,x4,x5,x6,x7,x8,x9,a,b,c,d,f,g,i,k,l,m,n,o,p,q,r,s,t,u,w,x,y,z,A,B,C,D,E,F,G,H,I,J,K,L,M,N,P,Q,R,U,V,W,X,Y,Z,a0,a1,a2]) S =
  (zB ((zM Try.prog O) 17 [(dem (dem x5))] S) (fun v1 S1 => some ([x0,x1,x2,x3,x4,x5,x6,x7,x8,v1,a,b,c,d,f,g,i,k,l,m,n,o,p,q,r,s,t,u,w,x,y,z,A,B,C,D,E,F,G,H,I,J,K,L,dem x5,dem v1,P,Q,R,U,V,W,X,Y,Z,a0,a1,a2], S1)) ()) := by
 kernel_rfl
theorem zk.r13  : jc Try.prog ⟨false, false, false⟩ (zM Try.prog O) (reg Try.f16 13) (reg Try.f16 13).toList ([x0,x1,x2,x3,x4,x5,x6,x7,x8,x9,a,b,c,d,f,g,i,k,l,m,n,o,p,q,r,s,t,u,w,x,y,z,A,B,C,D,E,F,G,H,I,J,K,L,M,N,P,Q,R,U,V,W,X,Y,Z,a0,a1,a2]) S =
  (zB (ZT Try.prog 23 (dem x9) S) (fun v1 S1 => zB (jT Try.prog BinOp.add 3 (dem x7) (Value.int IntKind.i64 1) S1) (fun v3 S2 => zB (jT Try.prog BinOp.neq 3 v1 v3 S2) (fun v4 S3 => some ([x0,x1,x2,x3,x4,x5,x6,x7,x8,x9,a,b,c,d,f,g,i,k,l,m,n,o,p,q,r,s,t,u,w,x,y,z,A,B,C,D,E,F,G,H,I,J,K,L,M,N,dem x9,v1,dem x7,v3,v4,W,X,Y,Z,a0,a1,a2], S3)) ()) ()) ()) := by
 kernel_rfl
theorem zk.r14  : jc Try.prog ⟨false, false, false⟩ (zM Try.prog O) (reg Try.f16 14) (reg Try.f16 14).toList ([x0,x1,x2,x3,x4,x5,x6,x7,x8,x9,a,b,c,d,f,g,i,k,l,m,n,o,p,q,r,s,t,u,w,x,y,z,A,B,C,D,E,F,G,H,I,J,K,L,M,N,P,Q,R,U,V,W,X,Y,Z,a0,a1,a2]) S =
  ( some ([x0,x1,Value.int IntKind.u64 0,Value.slice none 0 0,Value.int IntKind.i64 11,x5,x6,x7,x8,x9,a,b,c,d,f,g,i,k,l,m,n,o,p,q,r,s,t,u,w,x,y,z,A,B,C,D,E,F,G,H,I,J,K,L,M,N,P,Q,R,U,V,W,X,Y,Z,a0,a1,a2], S)) := by
 kernel_rfl
theorem zk.r15  : jc Try.prog ⟨false, false, false⟩ (zM Try.prog O) (reg Try.f16 15) (reg Try.f16 15).toList ([x0,x1,x2,x3,x4,x5,x6,x7,x8,x9,a,b,c,d,f,g,i,k,l,m,n,o,p,q,r,s,t,u,w,x,y,z,A,B,C,D,E,F,G,H,I,J,K,L,M,N,P,Q,R,U,V,W,X,Y,Z,a0,a1,a2]) S =
  (zB (jy Try.prog 23 0 [] S) (fun v1 S1 => zB (jT Try.prog BinOp.add 3 (dem x7) (Value.int IntKind.i64 1) S1) (fun v4 S2 => zB (xC Try.prog false 23 (dem x0) (some v4) none S2) (fun v5 S3 => zB (wz Try.prog 23 23 v1 v5 S3) (fun v6 S4 => some ([x0,x1,x5,v6,Value.int IntKind.i64 0,dem x5,x6,x7,x8,x9,a,b,c,d,f,g,i,k,l,m,n,o,p,q,r,s,t,u,w,x,y,z,A,B,C,D,E,F,G,H,I,J,K,L,M,N,P,Q,R,U,V,dem x5,dem v1,dem x0,dem x7,v4,v5,dem v6], S4)) ()) ()) ()) ()) := by
 kernel_rfl
theorem zk.r5  : jc Try.prog ⟨false, false, false⟩ (zM Try.prog O) (reg Try.f16 5) (reg Try.f16 5).toList ([x0,x1,x2,x3,x4,x5,x6,x7,x8,x9,a,b,c,d,f,g,i,k,l,m,n,o,p,q,r,s,t,u,w,x,y,z,A,B,C,D,E,F,G,H,I,J,K,L,M,N,P,Q,R,U,V,W,X,Y,Z,a0,a1,a2]) S =
  (zB (jT Try.prog BinOp.add 3 (dem x7) (Value.int IntKind.i64 1) S) (fun v1 S1 => some ([x0,x1,x2,x3,x4,x5,x6,v1,x8,x9,a,b,c,d,f,g,i,k,dem x7,dem v1,n,o,p,q,r,s,t,u,w,x,y,z,A,B,C,D,E,F,G,H,I,J,K,L,M,N,P,Q,R,U,V,W,X,Y,Z,a0,a1,a2], S1)) ()) := by
 kernel_rfl
theorem zk.r16  : jc Try.prog ⟨false, false, false⟩ (zM Try.prog O) (reg Try.f16 16) (reg Try.f16 16).toList ([x0,x1,x2,x3,x4,x5,x6,x7,x8,x9,a,b,c,d,f,g,i,k,l,m,n,o,p,q,r,s,t,u,w,x,y,z,A,B,C,D,E,F,G,H,I,J,K,L,M,N,P,Q,R,U,V,W,X,Y,Z,a0,a1,a2]) S =
  ( some ([x0,x1,Value.int IntKind.u64 0,Value.slice none 0 0,Value.int IntKind.i64 11,x5,x6,x7,x8,x9,a,b,c,d,f,g,i,k,l,m,n,o,p,q,r,s,t,u,w,x,y,z,A,B,C,D,E,F,G,H,I,J,K,L,M,N,P,Q,R,U,V,W,X,Y,Z,a0,a1,a2], S)) := by
 kernel_rfl
theorem zk.runs {x0 : Value} {S S1 : zh} {e : AEx} {T : List Value} (h : zu Try.prog O false zk.code ([x0,undef,undef,undef,undef,undef,undef,undef,undef,undef,undef,undef,undef,undef,undef,undef,undef,undef,undef,undef,undef,undef,undef,undef,undef,undef,undef,undef,undef,undef,undef,undef,undef,undef,undef,undef,undef,undef,undef,undef,undef,undef,undef,undef,undef,undef,undef,undef,undef,undef,undef,undef,undef,undef,undef,undef,undef,undef]) S = some (e, T, S1)) (he : e = .normal ∨ e = .ret)  (h0 : jC (T.getD 2 undef) = true) (h1 : jC (T.getD 3 undef) = true) (h2 : jC (T.getD 4 undef) = true) : zM Try.prog O 16 [x0] S = some (Value.tuple #[T.getD 2 undef, T.getD 3 undef, T.getD 4 undef], S1) :=
 yI rfl rfl Try.func16 (by decide) zk.body (by exact h) he ((yT ((show zD Try.prog T S1 Try.f16.results.toList = zD Try.prog T S1 [(ResultVar.tmp 2), (ResultVar.tmp 3), (ResultVar.tmp 4)] from by kernel_rfl).trans (by simp only [zD])) (by kernel_rfl) (by simp only [List.all_cons, List.all_nil, h0, h1, h2, Bool.and_true])).trans rfl)
end Go.Proofs.Ytbgcphbbchndkaa
namespace Go.Proofs.Ytbgcphbbchndkaa
open Go.Abs
abbrev slices_Clone.id : FuncId := 50
noncomputable def slices_Clone.code : Code := (Code.seq (Code.region 0 (reg Try.f50 0) false) (Code.seq (Code.seq (Code.region 1 (reg Try.f50 1) false) (Code.cond (Operand.tmp 4) (Code.seq (Code.region 2 (reg Try.f50 2) false) Code.ret) Code.skip)) (Code.seq (Code.region 3 (reg Try.f50 3) false) Code.ret)))
theorem slices_Clone.body : Try.f50.body = some slices_Clone.code := by kernel_rfl
variable (b c l f g i j k : Value) (S : zh)
theorem slices_Clone.r0  : jc Try.prog ⟨false, false, false⟩ (zM Try.prog O) (reg Try.f50 0) (reg Try.f50 0).toList ([b,c,l,f,g,i,j,k]) S =
  ( some ([b,c,Value.slice none 0 0,f,g,i,j,k], S)) := by
 kernel_rfl
theorem slices_Clone.r1  : jc Try.prog ⟨false, false, false⟩ (zM Try.prog O) (reg Try.f50 1) (reg Try.f50 1).toList ([b,c,l,f,g,i,j,k]) S =
  (zB (jT Try.prog BinOp.eql 23 (dem b) (Value.slice none 0 0) S) (fun o d => some ([b,c,l,dem b,o,i,j,k], d)) ()) := by
 kernel_rfl
theorem slices_Clone.r2  : jc Try.prog ⟨false, false, false⟩ (zM Try.prog O) (reg Try.f50 2) (reg Try.f50 2).toList ([b,c,l,f,g,i,j,k]) S =
  ( some ([b,c,Value.slice none 0 0,f,g,i,j,k], S)) := by
 kernel_rfl
theorem slices_Clone.r3  : jc Try.prog ⟨false, false, false⟩ (zM Try.prog O) (reg Try.f50 3) (reg Try.f50 3).toList ([b,c,l,f,g,i,j,k]) S =
  (zB (jy Try.prog 23 0 [] S) (fun m d => zB (wz Try.prog 23 23 m (dem b) d) (fun n p => some ([b,c,n,f,g,dem m,dem b,dem n], p)) ()) ()) := by
 kernel_rfl
theorem slices_Clone.runs {b : Value} {S d : zh} {e : AEx} {T : List Value} (h : zu Try.prog O false slices_Clone.code ([b,undef,undef,undef,undef,undef,undef,undef]) S = some (e, T, d)) (he : e = .normal ∨ e = .ret) : zM Try.prog O 50 [b] S = some (T.getD 2 undef, d) :=
 yI rfl rfl Try.func50 (by decide) slices_Clone.body (by exact h) he (yE (a := T.getD 2 undef) ((show zD Try.prog T d Try.f50.results.toList = zD Try.prog T d [(ResultVar.tmp 2)] from by kernel_rfl).trans (by simp only [zD])) (by kernel_rfl))
end Go.Proofs.Ytbgcphbbchndkaa
namespace Go.Proofs.Ytbgcphbbchndkaa
open Go.Abs
abbrev zG.id : FuncId := 24
noncomputable def zG.jr : Code := (Code.seq (Code.region 3 (reg Try.f24 3) false) (Code.seq (Code.cond (Operand.tmp 11) Code.skip (Code.exit 0)) (Code.seq (Code.block 1 (Code.seq (Code.region 4 (reg Try.f24 4) false) (Code.seq (Code.seq (Code.region 5 (reg Try.f24 5) false) (Code.cond (Operand.tmp 28) (Code.exit 0) Code.skip)) (Code.seq (Code.region 6 (reg Try.f24 6) false) (Code.seq (Code.region 7 (reg Try.f24 7) false) (Code.cond (Operand.tmp 38) (Code.seq (Code.region 8 (reg Try.f24 8) false) Code.ret) Code.skip)))))) (Code.region 9 (reg Try.f24 9) false))))
noncomputable def zG.code : Code := (Code.seq (Code.region 0 (reg Try.f24 0) false) (Code.seq (Code.region 1 (reg Try.f24 1) false) (Code.seq (Code.seq (Code.region 2 (reg Try.f24 2) false) (Code.block 0 (Code.loop zG.jr))) (Code.seq (Code.region 10 (reg Try.f24 10) false) Code.ret))))
theorem zG.body : Try.f24.body = some zG.code := by kernel_rfl
theorem zG.eta {T : List Value} (h : T.length = 46) : T = [T.getD 0 undef,T.getD 1 undef,T.getD 2 undef,T.getD 3 undef,T.getD 4 undef,T.getD 5 undef,T.getD 6 undef,T.getD 7 undef,T.getD 8 undef,T.getD 9 undef,T.getD 10 undef,T.getD 11 undef,T.getD 12 undef,T.getD 13 undef,T.getD 14 undef,T.getD 15 undef,T.getD 16 undef,T.getD 17 undef,T.getD 18 undef,T.getD 19 undef,T.getD 20 undef,T.getD 21 undef,T.getD 22 undef,T.getD 23 undef,T.getD 24 undef,T.getD 25 undef,T.getD 26 undef,T.getD 27 undef,T.getD 28 undef,T.getD 29 undef,T.getD 30 undef,T.getD 31 undef,T.getD 32 undef,T.getD 33 undef,T.getD 34 undef,T.getD 35 undef,T.getD 36 undef,T.getD 37 undef,T.getD 38 undef,T.getD 39 undef,T.getD 40 undef,T.getD 41 undef,T.getD 42 undef,T.getD 43 undef,T.getD 44 undef,T.getD 45 undef] := (qH T 46 h).trans (by kernel_rfl)
theorem zG.list {T : List Value} (h : T.length = 46) : ∃ P V Y Z x4 U Q R W X a b c d f g i k l m n o p q r s t u w x y z A B C D E F G H I J K L M N, T = [P,V,Y,Z,x4,U,Q,R,W,X,a,b,c,d,f,g,i,k,l,m,n,o,p,q,r,s,t,u,w,x,y,z,A,B,C,D,E,F,G,H,I,J,K,L,M,N] := ⟨_, _, _, _, _, _, _, _, _, _, _, _, _, _, _, _, _, _, _, _, _, _, _, _, _, _, _, _, _, _, _, _, _, _, _, _, _, _, _, _, _, _, _, _, _, _, zG.eta h⟩
variable (P V Y Z x4 U Q R W X a b c d f g i k l m n o p q r s t u w x y z A B C D E F G H I J K L M N : Value) (S : zh)
theorem zG.r0  : jc Try.prog ⟨false, false, false⟩ (zM Try.prog O) (reg Try.f24 0) (reg Try.f24 0).toList ([P,V,Y,Z,x4,U,Q,R,W,X,a,b,c,d,f,g,i,k,l,m,n,o,p,q,r,s,t,u,w,x,y,z,A,B,C,D,E,F,G,H,I,J,K,L,M,N]) S =
  ( some ([P,V,Value.int IntKind.u64 0,Value.slice none 0 0,Value.int IntKind.i64 0,U,Q,R,W,X,a,b,c,d,f,g,i,k,l,m,n,o,p,q,r,s,t,u,w,x,y,z,A,B,C,D,E,F,G,H,I,J,K,L,M,N], S)) := by
 kernel_rfl
theorem zG.r1  : jc Try.prog ⟨false, false, false⟩ (zM Try.prog O) (reg Try.f24 1) (reg Try.f24 1).toList ([P,V,Y,Z,x4,U,Q,R,W,X,a,b,c,d,f,g,i,k,l,m,n,o,p,q,r,s,t,u,w,x,y,z,A,B,C,D,E,F,G,H,I,J,K,L,M,N]) S =
  ( some ([P,V,Y,Z,x4,Value.int IntKind.u64 0,Q,R,W,X,a,b,c,d,f,g,i,k,l,m,n,o,p,q,r,s,t,u,w,x,y,z,A,B,C,D,E,F,G,H,I,J,K,L,M,N], S)) := by
 kernel_rfl
theorem zG.r2  : jc Try.prog ⟨false, false, false⟩ (zM Try.prog O) (reg Try.f24 2) (reg Try.f24 2).toList ([P,V,Y,Z,x4,U,Q,R,W,X,a,b,c,d,f,g,i,k,l,m,n,o,p,q,r,s,t,u,w,x,y,z,A,B,C,D,E,F,G,H,I,J,K,L,M,N]) S =
  (zB (ZT Try.prog 23 (dem P) S) (fun v1 S1 => some ([P,V,Y,Z,x4,U,Q,R,dem P,v1,Value.int IntKind.i64 0,b,c,d,f,g,i,k,l,m,n,o,p,q,r,s,t,u,w,x,y,z,A,B,C,D,E,F,G,H,I,J,K,L,M,N], S1)) ()) := by
 kernel_rfl
theorem zG.r3  : jc Try.prog ⟨false, false, false⟩ (zM Try.prog O) (reg Try.f24 3) (reg Try.f24 3).toList ([P,V,Y,Z,x4,U,Q,R,W,X,a,b,c,d,f,g,i,k,l,m,n,o,p,q,r,s,t,u,w,x,y,z,A,B,C,D,E,F,G,H,I,J,K,L,M,N]) S =
  (zB (jT Try.prog BinOp.lss 3 a X S) (fun v0 S1 => some ([P,V,Y,Z,x4,U,Q,R,W,X,a,v0,c,d,f,g,i,k,l,m,n,o,p,q,r,s,t,u,w,x,y,z,A,B,C,D,E,F,G,H,I,J,K,L,M,N], S1)) ()) := by
 kernel_rfl
theorem zG.r4  : jc Try.prog ⟨false, false, false⟩ (zM Try.prog O) (reg Try.f24 4) (reg Try.f24 4).toList ([P,V,Y,Z,x4,U,Q,R,W,X,a,b,c,d,f,g,i,k,l,m,n,o,p,q,r,s,t,u,w,x,y,z,A,B,C,D,E,F,G,H,I,J,K,L,M,N]) S =
  (zB (zW Try.prog 23 W (dem a) S) (fun v1 S1 => zB (zS Try.prog false 5 v1 S1) (fun v2 S2 => some ([P,V,Y,Z,x4,U,a,v2,W,X,dem a,b,dem a,v1,dem v2,g,i,k,l,m,n,o,p,q,r,s,t,u,w,x,y,z,A,B,C,D,E,F,G,H,I,J,K,L,M,N], S2)) ()) ()) := by
 kernel_rfl
theorem zG.r5  : jc Try.prog ⟨false, false, false⟩ (zM Try.prog O) (reg Try.f24 5) (reg Try.f24 5).toList ([P,V,Y,Z,x4,U,Q,R,W,X,a,b,c,d,f,g,i,k,l,m,n,o,p,q,r,s,t,u,w,x,y,z,A,B,C,D,E,F,G,H,I,J,K,L,M,N]) S =
  (zB (jT Try.prog BinOp.eql 3 (dem Q) (Value.int IntKind.i64 9) S) (fun v1 S1 => gdK (dem v1) true (ret R) S1 (fun v3 S2 => gdK (dem v1) true (jT Try.prog BinOp.gtr 5 (dem v3) (Value.int IntKind.u8 1)) S2 (fun v4 S3 => zB (wR (dem v1) v4 (Value.bool false) S3) (fun v5 S4 => gdK (dem v5) false (ret Q) S4 (fun v7 S5 => gdK (dem v5) false (jT Try.prog BinOp.gtr 3 (dem v7) (Value.int IntKind.i64 0)) S5 (fun v8 S6 => gdK (dem v5) false (ret v8) S6 (fun v9 S7 => gdK (dem v9) true (ret R) S7 (fun a0 S8 => gdK (dem v9) true (jT Try.prog BinOp.eql 5 (dem a0) (Value.int IntKind.u8 0)) S8 (fun a1 S9 => gdK (dem v5) false (wR (dem v9) a1 (Value.bool false)) S9 (fun a2 a3 => zB (wR (dem v5) (Value.bool true) a2 a3) (fun a4 a5 => some ([P,V,Y,Z,x4,U,Q,R,W,X,a,b,c,d,f,dem Q,v1,dem v1,dem v3,v4,v5,dem v5,dem v7,v8,dem v9,dem a0,a1,a2,a4,x,y,z,A,B,C,D,E,F,G,H,I,J,K,L,M,N], a5)) ()) ()) ()) ()) ()) ()) ()) ()) ()) ()) ()) := by
 refine sP Try.f24 5 0 (v := Q) ?_
 refine sD Try.f24 5 1 (fun v1 S1 => ?_)
 refine sP Try.f24 5 2 (v := v1) ?_
 refine sG Try.f24 5 3 (j := 2) (fun v3 S2 => ?_)
 refine sG Try.f24 5 4 (j := 2) (fun v4 S3 => ?_)
 refine sD Try.f24 5 5 (fun v5 S4 => ?_)
 refine sP Try.f24 5 6 (v := v5) ?_
 refine sG Try.f24 5 7 (j := 6) (fun v7 S5 => ?_)
 refine sG Try.f24 5 8 (j := 6) (fun v8 S6 => ?_)
 refine sG Try.f24 5 9 (j := 6) (fun v9 S7 => ?_)
 refine sG Try.f24 5 10 (j := 9) (fun a0 S8 => ?_)
 refine sG Try.f24 5 11 (j := 9) (fun a1 S9 => ?_)
 refine sG Try.f24 5 12 (j := 6) (fun a2 a3 => ?_)
 refine sD Try.f24 5 13 (fun a4 a5 => ?_)
 kernel_rfl
theorem zG.r6  : jc Try.prog ⟨false, false, false⟩ (zM Try.prog O) (reg Try.f24 6) (reg Try.f24 6).toList ([P,V,Y,Z,x4,U,Q,R,W,X,a,b,c,d,f,g,i,k,l,m,n,o,p,q,r,s,t,u,w,x,y,z,A,B,C,D,E,F,G,H,I,J,K,L,M,N]) S =
  (zB (jT Try.prog BinOp.and 5 (dem R) (Value.int IntKind.u8 127) S) (fun v2 S1 => zB (y9 Try.prog false false 5 42 v2 S1) (fun v3 S2 => zB (jT Try.prog BinOp.mul 3 (Value.int IntKind.i64 7) (dem Q) S2) (fun v5 S3 => zB (jT Try.prog BinOp.shl 42 v3 v5 S3) (fun v6 S4 => zB (jT Try.prog BinOp.or 42 (dem U) v6 S4) (fun v7 S5 => some ([P,V,Y,Z,x4,v7,Q,R,W,X,a,b,c,d,f,g,i,k,l,m,n,o,p,q,r,s,t,u,w,dem U,dem R,v2,v3,dem Q,v5,v6,dem v7,F,G,H,I,J,K,L,M,N], S5)) ()) ()) ()) ()) ()) := by
 kernel_rfl
theorem zG.r7  : jc Try.prog ⟨false, false, false⟩ (zM Try.prog O) (reg Try.f24 7) (reg Try.f24 7).toList ([P,V,Y,Z,x4,U,Q,R,W,X,a,b,c,d,f,g,i,k,l,m,n,o,p,q,r,s,t,u,w,x,y,z,A,B,C,D,E,F,G,H,I,J,K,L,M,N]) S =
  (zB (jT Try.prog BinOp.lss 5 (dem R) (Value.int IntKind.u8 128) S) (fun v1 S1 => some ([P,V,Y,Z,x4,U,Q,R,W,X,a,b,c,d,f,g,i,k,l,m,n,o,p,q,r,s,t,u,w,x,y,z,A,B,C,D,E,dem R,v1,H,I,J,K,L,M,N], S1)) ()) := by
 kernel_rfl
theorem zG.r8  : jc Try.prog ⟨false, false, false⟩ (zM Try.prog O) (reg Try.f24 8) (reg Try.f24 8).toList ([P,V,Y,Z,x4,U,Q,R,W,X,a,b,c,d,f,g,i,k,l,m,n,o,p,q,r,s,t,u,w,x,y,z,A,B,C,D,E,F,G,H,I,J,K,L,M,N]) S =
  (zB (jT Try.prog BinOp.add 3 (dem Q) (Value.int IntKind.i64 1) S) (fun v3 S1 => zB (xC Try.prog false 23 (dem P) (some v3) none S1) (fun v4 S2 => zB ((zM Try.prog O) 50 [(dem v4)] S2) (fun v5 S3 => some ([P,V,U,v5,Value.int IntKind.i64 0,dem U,Q,R,W,X,a,b,c,d,f,g,i,k,l,m,n,o,p,q,r,s,t,u,w,x,y,z,A,B,C,D,E,F,G,dem U,dem P,dem Q,v3,v4,dem v5,N], S3)) ()) ()) ()) := by
 kernel_rfl
theorem zG.r9  : jc Try.prog ⟨false, false, false⟩ (zM Try.prog O) (reg Try.f24 9) (reg Try.f24 9).toList ([P,V,Y,Z,x4,U,Q,R,W,X,a,b,c,d,f,g,i,k,l,m,n,o,p,q,r,s,t,u,w,x,y,z,A,B,C,D,E,F,G,H,I,J,K,L,M,N]) S =
  (zB (jT Try.prog BinOp.add 3 a (Value.int IntKind.i64 1) S) (fun v0 S1 => some ([P,V,Y,Z,x4,U,Q,R,W,X,dem v0,b,c,d,f,g,i,k,l,m,n,o,p,q,r,s,t,u,w,x,y,z,A,B,C,D,E,F,G,H,I,J,K,L,M,v0], S1)) ()) := by
 kernel_rfl
theorem zG.r10  : jc Try.prog ⟨false, false, false⟩ (zM Try.prog O) (reg Try.f24 10) (reg Try.f24 10).toList ([P,V,Y,Z,x4,U,Q,R,W,X,a,b,c,d,f,g,i,k,l,m,n,o,p,q,r,s,t,u,w,x,y,z,A,B,C,D,E,F,G,H,I,J,K,L,M,N]) S =
  ( some ([P,V,Value.int IntKind.u64 0,Value.slice none 0 0,Value.int IntKind.i64 11,U,Q,R,W,X,a,b,c,d,f,g,i,k,l,m,n,o,p,q,r,s,t,u,w,x,y,z,A,B,C,D,E,F,G,H,I,J,K,L,M,N], S)) := by
 kernel_rfl
theorem zG.runs {P : Value} {S S1 : zh} {e : AEx} {T : List Value} (h : zu Try.prog O false zG.code ([P,undef,undef,undef,undef,undef,undef,undef,undef,undef,undef,undef,undef,undef,undef,undef,undef,undef,undef,undef,undef,undef,undef,undef,undef,undef,undef,undef,undef,undef,undef,undef,undef,undef,undef,undef,undef,undef,undef,undef,undef,undef,undef,undef,undef,undef]) S = some (e, T, S1)) (he : e = .normal ∨ e = .ret)  (h0 : jC (T.getD 2 undef) = true) (h1 : jC (T.getD 3 undef) = true) (h2 : jC (T.getD 4 undef) = true) : zM Try.prog O 24 [P] S = some (Value.tuple #[T.getD 2 undef, T.getD 3 undef, T.getD 4 undef], S1) :=
 yI rfl rfl Try.func24 (by decide) zG.body (by exact h) he ((yT ((show zD Try.prog T S1 Try.f24.results.toList = zD Try.prog T S1 [(ResultVar.tmp 2), (ResultVar.tmp 3), (ResultVar.tmp 4)] from by kernel_rfl).trans (by simp only [zD])) (by kernel_rfl) (by simp only [List.all_cons, List.all_nil, h0, h1, h2, Bool.and_true])).trans rfl)
end Go.Proofs.Ytbgcphbbchndkaa
namespace Go.Proofs.Ytbgcphbbchndkaa
open Go.Abs
abbrev jF.id : FuncId := 35
noncomputable def jF.jr : Code := (Code.seq (Code.seq (Code.region 2 (reg Try.f35 2) false) (Code.cond (Operand.tmp 5) Code.skip (Code.exit 0))) (Code.block 1 (Code.seq (Code.region 3 (reg Try.f35 3) false) (Code.region 4 (reg Try.f35 4) false))))
noncomputable def jF.code : Code := (Code.seq (Code.region 0 (reg Try.f35 0) false) (Code.seq (Code.region 1 (reg Try.f35 1) false) (Code.seq (Code.block 0 (Code.loop jF.jr)) (Code.seq (Code.region 5 (reg Try.f35 5) false) Code.ret))))
theorem jF.body : Try.f35.body = some jF.code := by kernel_rfl
theorem jF.eta {T : List Value} (h : T.length = 19) : T = [T.getD 0 undef,T.getD 1 undef,T.getD 2 undef,T.getD 3 undef,T.getD 4 undef,T.getD 5 undef,T.getD 6 undef,T.getD 7 undef,T.getD 8 undef,T.getD 9 undef,T.getD 10 undef,T.getD 11 undef,T.getD 12 undef,T.getD 13 undef,T.getD 14 undef,T.getD 15 undef,T.getD 16 undef,T.getD 17 undef,T.getD 18 undef] := (qH T 19 h).trans (by kernel_rfl)
theorem jF.list {T : List Value} (h : T.length = 19) : ∃ b o v n p q r s t u c d f g i j k l m, T = [b,o,v,n,p,q,r,s,t,u,c,d,f,g,i,j,k,l,m] := ⟨_, _, _, _, _, _, _, _, _, _, _, _, _, _, _, _, _, _, _, jF.eta h⟩
variable (b o v n p q r s t u c d f g i j k l m : Value) (S : zh)
theorem jF.r0  : jc Try.prog ⟨false, false, false⟩ (zM Try.prog O) (reg Try.f35 0) (reg Try.f35 0).toList ([b,o,v,n,p,q,r,s,t,u,c,d,f,g,i,j,k,l,m]) S =
  ( some ([b,o,Value.slice none 0 0,n,p,q,r,s,t,u,c,d,f,g,i,j,k,l,m], S)) := by
 kernel_rfl
theorem jF.r1  : jc Try.prog ⟨false, false, false⟩ (zM Try.prog O) (reg Try.f35 1) (reg Try.f35 1).toList ([b,o,v,n,p,q,r,s,t,u,c,d,f,g,i,j,k,l,m]) S =
  ( some ([b,o,v,Value.slice none 0 0,p,q,r,s,t,u,c,d,f,g,i,j,k,l,m], S)) := by
 kernel_rfl
theorem jF.r2  : jc Try.prog ⟨false, false, false⟩ (zM Try.prog O) (reg Try.f35 2) (reg Try.f35 2).toList ([b,o,v,n,p,q,r,s,t,u,c,d,f,g,i,j,k,l,m]) S =
  (zB (jT Try.prog BinOp.geq 42 (dem b) (Value.int IntKind.u64 128) S) (fun A w => some ([b,o,v,n,dem b,A,r,s,t,u,c,d,f,g,i,j,k,l,m], w)) ()) := by
 kernel_rfl
theorem jF.r3  : jc Try.prog ⟨false, false, false⟩ (zM Try.prog O) (reg Try.f35 3) (reg Try.f35 3).toList ([b,o,v,n,p,q,r,s,t,u,c,d,f,g,i,j,k,l,m]) S =
  (zB (y9 Try.prog false false 42 5 (dem b) S) (fun x w => zB (jT Try.prog BinOp.or 5 x (Value.int IntKind.u8 128) w) (fun y B => zB (jy Try.prog 23 1 [(0, y)] B) (fun z C => zB (wz Try.prog 23 23 n z C) (fun D E => some ([b,o,v,D,p,q,dem n,dem b,x,y,z,dem D,f,g,i,j,k,l,m], E)) ()) ()) ()) ()) := by
 kernel_rfl
theorem jF.r4  : jc Try.prog ⟨false, false, false⟩ (zM Try.prog O) (reg Try.f35 4) (reg Try.f35 4).toList ([b,o,v,n,p,q,r,s,t,u,c,d,f,g,i,j,k,l,m]) S =
  (zB (jT Try.prog BinOp.shr 42 (dem b) (Value.int IntKind.u64 7) S) (fun A w => some ([A,o,v,n,p,q,r,s,t,u,c,d,dem b,dem A,i,j,k,l,m], w)) ()) := by
 kernel_rfl
theorem jF.r5  : jc Try.prog ⟨false, false, false⟩ (zM Try.prog O) (reg Try.f35 5) (reg Try.f35 5).toList ([b,o,v,n,p,q,r,s,t,u,c,d,f,g,i,j,k,l,m]) S =
  (zB (y9 Try.prog false false 42 5 (dem b) S) (fun x w => zB (jy Try.prog 23 1 [(0, x)] w) (fun y B => zB (wz Try.prog 23 23 n y B) (fun z C => some ([b,o,z,dem n,p,q,r,s,t,u,c,d,f,g,dem n,dem b,x,y,dem z], C)) ()) ()) ()) := by
 kernel_rfl
theorem jF.runs {b : Value} {S w : zh} {e : AEx} {T : List Value} (h : zu Try.prog O false jF.code ([b,undef,undef,undef,undef,undef,undef,undef,undef,undef,undef,undef,undef,undef,undef,undef,undef,undef,undef]) S = some (e, T, w)) (he : e = .normal ∨ e = .ret) : zM Try.prog O 35 [b] S = some (T.getD 2 undef, w) :=
 yI rfl rfl Try.func35 (by decide) jF.body (by exact h) he (yE (a := T.getD 2 undef) ((show zD Try.prog T w Try.f35.results.toList = zD Try.prog T w [(ResultVar.tmp 2)] from by kernel_rfl).trans (by simp only [zD])) (by kernel_rfl))
end Go.Proofs.Ytbgcphbbchndkaa
namespace Go.Proofs.Ytbgcphbbchndkaa
open Go.Abs
abbrev zy.id : FuncId := 17
noncomputable def zy.jr : Code := (Code.block 1 (Code.seq (Code.region 2 (reg Try.f17 2) false) (Code.seq (Code.region 3 (reg Try.f17 3) false) (Code.seq (Code.seq (Code.region 4 (reg Try.f17 4) false) (Code.cond (Operand.tmp 12) (Code.seq (Code.region 5 (reg Try.f17 5) false) Code.ret) Code.skip)) (Code.region 6 (reg Try.f17 6) false)))))
noncomputable def zy.code : Code := (Code.seq (Code.region 0 (reg Try.f17 0) false) (Code.seq (Code.region 1 (reg Try.f17 1) false) (Code.block 0 (Code.loop zy.jr))))
theorem zy.body : Try.f17.body = some zy.code := by kernel_rfl
theorem zy.eta {T : List Value} (h : T.length = 22) : T = [T.getD 0 undef,T.getD 1 undef,T.getD 2 undef,T.getD 3 undef,T.getD 4 undef,T.getD 5 undef,T.getD 6 undef,T.getD 7 undef,T.getD 8 undef,T.getD 9 undef,T.getD 10 undef,T.getD 11 undef,T.getD 12 undef,T.getD 13 undef,T.getD 14 undef,T.getD 15 undef,T.getD 16 undef,T.getD 17 undef,T.getD 18 undef,T.getD 19 undef,T.getD 20 undef,T.getD 21 undef] := (qH T 22 h).trans (by kernel_rfl)
theorem zy.list {T : List Value} (h : T.length = 22) : ∃ b s z r q u v w x y c d f g i j k l m n o p, T = [b,s,z,r,q,u,v,w,x,y,c,d,f,g,i,j,k,l,m,n,o,p] := ⟨_, _, _, _, _, _, _, _, _, _, _, _, _, _, _, _, _, _, _, _, _, _, zy.eta h⟩
variable (b s z r q u v w x y c d f g i j k l m n o p : Value) (S : zh)
theorem zy.r0  : jc Try.prog ⟨false, false, false⟩ (zM Try.prog O) (reg Try.f17 0) (reg Try.f17 0).toList ([b,s,z,r,q,u,v,w,x,y,c,d,f,g,i,j,k,l,m,n,o,p]) S =
  ( some ([b,s,Value.slice none 0 0,r,q,u,v,w,x,y,c,d,f,g,i,j,k,l,m,n,o,p], S)) := by
 kernel_rfl
theorem zy.r1  : jc Try.prog ⟨false, false, false⟩ (zM Try.prog O) (reg Try.f17 1) (reg Try.f17 1).toList ([b,s,z,r,q,u,v,w,x,y,c,d,f,g,i,j,k,l,m,n,o,p]) S =
  (zB (jy Try.prog 23 0 [] S) (fun E t => some ([b,s,z,E,q,dem E,v,w,x,y,c,d,f,g,i,j,k,l,m,n,o,p], t)) ()) := by
 kernel_rfl
theorem zy.r2  : jc Try.prog ⟨false, false, false⟩ (zM Try.prog O) (reg Try.f17 2) (reg Try.f17 2).toList ([b,s,z,r,q,u,v,w,x,y,c,d,f,g,i,j,k,l,m,n,o,p]) S =
  (zB (jT Try.prog BinOp.rem 42 (dem b) (Value.int IntKind.u64 128) S) (fun B t => zB (y9 Try.prog false false 42 5 B t) (fun A C => some ([b,s,z,r,A,u,dem b,B,dem A,y,c,d,f,g,i,j,k,l,m,n,o,p], C)) ()) ()) := by
 kernel_rfl
theorem zy.r3  : jc Try.prog ⟨false, false, false⟩ (zM Try.prog O) (reg Try.f17 3) (reg Try.f17 3).toList ([b,s,z,r,q,u,v,w,x,y,c,d,f,g,i,j,k,l,m,n,o,p]) S =
  (zB (jT Try.prog BinOp.quo 42 (dem b) (Value.int IntKind.u64 128) S) (fun B t => some ([B,s,z,r,q,u,v,w,x,dem b,dem B,d,f,g,i,j,k,l,m,n,o,p], t)) ()) := by
 kernel_rfl
theorem zy.r4  : jc Try.prog ⟨false, false, false⟩ (zM Try.prog O) (reg Try.f17 4) (reg Try.f17 4).toList ([b,s,z,r,q,u,v,w,x,y,c,d,f,g,i,j,k,l,m,n,o,p]) S =
  (zB (jT Try.prog BinOp.eql 42 (dem b) (Value.int IntKind.u64 0) S) (fun B t => some ([b,s,z,r,q,u,v,w,x,y,c,dem b,B,g,i,j,k,l,m,n,o,p], t)) ()) := by
 kernel_rfl
theorem zy.r5  : jc Try.prog ⟨false, false, false⟩ (zM Try.prog O) (reg Try.f17 5) (reg Try.f17 5).toList ([b,s,z,r,q,u,v,w,x,y,c,d,f,g,i,j,k,l,m,n,o,p]) S =
  (zB (jy Try.prog 23 1 [(0, (dem q))] S) (fun A t => zB (wz Try.prog 23 23 r A t) (fun D C => some ([b,s,D,dem r,q,u,v,w,x,y,c,d,f,dem r,dem q,A,dem D,l,m,n,o,p], C)) ()) ()) := by
 kernel_rfl
theorem zy.r6  : jc Try.prog ⟨false, false, false⟩ (zM Try.prog O) (reg Try.f17 6) (reg Try.f17 6).toList ([b,s,z,r,q,u,v,w,x,y,c,d,f,g,i,j,k,l,m,n,o,p]) S =
  (zB (jT Try.prog BinOp.add 5 (dem q) (Value.int IntKind.u8 128) S) (fun A t => zB (jy Try.prog 23 1 [(0, A)] t) (fun D C => zB (wz Try.prog 23 23 r D C) (fun F G => some ([b,s,z,F,q,u,v,w,x,y,c,d,f,g,i,j,k,dem r,dem q,A,D,dem F], G)) ()) ()) ()) := by
 kernel_rfl
theorem zy.runs {b : Value} {S t : zh} {e : AEx} {T : List Value} (h : zu Try.prog O false zy.code ([b,undef,undef,undef,undef,undef,undef,undef,undef,undef,undef,undef,undef,undef,undef,undef,undef,undef,undef,undef,undef,undef]) S = some (e, T, t)) (he : e = .normal ∨ e = .ret) : zM Try.prog O 17 [b] S = some (T.getD 2 undef, t) :=
 yI rfl rfl Try.func17 (by decide) zy.body (by exact h) he (yE (a := T.getD 2 undef) ((show zD Try.prog T t Try.f17.results.toList = zD Try.prog T t [(ResultVar.tmp 2)] from by kernel_rfl).trans (by simp only [zD])) (by kernel_rfl))
end Go.Proofs.Ytbgcphbbchndkaa
namespace Go.Proofs.Ytbgcphbbchndkaa
open Go.Abs
theorem afh : Try.prog.underlying 3 = some (TypeDesc.int IntKind.i64) := by kernel_rfl
theorem Vz : xP Try.prog 3 = some 1 := by kernel_rfl
theorem ai1 : bytesOf Try.prog 3 = some 8 := by kernel_rfl
theorem ai2 : zeroOf Try.prog 3 = (some (Value.int IntKind.i64 0)) := by kernel_rfl
theorem ZV : qX Try.prog 3 = some false := by kernel_rfl
theorem ahX : zeroOf Try.prog 4 = (some (Value.bool false)) := by kernel_rfl
theorem VF : Try.prog.underlying 5 = some (TypeDesc.int IntKind.u8) := by kernel_rfl
theorem V8 : xP Try.prog 5 = some 1 := by kernel_rfl
theorem agT : bytesOf Try.prog 5 = some 1 := by kernel_rfl
theorem ag3 : zeroOf Try.prog 5 = (some (Value.int IntKind.u8 0)) := by kernel_rfl
theorem ahv : qX Try.prog 5 = some false := by kernel_rfl
theorem aex : Try.prog.underlying 9 = some TypeDesc.string := by kernel_rfl
theorem xI : Try.prog.underlying 23 = some (TypeDesc.slice 5) := by kernel_rfl
theorem adu : xP Try.prog 23 = some 1 := by kernel_rfl
theorem adF : qX Try.prog 23 = some false := by kernel_rfl
theorem aeG : Try.prog.underlying 25 = some (TypeDesc.struct #[{ name := "ID", type := 3, offset := 0, embedded := false, tag := "", pkgPath := "", byteOffset := 0 }, { name := "Fee", type := 3, offset := 1, embedded := false, tag := "", pkgPath := "", byteOffset := 8 }]) := by kernel_rfl
theorem xZ : xP Try.prog 25 = some 2 := by kernel_rfl
theorem afB : bytesOf Try.prog 25 = some 16 := by kernel_rfl
theorem afG : zeroOf Try.prog 25 = (some (Value.agg #[(Value.int IntKind.i64 0), (Value.int IntKind.i64 0)])) := by kernel_rfl
theorem KO : qX Try.prog 25 = some true := by kernel_rfl
theorem ZM : Try.prog.underlying 26 = some (TypeDesc.slice 25) := by kernel_rfl
theorem aaX : qX Try.prog 26 = some false := by kernel_rfl
theorem xG : xP Try.prog 28 = some 5 := by kernel_rfl
theorem Yj : qX Try.prog 28 = some true := by kernel_rfl
theorem Yq : xP Try.prog 30 = some 13 := by kernel_rfl
theorem adk : qX Try.prog 30 = some true := by kernel_rfl
theorem WW : Try.prog.underlying 42 = some (TypeDesc.int IntKind.u64) := by kernel_rfl
theorem KY : Try.prog.underlying 57 = some (TypeDesc.slice 3) := by kernel_rfl
theorem V4 : Try.prog.underlying 88 = some (TypeDesc.slice 23) := by kernel_rfl
theorem WB : Try.prog.underlying 100 = some (TypeDesc.map 3 4) := by kernel_rfl
theorem vX (q o : Nat) (S : zh) : zq Try.prog 25 (.pointer (some ⟨q, o, none⟩)) 0 S = some (.pointer (some ⟨q, o + 0, none⟩), S) := by kernel_rfl
theorem Yi (q o : Nat) (S : zh) : zq Try.prog 25 (.pointer (some ⟨q, o, none⟩)) 1 S = some (.pointer (some ⟨q, o + 1, none⟩), S) := by kernel_rfl
theorem jV (q o : Nat) (S : zh) : zq Try.prog 28 (.pointer (some ⟨q, o, none⟩)) 0 S = some (.pointer (some ⟨q, o + 0, none⟩), S) := by kernel_rfl
theorem jU (q o : Nat) (S : zh) : zq Try.prog 28 (.pointer (some ⟨q, o, none⟩)) 1 S = some (.pointer (some ⟨q, o + 1, none⟩), S) := by kernel_rfl
theorem jY (q o : Nat) (S : zh) : zq Try.prog 28 (.pointer (some ⟨q, o, none⟩)) 2 S = some (.pointer (some ⟨q, o + 2, none⟩), S) := by kernel_rfl
theorem jW (q o : Nat) (S : zh) : zq Try.prog 28 (.pointer (some ⟨q, o, none⟩)) 3 S = some (.pointer (some ⟨q, o + 3, none⟩), S) := by kernel_rfl
theorem jX (q o : Nat) (S : zh) : zq Try.prog 28 (.pointer (some ⟨q, o, none⟩)) 4 S = some (.pointer (some ⟨q, o + 4, none⟩), S) := by kernel_rfl
theorem zL (q o : Nat) (S : zh) : zq Try.prog 30 (.pointer (some ⟨q, o, none⟩)) 0 S = some (.pointer (some ⟨q, o + 0, none⟩), S) := by kernel_rfl
theorem zT (q o : Nat) (S : zh) : zq Try.prog 30 (.pointer (some ⟨q, o, none⟩)) 1 S = some (.pointer (some ⟨q, o + 1, none⟩), S) := by kernel_rfl
theorem je (q o : Nat) (S : zh) : zq Try.prog 30 (.pointer (some ⟨q, o, none⟩)) 2 S = some (.pointer (some ⟨q, o + 2, none⟩), S) := by kernel_rfl
theorem jg (q o : Nat) (S : zh) : zq Try.prog 30 (.pointer (some ⟨q, o, none⟩)) 3 S = some (.pointer (some ⟨q, o + 3, none⟩), S) := by kernel_rfl
theorem zQ (q o : Nat) (S : zh) : zq Try.prog 30 (.pointer (some ⟨q, o, none⟩)) 4 S = some (.pointer (some ⟨q, o + 4, none⟩), S) := by kernel_rfl
theorem jv (q o : Nat) (S : zh) : zq Try.prog 30 (.pointer (some ⟨q, o, none⟩)) 5 S = some (.pointer (some ⟨q, o + 5, none⟩), S) := by kernel_rfl
theorem jo (q o : Nat) (S : zh) : zq Try.prog 30 (.pointer (some ⟨q, o, none⟩)) 6 S = some (.pointer (some ⟨q, o + 6, none⟩), S) := by kernel_rfl
theorem jw (q o : Nat) (S : zh) : zq Try.prog 30 (.pointer (some ⟨q, o, none⟩)) 7 S = some (.pointer (some ⟨q, o + 8, none⟩), S) := by kernel_rfl
theorem vP {fx : Bool} {x0 x1 : Value} {S : zh} : zS Try.prog fx 25 (EP [x0, x1]) S = some (.agg [x0, x1].toArray, S) := adJ KO xZ rfl
theorem Xq {q : Nat} {x0 x1 : Value} {own : Own} {e : Nat} {S : zh} (h : S.get q = some (.cells [x0, x1] own e)) : zS Try.prog false 25 (.pointer (some ⟨q, 0, none⟩)) S = some (.agg [qU x0, qU x1].toArray, S) := (Jt (o := 0) h KO xZ (by simp)).trans (by simp)
theorem Xw {q : Nat} {x0 x1 x2 x3 x4 : Value} {own : Own} {e : Nat} {S : zh} (h : S.get q = some (.cells [x0, x1, x2, x3, x4] own e)) : zS Try.prog false 28 (.pointer (some ⟨q, 0, none⟩)) S = some (.agg [qU x0, qU x1, qU x2, qU x3, qU x4].toArray, S) := (Jt (o := 0) h Yj xG (by simp)).trans (by simp)
theorem aby {q : Nat} {x0 x1 x2 x3 x4 x5 x6 x7 x8 x9 x10 x11 x12 : Value} {own : Own} {e : Nat} {S : zh} (h : S.get q = some (.cells [x0, x1, x2, x3, x4, x5, x6, x7, x8, x9, x10, x11, x12] own e)) : zS Try.prog false 30 (.pointer (some ⟨q, 0, none⟩)) S = some (.agg [qU x0, qU x1, qU x2, qU x3, qU x4, qU x5, qU x6, qU x7, qU x8, qU x9, qU x10, qU x11, qU x12].toArray, S) := (Jt (o := 0) h adk Yq (by simp)).trans (by simp)
theorem JQ  (S : zh) : yA Try.prog 25 [] S = some (.agg [(Value.int IntKind.i64 0), (Value.int IntKind.i64 0)].toArray, S) := by
 kernel_rfl
theorem KR {y0 y1 : Value} (h0 : y0.cells = #[y0]) (h1 : y1.cells = #[y1]) (S : zh) : yA Try.prog 25 [(0, y0), (1, y1)] S = some (.agg [y0, y1].toArray, S) := by
 rw [show yA Try.prog 25 [(0, y0), (1, y1)] S = (match xW ([(0, 1), (1, 1)][·]?) [(Value.int IntKind.i64 0), (Value.int IntKind.i64 0)] [(0, y0), (1, y1)] with | some l => some (.agg l.toArray, S) | none => none) from by kernel_rfl]
 simp [xW, splice, y7, h0, h1]
theorem Xm  (S : zh) : yA Try.prog 28 [] S = some (.agg [(Value.int IntKind.i64 0), (Value.int IntKind.i64 0), (Value.int IntKind.i64 0), (Value.int IntKind.i64 0), (Value.slice none 0 0)].toArray, S) := by
 kernel_rfl
theorem Zj {y0 y1 y2 y3 y4 : Value} (h0 : y0.cells = #[y0]) (h1 : y1.cells = #[y1]) (h2 : y2.cells = #[y2]) (h3 : y3.cells = #[y3]) (h4 : y4.cells = #[y4]) (S : zh) : yA Try.prog 28 [(0, y0), (1, y1), (2, y2), (3, y3), (4, y4)] S = some (.agg [y0, y1, y2, y3, y4].toArray, S) := by
 rw [show yA Try.prog 28 [(0, y0), (1, y1), (2, y2), (3, y3), (4, y4)] S = (match xW ([(0, 1), (1, 1), (2, 1), (3, 1), (4, 1)][·]?) [(Value.int IntKind.i64 0), (Value.int IntKind.i64 0), (Value.int IntKind.i64 0), (Value.int IntKind.i64 0), (Value.slice none 0 0)] [(0, y0), (1, y1), (2, y2), (3, y3), (4, y4)] with | some l => some (.agg l.toArray, S) | none => none) from by kernel_rfl]
 simp [xW, splice, y7, h0, h1, h2, h3, h4]
theorem abq  (S : zh) : yA Try.prog 30 [] S = some (.agg [(Value.int IntKind.i64 0), (Value.int IntKind.i64 0), (Value.int IntKind.i64 0), (Value.int IntKind.i64 0), (Value.int IntKind.i64 0), (Value.int IntKind.i64 0), (Value.int IntKind.i64 0), (Value.int IntKind.i64 0), (Value.int IntKind.i64 0), (Value.int IntKind.i64 0), (Value.int IntKind.i64 0), (Value.int IntKind.i64 0), (Value.slice none 0 0)].toArray, S) := by
 kernel_rfl
theorem yZ {y0 y1 : Value} (h0 : y0.cells = #[y0]) (h1 : y1.cells = #[y1]) (S : zh) : yA Try.prog 30 [(0, y0), (1, y1)] S = some (.agg [y0, y1, (Value.int IntKind.i64 0), (Value.int IntKind.i64 0), (Value.int IntKind.i64 0), (Value.int IntKind.i64 0), (Value.int IntKind.i64 0), (Value.int IntKind.i64 0), (Value.int IntKind.i64 0), (Value.int IntKind.i64 0), (Value.int IntKind.i64 0), (Value.int IntKind.i64 0), (Value.slice none 0 0)].toArray, S) := by
 rw [show yA Try.prog 30 [(0, y0), (1, y1)] S = (match xW ([(0, 1), (1, 1), (2, 1), (3, 1), (4, 1), (5, 1), (6, 2), (8, 5)][·]?) [(Value.int IntKind.i64 0), (Value.int IntKind.i64 0), (Value.int IntKind.i64 0), (Value.int IntKind.i64 0), (Value.int IntKind.i64 0), (Value.int IntKind.i64 0), (Value.int IntKind.i64 0), (Value.int IntKind.i64 0), (Value.int IntKind.i64 0), (Value.int IntKind.i64 0), (Value.int IntKind.i64 0), (Value.int IntKind.i64 0), (Value.slice none 0 0)] [(0, y0), (1, y1)] with | some l => some (.agg l.toArray, S) | none => none) from by kernel_rfl]
 simp [xW, splice, y7, h0, h1]
theorem Zn {y0 y1 y2 y3 y4 y5 : Value} (h0 : y0.cells = #[y0]) (h1 : y1.cells = #[y1]) (h2 : y2.cells = #[y2]) (h3 : y3.cells = #[y3]) (h4 : y4.cells = #[y4]) (h5 : y5.cells = #[y5]) (S : zh) : yA Try.prog 30 [(0, y0), (1, y1), (2, y2), (3, y3), (4, y4), (5, y5)] S = some (.agg [y0, y1, y2, y3, y4, y5, (Value.int IntKind.i64 0), (Value.int IntKind.i64 0), (Value.int IntKind.i64 0), (Value.int IntKind.i64 0), (Value.int IntKind.i64 0), (Value.int IntKind.i64 0), (Value.slice none 0 0)].toArray, S) := by
 rw [show yA Try.prog 30 [(0, y0), (1, y1), (2, y2), (3, y3), (4, y4), (5, y5)] S = (match xW ([(0, 1), (1, 1), (2, 1), (3, 1), (4, 1), (5, 1), (6, 2), (8, 5)][·]?) [(Value.int IntKind.i64 0), (Value.int IntKind.i64 0), (Value.int IntKind.i64 0), (Value.int IntKind.i64 0), (Value.int IntKind.i64 0), (Value.int IntKind.i64 0), (Value.int IntKind.i64 0), (Value.int IntKind.i64 0), (Value.int IntKind.i64 0), (Value.int IntKind.i64 0), (Value.int IntKind.i64 0), (Value.int IntKind.i64 0), (Value.slice none 0 0)] [(0, y0), (1, y1), (2, y2), (3, y3), (4, y4), (5, y5)] with | some l => some (.agg l.toArray, S) | none => none) from by kernel_rfl]
 simp [xW, splice, y7, h0, h1, h2, h3, h4, h5]
@[simp] theorem Jz (k : IntKind) (n : Int) (H : zh) : yJ Try.prog 3 42 (.int k n) H = some (.int IntKind.u64 (IntKind.wrap IntKind.u64 n), H) := J4 afh WW k n
@[simp] theorem xO (k : IntKind) (n : Int) (H : zh) : yJ Try.prog 5 42 (.int k n) H = some (.int IntKind.u64 (IntKind.wrap IntKind.u64 n), H) := J4 VF WW k n
@[simp] theorem KQ (k : IntKind) (n : Int) (H : zh) : yJ Try.prog 42 3 (.int k n) H = some (.int IntKind.i64 (IntKind.wrap IntKind.i64 n), H) := J4 WW afh k n
@[simp] theorem xB (k : IntKind) (n : Int) (H : zh) : yJ Try.prog 42 5 (.int k n) H = some (.int IntKind.u8 (IntKind.wrap IntKind.u8 n), H) := J4 WW VF k n
theorem vg (S : zh) : jy Try.prog 23 0 [] S = some (sv 2 1 0 [], S) := by kernel_rfl
theorem xY (x0 : Int) (S : zh) : jy Try.prog 23 1 [(0, .int IntKind.u8 x0)] S = some (sv 2 1 1 [.int IntKind.u8 x0], S) := by kernel_rfl
theorem Qc (x0 : Int) (S : zh) : jy Try.prog 57 1 [(0, .int IntKind.i64 x0)] S = some (sv 2 1 1 [.int IntKind.i64 x0], S) := by kernel_rfl
theorem abE (x0 x1 : Int) (S : zh) : jy Try.prog 57 2 [(0, .int IntKind.i64 x0), (1, .int IntKind.i64 x1)] S = some (sv 2 1 2 [.int IntKind.i64 x0, .int IntKind.i64 x1], S) := by kernel_rfl
theorem ZW {k : Nat} {l : List UInt8} {S : zh} (h : Okl k l) : ZT Try.prog 23 (by_ k l) S = some (goInt l.length, S) := ac6 xI h
theorem ahl {k : Nat} {l : List UInt8} {S : zh} {ki : IntKind} {i : Int} (h : Okl k l) (h0 : 0 ≤ i) (hi : i < l.length) : zW Try.prog 23 (by_ k l) (.int ki i) S = some (EP [.int .u8 (l[i.toNat]'(by omega)).toNat], S) := agN xI V8 aao h h0 hi
theorem KZ {fx : Bool} {v : Value} {S : zh} : zS Try.prog fx 5 (EP [v]) S = some (v, S) := YC ahv
theorem aav {k : Nat} {l : List UInt8} {S : zh} {lo hi : Option Value} {i j : Int} (h : Okl k l) (hlo : kX 0 lo = some i) (hhi : kX l.length hi = some j) (h0 : 0 ≤ i) (hij : i ≤ j) (hj : j ≤ l.length) : vM Try.prog 23 (by_ k l) lo hi S = some (by_ (if k = 2 then 1 else k) ((l.drop i.toNat).take (j.toNat - i.toNat)), S) := afu xI V8 aao h hlo hhi h0 hij hj
theorem qF {k : Nat} {l : List UInt8} {S : zh} {j : Nat} {m : List UInt8} (h : Okl k l) (hk : k ≠ 1) (hm : Okl j m) (hl : l.length + m.length ≤ 140737488355328) : wz Try.prog 23 23 (by_ k l) (by_ j m) S = some (by_ (if k = 0 ∧ m.length = 0 then 0 else 2) (l ++ m), S) := YK xI V8 ag3 rfl agT (by omega) xI aao aiD h hk hm (by omega) (by omega)
theorem afo {k : Nat} {l : List UInt8} {S : zh} (h : Okl k l) : jT Try.prog .eql 23 (by_ k l) (.slice none 0 0) S = some (.bool (decide (k = 0)), S) := aff xI h
theorem aiE {k : Nat} {l : List UInt8} {S : zh} (h : Okl k l) : Jk Try.prog 23 9 (by_ k l) S = some (.string ⟨l.toArray⟩, S) := aef xI VF aex h
theorem agj {k : Nat} {l : List Int} {S : zh} (h : Okl k l) : ZT Try.prog 57 (iz k l) S = some (goInt l.length, S) := ac6 KY h
theorem ab6 {k : Nat} {l : List Int} {S : zh} {ki : IntKind} {i : Int} (h : Okl k l) (h0 : 0 ≤ i) (hi : i < l.length) : zW Try.prog 57 (iz k l) (.int ki i) S = some (EP [.int .i64 (l[i.toNat]'(by omega))], S) := agN KY Vz agh h h0 hi
theorem qZ {fx : Bool} {v : Value} {S : zh} : zS Try.prog fx 3 (EP [v]) S = some (v, S) := YC ZV
theorem ac5 {k : Nat} {l : List Int} {S : zh} {j : Nat} {m : List Int} (h : Okl k l) (hk : k ≠ 1) (hm : Okl j m) (hl : l.length + m.length ≤ 17592186044416) : wz Try.prog 57 57 (iz k l) (iz j m) S = some (iz (if k = 0 ∧ m.length = 0 then 0 else 2) (l ++ m), S) := YK KY Vz ai2 rfl ai1 (by omega) KY agh aii h hk hm (by omega) (by omega)
theorem wk : type_of% (And.intro @Y8 (And.intro @JL (And.intro @WA (And.intro @Yb (And.intro @Qq (And.intro @YB (And.intro @YI (And.intro @YE (And.intro @Wx (And.intro @Xy (And.intro @Yy (And.intro @Xc (And.intro @aaR (And.intro @Js (And.intro @Ql (And.intro @Ym (And.intro @Qn (And.intro @YS (And.intro @YA (And.intro @af4 (And.intro @agD (And.intro @agw (And.intro @afX (And.intro @af7 (And.intro @VI (And.intro @V3 (And.intro @aed (And.intro @adx (And.intro @acv (And.intro @aaK (And.intro @WL (And.intro @Xt (And.intro @Bool.and_true (And.intro @Bool.true_and (And.intro @Bool.and_self (And.intro @aay (And.intro @vU (And.intro @Qk (And.intro @Xk (And.intro @Yo (And.intro @afU (And.intro @agu (And.intro @afP (And.intro @agy (And.intro @aiK (And.intro @aiq (And.intro @ah4 (And.intro @aiH (And.intro @ahW (And.intro @afR (And.intro @agr (And.intro @afO (And.intro @agb (And.intro @agz (And.intro @adP (And.intro @Qb (And.intro @Bool.false_eq_true (And.intro @aaG (And.intro @adq (And.intro @Qj (And.intro @X4 (And.intro @XD (And.intro @afV (And.intro @Xr (And.intro @agi (And.intro @Yp (And.intro @ab4 (And.intro @aai (And.intro @Y2 (And.intro @ad7 (And.intro @acV (And.intro @aaf (And.intro @Yu (And.intro @XZ (And.intro @ade (And.intro @adZ (And.intro @aaC (And.intro @KG (And.intro @aaB (And.intro @YP (And.intro @Xv (And.intro @Xj (And.intro @Qo (And.intro @JC (And.intro @Jc (And.intro @YR (And.intro @Xe (And.intro @Wn (And.intro @Qm (And.intro @ZY (And.intro @Ja (And.intro @Z7 (And.intro @KT (And.intro @Ky (And.intro @WT (And.intro @QX (And.intro @Ku (And.intro @KH (And.intro @KU (And.intro @Kv (And.intro @QM (And.intro @adM (And.intro @Bool.not_true (And.intro @Bool.not_false (And.intro @Bool.true_eq_false (And.intro @decide_true (And.intro @decide_false (And.intro @ach (And.intro @ace (And.intro @ad2 (And.intro @acS (And.intro @acA (And.intro @adE (And.intro @adh (And.intro @acR (And.intro @acT (And.intro @aec (And.intro @ac7 (And.intro @acn (And.intro @adw (And.intro @abW (@ab8)))))))))))))))))))))))))))))))))))))))))))))))))))))))))))))))))))))))))))))))))))))))))))))))))))))))))))))))))))))))))) := And.intro @Y8 (And.intro @JL (And.intro @WA (And.intro @Yb (And.intro @Qq (And.intro @YB (And.intro @YI (And.intro @YE (And.intro @Wx (And.intro @Xy (And.intro @Yy (And.intro @Xc (And.intro @aaR (And.intro @Js (And.intro @Ql (And.intro @Ym (And.intro @Qn (And.intro @YS (And.intro @YA (And.intro @af4 (And.intro @agD (And.intro @agw (And.intro @afX (And.intro @af7 (And.intro @VI (And.intro @V3 (And.intro @aed (And.intro @adx (And.intro @acv (And.intro @aaK (And.intro @WL (And.intro @Xt (And.intro @Bool.and_true (And.intro @Bool.true_and (And.intro @Bool.and_self (And.intro @aay (And.intro @vU (And.intro @Qk (And.intro @Xk (And.intro @Yo (And.intro @afU (And.intro @agu (And.intro @afP (And.intro @agy (And.intro @aiK (And.intro @aiq (And.intro @ah4 (And.intro @aiH (And.intro @ahW (And.intro @afR (And.intro @agr (And.intro @afO (And.intro @agb (And.intro @agz (And.intro @adP (And.intro @Qb (And.intro @Bool.false_eq_true (And.intro @aaG (And.intro @adq (And.intro @Qj (And.intro @X4 (And.intro @XD (And.intro @afV (And.intro @Xr (And.intro @agi (And.intro @Yp (And.intro @ab4 (And.intro @aai (And.intro @Y2 (And.intro @ad7 (And.intro @acV (And.intro @aaf (And.intro @Yu (And.intro @XZ (And.intro @ade (And.intro @adZ (And.intro @aaC (And.intro @KG (And.intro @aaB (And.intro @YP (And.intro @Xv (And.intro @Xj (And.intro @Qo (And.intro @JC (And.intro @Jc (And.intro @YR (And.intro @Xe (And.intro @Wn (And.intro @Qm (And.intro @ZY (And.intro @Ja (And.intro @Z7 (And.intro @KT (And.intro @Ky (And.intro @WT (And.intro @QX (And.intro @Ku (And.intro @KH (And.intro @KU (And.intro @Kv (And.intro @QM (And.intro @adM (And.intro @Bool.not_true (And.intro @Bool.not_false (And.intro @Bool.true_eq_false (And.intro @decide_true (And.intro @decide_false (And.intro @ach (And.intro @ace (And.intro @ad2 (And.intro @acS (And.intro @acA (And.intro @adE (And.intro @adh (And.intro @acR (And.intro @acT (And.intro @aec (And.intro @ac7 (And.intro @acn (And.intro @adw (And.intro @abW (@ab8)))))))))))))))))))))))))))))))))))))))))))))))))))))))))))))))))))))))))))))))))))))))))))))))))))))))))))))))))))))))))
theorem zSs : type_of% (And.intro wk (And.intro (@List.getD_cons_succ Value) (And.intro (@List.getD_cons_zero Value) (And.intro @if_true.{1} (And.intro @if_false.{1} (And.intro (@List.getElem?_cons_succ Value) (And.intro (@List.getElem?_cons_zero Value) (And.intro @Option.map_some.{0,0} @eq_self.{1})))))))) := And.intro wk (And.intro (@List.getD_cons_succ Value) (And.intro (@List.getD_cons_zero Value) (And.intro @if_true.{1} (And.intro @if_false.{1} (And.intro (@List.getElem?_cons_succ Value) (And.intro (@List.getElem?_cons_zero Value) (And.intro @Option.map_some.{0,0} @eq_self.{1})))))))
end Go.Proofs.Ytbgcphbbchndkaa
namespace Go.Proofs.Ytbgcphbbchndkaa
open Go.Abs
def enc (n : Nat) : List UInt8 := if n < 128 then [UInt8.ofNat n] else UInt8.ofNat (n % 128 + 128) :: enc (n / 128)
termination_by n
decreasing_by omega
theorem kD {n : Nat} (h : n < 128) : enc n = [UInt8.ofNat n] := by rw [enc, if_pos h]
theorem Jd {n : Nat} (h : ¬ n < 128) : enc n = UInt8.ofNat (n % 128 + 128) :: enc (n / 128) := by rw [enc, if_neg h]
theorem wrap_u8 (n : Nat) : IntKind.u8.wrap (n : Int) = ((n % 256 : Nat) : Int) := by
 simp [IntKind.wrap, IntKind.bits, IntKind.signed]
theorem wrap_u64 (n : Nat) : IntKind.u64.wrap (n : Int) = ((n % 2 ^ 64 : Nat) : Int) := by
 simp [IntKind.wrap, IntKind.bits, IntKind.signed]
theorem aiW : ∀ m : Fin 256, orI .u8 (m.val : Int) 128 = ((m.val % 128 + 128 : Nat) : Int) := by decide +kernel
theorem ahr (n : Nat) : orI .u8 (IntKind.u8.wrap (n : Int)) 128 = ((UInt8.ofNat (n % 128 + 128)).toNat : Int) := by
 rw [wrap_u8, aiW ⟨n % 256, by omega⟩]
 simp only [UInt8.toNat_ofNat']
 omega
theorem Vd {n : Nat} : IntKind.u8.wrap (n : Int) = ((UInt8.ofNat n).toNat : Int) := by
 rw [wrap_u8]
 simp
theorem ajf (n : Nat) : (n : Int).fdiv (2 ^ min (Int.toNat 7) (IntKind.bits .u64)) = ((n / 128 : Nat) : Int) := by
 have : (2 : Int) ^ min (Int.toNat 7) (IntKind.bits .u64) = 128 := by decide
 rw [this, Int.fdiv_eq_ediv_of_nonneg _ (by omega)]
 omega
theorem abY (k : Nat) : ∀ n, n < 128 ^ (k + 1) → (enc n).length ≤ k + 1 := by
 induction k with
 | zero => intro n h; rw [kD (by omega)]; simp
 | succ k ih =>
  intro n h
  by_cases hn : n < 128
  ·
   rw [kD hn]; simp
  ·
   rw [Jd hn]
   have := ih (n / 128) (by rw [Nat.div_lt_iff_lt_mul (by omega)]; exact h)
   simp only [List.length_cons]; omega
theorem xM {n : Nat} (h : n < 2 ^ 64) : (enc n).length ≤ 10 := abY 9 n (Nat.lt_of_lt_of_le h (by decide))
theorem acB (n : Nat) : (n : Int).tmod 128 = ((n % 128 : Nat) : Int) := by
 rw [Int.tmod_eq_emod_of_nonneg (by omega)]; omega
theorem agL (n : Nat) (h : n < 2 ^ 64) : IntKind.u64.wrap ((n : Int).tdiv 128) = ((n / 128 : Nat) : Int) := by
 rw [Int.tdiv_eq_ediv_of_nonneg (by omega), show (n : Int) / 128 = ((n / 128 : Nat) : Int) by omega, wrap_u64]
 omega
theorem aiZ (n : Nat) : IntKind.u8.wrap ((n % 128 : Nat) : Int) = ((UInt8.ofNat (n % 128)).toNat : Int) := Vd
theorem ahm (n : Nat) : IntKind.u8.wrap (((UInt8.ofNat (n % 128)).toNat : Int) + 128) = ((UInt8.ofNat (n % 128 + 128)).toNat : Int) := by
 have : ((UInt8.ofNat (n % 128)).toNat : Int) + 128 = ((n % 128 + 128 : Nat) : Int) := by simp only [UInt8.toNat_ofNat']; omega
 rw [this]; exact Vd
theorem aeM : sv 2 1 0 [] = by_ 2 [] := rfl
theorem aev (x : UInt8) : sv 2 1 1 [.int .u8 x.toNat] = by_ 2 [x] := rfl
theorem VQ {k : Nat} {l : List UInt8} {x : UInt8} {S : zh} (h : Okl k l) (hk : k ≠ 1) (hl : l.length ≤ 140737488355000) : wz Try.prog 23 23 (by_ k l) (by_ 2 [x]) S = some (by_ 2 (l ++ [x]), S) := by
 rw [qF h hk Okl.own (by simp; omega), if_neg (fun h => by have := h.2; simp at this)]
theorem jF.round : ∀ (n : Nat) (l : List UInt8) (k : Nat) {T : List Value} {S : zh} {r : St}, qm (zu Try.prog O false jF.jr) T S = r → T.length = 19 → T.getD 0 undef = .int .u64 n → T.getD 3 undef = by_ k l →
  Okl k l → k ≠ 1 → n * 2 ^ l.length < 2 ^ 64 → ∃ T' l' k' n', r = some (.exit 0, T', S) ∧ T'.length = 19 ∧ T'.getD 0 undef = .int .u64 (n' : Nat) ∧ T'.getD 3 undef = by_ k' l' ∧
   Okl k' l' ∧ k' ≠ 1 ∧ n' < 128 ∧ l' ++ [UInt8.ofNat n'] = l ++ enc n := by
 intro n
 induction n using Nat.strongRecOn with
 | _ n ih =>
  intro l k T S r hL hT h0 h3 hs hk hl
  obtain ⟨x0, x1, x2, x3, x4, x5, x6, x7, x8, x9, x10, x11, x12, x13, x14, x15, x16, x17, x18, hTe⟩ := jF.list hT
  rw [hTe] at h0 h3
  simp only [List.getD_cons_succ, List.getD_cons_zero] at h0 h3
  subst h0 h3
  have hr : zu Try.prog O false jF.jr T S = zu Try.prog O false jF.jr T S := rfl
  by_cases hlt : n < 128
  ·
   have hd : decide ((128 : Int) ≤ (n : Int)) = false := by simp; omega
   conv at hr =>
    rhs
    rw [hTe]
    simp only [jF.jr, zSs, reduceIte, Nat.reduceEqDiff, Int.reduceEq, Int.reduceLT, Int.reduceLE, jF.r2, hd]
   exact ⟨_, l, k, n, hL.symm.trans (jO hr (by simp)), rfl, rfl, rfl, hs, hk, hlt, by rw [kD hlt]⟩
  ·
   have hd : decide ((128 : Int) ≤ (n : Int)) = true := by simp; omega
   have hll : l.length < 64 := by
    have : 2 ^ l.length < 2 ^ 64 := Nat.lt_of_le_of_lt (Nat.le_mul_of_pos_left _ (by omega)) hl
    exact (Nat.pow_lt_pow_iff_right (by omega)).1 this
   have e1 : ∀ x S, wz Try.prog 23 23 (by_ k l) (by_ 2 [x]) S = some (by_ 2 (l ++ [x]), S) := fun x S => VQ hs hk (by omega)
   conv at hr =>
    rhs
    rw [hTe]
    simp only [jF.jr, zSs, reduceIte, Nat.reduceEqDiff, Int.reduceEq, Int.reduceLT, Int.reduceLE, jF.r2, hd, jF.r3, xB, acZ, ahr, xY, aev, e1, jF.r4, aaD _ _ _ _ (show (0 : Int) ≤ 7 by omega), ajf]
   have hmul : n / 128 * 2 ^ (l.length + 1) < 2 ^ 64 := by
    refine Nat.lt_of_le_of_lt ?_ hl
    rw [Nat.pow_succ, Nat.mul_comm (2 ^ l.length) 2, ← Nat.mul_assoc]
    exact Nat.mul_le_mul_right _ (by omega)
   obtain ⟨T', l', k', n', g1, g2, g3, g4, g5, g6, g7, g8⟩ := ih (n / 128) (by omega) _ 2 ((yx hr).symm.trans hL) rfl rfl rfl Okl.own (by decide) (by simpa using hmul)
   refine ⟨T', l', k', n', g1, g2, g3, g4, g5, g6, g7, ?_⟩
   rw [g8, Jd hlt, List.append_assoc]; rfl
theorem jF.v (n : Nat) (hn : n < 2 ^ 64) (S : zh) : zM Try.prog O jF.id [.int .u64 n] S = some (by_ 2 (enc n), S) := by
 obtain ⟨T, hTe⟩ : ∃ T, T = (.int .u64 n :: undef :: undef :: undef :: undef :: undef :: undef :: undef :: undef :: undef :: undef :: undef :: undef :: undef :: undef :: undef :: undef :: undef :: undef :: []) := ⟨_, rfl⟩
 have hr : zu Try.prog O false jF.code T S = zu Try.prog O false jF.code T S := rfl
 conv at hr =>
  rhs
  rw [hTe]
  simp only [jF.code, zSs, reduceIte, Nat.reduceEqDiff, Int.reduceEq, Int.reduceLT, Int.reduceLE, jF.r0, jF.r1]
 generalize hL : qm (zu Try.prog O false jF.jr) _ _ = r at hr
 obtain ⟨T', l', k', n', rfl, g2, g3, g4, g5, g6, g7, g8⟩ := jF.round n [] 0 hL rfl rfl rfl Okl.none (by decide) (by simpa using hn)
 obtain ⟨x0, x1, x2, x3, x4, x5, x6, x7, x8, x9, x10, x11, x12, x13, x14, x15, x16, x17, x18, hT'⟩ := jF.list g2
 rw [hT'] at g3 g4
 simp only [List.getD_cons_succ, List.getD_cons_zero] at g3 g4
 subst g3 g4
 have hlen : l'.length + 1 = (enc n).length := by simpa using congrArg List.length g8
 have h10 := xM hn
 have e1 : ∀ x S, wz Try.prog 23 23 (by_ k' l') (by_ 2 [x]) S = some (by_ 2 (l' ++ [x]), S) := fun x S => VQ g5 g6 (by omega)
 conv at hr =>
  rhs
  rw [hT']
  simp only [zSs, reduceIte, Nat.reduceEqDiff, Int.reduceEq, Int.reduceLT, Int.reduceLE, jF.r5, xB, Vd, xY, aev, e1]
 rw [hTe] at hr
 have := jF.runs hr (.inr rfl)
 rw [List.nil_append] at g8
 rw [← g8]
 exact this
theorem zy.round : ∀ (n : Nat) (l : List UInt8) {T : List Value} {S : zh} {r : St}, qm (zu Try.prog O false zy.jr) T S = r → T.length = 22 → T.getD 0 undef = .int .u64 n → T.getD 3 undef = by_ 2 l →
  n * 2 ^ l.length < 2 ^ 64 → l.length < 64 → ∃ T', r = some (.ret, T', S) ∧ T'.getD 2 undef = by_ 2 (l ++ enc n) := by
 intro n
 induction n using Nat.strongRecOn with
 | _ n ih =>
  intro l T S r hL hT h0 h3 hl hll
  obtain ⟨x0, x1, x2, x3, x4, x5, x6, x7, x8, x9, x10, x11, x12, x13, x14, x15, x16, x17, x18, x19, x20, x21, hTe⟩ := zy.list hT
  rw [hTe] at h0 h3
  simp only [List.getD_cons_succ, List.getD_cons_zero] at h0 h3
  subst h0 h3
  have hn : n < 2 ^ 64 := Nat.lt_of_le_of_lt (Nat.le_mul_of_pos_right _ (by exact Nat.two_pow_pos _)) hl
  have e1 : ∀ x S, wz Try.prog 23 23 (by_ 2 l) (by_ 2 [x]) S = some (by_ 2 (l ++ [x]), S) := fun x S => VQ Okl.own (by decide) (by omega)
  have hr : zu Try.prog O false zy.jr T S = zu Try.prog O false zy.jr T S := rfl
  conv at hr =>
   rhs
   rw [hTe]
   simp only [zy.jr, zSs, reduceIte, Nat.reduceEqDiff, Int.reduceEq, Int.reduceLT, Int.reduceLE, zy.r2, zy.r3, zy.r4, Kt _ _ _ (show (128 : Int) ≠ 0 by omega), ZI _ _ _ (show (128 : Int) ≠ 0 by omega), acB, agL n hn, xB, aiZ]
  by_cases hz : n / 128 = 0
  ·
   have hd : decide (((n / 128 : Nat) : Int) = 0) = true := by simp; omega
   conv at hr =>
    rhs
    simp only [hd, zSs, reduceIte, Nat.reduceEqDiff, Int.reduceEq, Int.reduceLT, Int.reduceLE, zy.r5, xY, aev, e1]
   refine ⟨_, hL.symm.trans (jO hr (by simp)), ?_⟩
   rw [kD (by omega)]
   simp only [List.getD_cons_succ, List.getD_cons_zero]
   rw [show n % 128 = n by omega]
  ·
   have hd : decide (((n / 128 : Nat) : Int) = 0) = false := by simp; omega
   conv at hr =>
    rhs
    simp only [hd, zSs, reduceIte, Nat.reduceEqDiff, Int.reduceEq, Int.reduceLT, Int.reduceLE, zy.r6, ahm, xY, aev, e1]
   have hmul : n / 128 * 2 ^ (l.length + 1) < 2 ^ 64 := by
    refine Nat.lt_of_le_of_lt ?_ hl
    rw [Nat.pow_succ, Nat.mul_comm (2 ^ l.length) 2, ← Nat.mul_assoc]
    exact Nat.mul_le_mul_right _ (by omega)
   have hl2 : l.length + 1 < 64 := by
    have : 2 ^ (l.length + 1) < 2 ^ 64 := Nat.lt_of_le_of_lt (Nat.le_mul_of_pos_left _ (by omega)) hmul
    exact (Nat.pow_lt_pow_iff_right (by omega)).1 this
   obtain ⟨T', g1, g2⟩ := ih (n / 128) (by omega) _ ((yx hr).symm.trans hL) rfl rfl rfl (by simpa using hmul) (by simpa using hl2)
   refine ⟨T', g1, ?_⟩
   rw [g2, Jd (n := n) (by omega), List.append_assoc]
   rfl
theorem zy.v (n : Nat) (hn : n < 2 ^ 64) (S : zh) : zM Try.prog O zy.id [.int .u64 n] S = some (by_ 2 (enc n), S) := by
 obtain ⟨T, hTe⟩ : ∃ T, T = (.int .u64 n :: undef :: undef :: undef :: undef :: undef :: undef :: undef :: undef :: undef :: undef :: undef :: undef :: undef :: undef :: undef :: undef :: undef :: undef :: undef :: undef :: undef :: []) := ⟨_, rfl⟩
 have hr : zu Try.prog O false zy.code T S = zu Try.prog O false zy.code T S := rfl
 conv at hr =>
  rhs
  rw [hTe]
  simp only [zy.code, zSs, reduceIte, Nat.reduceEqDiff, Int.reduceEq, Int.reduceLT, Int.reduceLE, zy.r0, zy.r1, vg, aeM]
 generalize hL : qm (zu Try.prog O false zy.jr) _ _ = r at hr
 obtain ⟨T', rfl, g2⟩ := zy.round n [] hL rfl rfl rfl (by simpa using hn) (by simp)
 conv at hr =>
  rhs
  simp only [zSs, reduceIte, Nat.reduceEqDiff, Int.reduceEq, Int.reduceLT, Int.reduceLE]
 rw [hTe] at hr
 have hrun := zy.runs hr (.inr rfl)
 rw [g2] at hrun
 exact hrun
end Go.Proofs.Ytbgcphbbchndkaa
namespace Go.Proofs.Ytbgcphbbchndkaa
open Go.Abs
theorem slices_Clone.v {k : Nat} {l : List UInt8} (h : Okl k l) (hk : k ≠ 2) (hl : l.length ≤ 140737488355328) (S : zh) : zM Try.prog O slices_Clone.id [by_ k l] S = some (by_ (if k = 0 then 0 else 2) l, S) := by
 obtain ⟨T, hTe⟩ : ∃ T, T = (by_ k l :: undef :: undef :: undef :: undef :: undef :: undef :: undef :: []) := ⟨_, rfl⟩
 have hr : zu Try.prog O false slices_Clone.code T S = zu Try.prog O false slices_Clone.code T S := rfl
 conv at hr =>
  rhs
  rw [hTe]
  simp only [slices_Clone.code, zSs, reduceIte, Nat.reduceEqDiff, Int.reduceEq, Int.reduceLT, Int.reduceLE, slices_Clone.r0, slices_Clone.r1, if_neg hk, afo h]
 by_cases h0 : k = 0
 ·
  have hl0 := h.nil h0
  subst h0 hl0
  conv at hr =>
   rhs
   simp only [decide_true, zSs, reduceIte, Nat.reduceEqDiff, Int.reduceEq, Int.reduceLT, Int.reduceLE, slices_Clone.r2]
  rw [hTe] at hr
  exact slices_Clone.runs hr (.inr rfl)
 ·
  have e1 : ∀ S, wz Try.prog 23 23 (by_ 2 []) (by_ k l) S = some (by_ 2 l, S) := fun S => by
   rw [qF Okl.own (by decide) h (by simpa using hl)]; rfl
  conv at hr =>
   rhs
   simp only [h0, decide_false, zSs, reduceIte, Nat.reduceEqDiff, Int.reduceEq, Int.reduceLT, Int.reduceLE, slices_Clone.r3, vg, aeM, if_neg hk, e1]
  rw [hTe] at hr
  rw [if_neg h0]
  exact slices_Clone.runs hr (.inr rfl)
def scan : Nat → Nat → List UInt8 → Option (Nat × List UInt8)
 | _, _, [] => none
 | i, acc, x :: r => if (i = 9 ∧ 1 < x.toNat) ∨ (0 < i ∧ x.toNat = 0) then none else if x.toNat < 128 then some (acc + x.toNat * 128 ^ i, r) else scan (i + 1) (acc + (x.toNat - 128) * 128 ^ i) r
def Kw (l : List UInt8) : Value :=
 match scan 0 0 l with
 | none => .tuple #[.int .u64 0, .slice none 0 0, .int .i64 11]
 | some (m, rest) => .tuple #[.int .u64 (m : Nat), by_ 2 rest, .int .i64 0]
theorem zG.stop (x0 x1 x2 x3 x4 x5 x6 x7 x8 x9 x10 x11 x12 x13 x14 x15 x16 x17 x18 x19 x20 x21 x22 x23 x24 x25 x26 x27 x28 x29 x30 x31 x32 x33 x34 x35 x36 x37 x38 x39 x40 x41 x42 x43 x44 x45 : Value) (i x : Int) (S : zh) (h6 : x6 = .int .i64 i) (h7 : x7 = .int .u8 x) : ∃ y15 y16 y17 y18 y19 y20 y21 y22 y23 y24 y25 y26 y27, jc Try.prog ⟨false, false, false⟩ (zM Try.prog O) (reg Try.f24 5) (reg Try.f24 5).toList (x0 :: x1 :: x2 :: x3 :: x4 :: x5 :: x6 :: x7 :: x8 :: x9 :: x10 :: x11 :: x12 :: x13 :: x14 :: x15 :: x16 :: x17 :: x18 :: x19 :: x20 :: x21 :: x22 :: x23 :: x24 :: x25 :: x26 :: x27 :: x28 :: x29 :: x30 :: x31 :: x32 :: x33 :: x34 :: x35 :: x36 :: x37 :: x38 :: x39 :: x40 :: x41 :: x42 :: x43 :: x44 :: x45 :: []) S =
  some ((x0 :: x1 :: x2 :: x3 :: x4 :: x5 :: x6 :: x7 :: x8 :: x9 :: x10 :: x11 :: x12 :: x13 :: x14 :: y15 :: y16 :: y17 :: y18 :: y19 :: y20 :: y21 :: y22 :: y23 :: y24 :: y25 :: y26 :: y27 :: .bool (decide ((i = 9 ∧ 1 < x) ∨ (0 < i ∧ x = 0))) :: x29 :: x30 :: x31 :: x32 :: x33 :: x34 :: x35 :: x36 :: x37 :: x38 :: x39 :: x40 :: x41 :: x42 :: x43 :: x44 :: x45 :: []), S) := by
 subst h6 h7
 rw [zG.r5]
 simp only [zSs, reduceIte, Nat.reduceEqDiff, Int.reduceEq, Int.reduceLT, Int.reduceLE]
 rcases Bool.eq_false_or_eq_true (decide (i = 9)) with d1 | d1 <;> rcases Bool.eq_false_or_eq_true (decide (1 < x)) with d2 | d2 <;> rcases Bool.eq_false_or_eq_true (decide (0 < i)) with d3 | d3 <;> rcases Bool.eq_false_or_eq_true (decide (x = 0)) with d4 | d4 <;>
  simp only [d1, d2, d3, d4, zSs, reduceIte, Nat.reduceEqDiff, Int.reduceEq, Int.reduceLT, Int.reduceLE] <;> simp only [decide_eq_true_eq, decide_eq_false_iff_not] at d1 d2 d3 d4 <;>
  simp only [d1, d2, d3, d4, true_and, false_and, and_true, and_false, or_true, true_or, or_false, false_or, decide_true, decide_false, not_true, not_false_iff, Int.reduceLT, Int.reduceEq, and_self, or_self] <;> first | exact ⟨_, _, _, _, _, _, _, _, _, _, _, _, _, rfl⟩ | omega
theorem aio : ∀ m : Fin 256, aiO .u8 (m.val : Int) 127 = ((m.val % 128 : Nat) : Int) := by decide +kernel
theorem aeJ (x : UInt8) : aiO .u8 (x.toNat : Int) 127 = ((x.toNat % 128 : Nat) : Int) := aio ⟨x.toNat, x.toNat_lt⟩
theorem kQ {n : Nat} (h : n < 2 ^ 64) : IntKind.u64.wrap (n : Int) = (n : Int) := by
 rw [wrap_u64, Nat.mod_eq_of_lt h]
theorem ahj {a c i : Nat} (ha : a < 2 ^ i) (h : c * 2 ^ i < 2 ^ 64) (h2 : a < 2 ^ 64) : orI .u64 (a : Int) ((c * 2 ^ i : Nat) : Int) = ((a + c * 2 ^ i : Nat) : Int) := by
 have hor : a ||| c * 2 ^ i = a + c * 2 ^ i := by
  have := Nat.shiftLeft_add_eq_or_of_lt ha c
  rw [Nat.shiftLeft_eq] at this
  rw [Nat.or_comm, ← this, Nat.add_comm]
 have hlt : a ||| c * 2 ^ i < 2 ^ 64 := Nat.or_lt_two_pow h2 h
 unfold orI
 rw [BitVec.ofInt_natCast, BitVec.ofInt_natCast, BitVec.toNat_or, BitVec.toNat_ofNat, BitVec.toNat_ofNat]
 rw [show IntKind.bits .u64 = 64 from rfl, Nat.mod_eq_of_lt h2, Nat.mod_eq_of_lt h, kQ hlt, hor]
theorem ajo {c i : Nat} (hi : i ≤ 9) (h : c * 128 ^ i < 2 ^ 64) : IntKind.u64.wrap ((c : Int) * 2 ^ (min (Int.toNat (7 * (i : Int))) (IntKind.bits .u64))) = ((c * 2 ^ (7 * i) : Nat) : Int) := by
 have e1 : min (Int.toNat (7 * (i : Int))) (IntKind.bits .u64) = 7 * i := by
  rw [show IntKind.bits .u64 = 64 from rfl]; omega
 have e2 : (128 : Nat) ^ i = 2 ^ (7 * i) := by rw [Nat.pow_mul]
 rw [e1, show (c : Int) * 2 ^ (7 * i) = ((c * 2 ^ (7 * i) : Nat) : Int) by simp, kQ (by rw [← e2]; exact h)]
theorem aaA {l pre suf : List UInt8} {x : UInt8} (hl : l = pre ++ x :: suf) : (l.drop ((pre.length : Int) + 1).toNat).take ((l.length : Int).toNat - ((pre.length : Int) + 1).toNat) = suf := by
 rw [show ((pre.length : Int) + 1).toNat = pre.length + 1 by omega, show (l.length : Int).toNat = l.length by omega, hl]
 rw [show pre ++ x :: suf = (pre ++ [x]) ++ suf by simp, show pre.length + 1 = (pre ++ [x]).length by simp, List.drop_left]
 rw [List.take_of_length_le]; simp; omega
theorem zG.round {k : Nat} {l : List UInt8} (hv : Okl k l) (hk : k ≠ 2) (hlen : l.length ≤ 140737488355328) {S : zh} : ∀ (suf pre : List UInt8) (acc : Nat) {T : List Value} {r : St}, qm (zu Try.prog O false zG.jr) T S = r → T.length = 46 →
  T.getD 0 undef = by_ k l → T.getD 8 undef = by_ k l → T.getD 9 undef = .int .i64 l.length → T.getD 10 undef = .int .i64 pre.length → T.getD 5 undef = .int .u64 acc → l = pre ++ suf → acc < 128 ^ pre.length → pre.length ≤ 9 →
  ∃ e T', r = some (e, T', S) ∧ match scan pre.length acc suf with
   | none => e = .exit 0 ∧ T'.length = 46
   | some (m, rest) => e = .ret ∧ m < 2 ^ 64 ∧ T'.getD 2 undef = .int .u64 m ∧ T'.getD 3 undef = by_ 2 rest ∧ T'.getD 4 undef = .int .i64 0 := by
 intro suf
 induction suf with
 | nil =>
  intro pre acc T r hL hT h0 h8 h9 h10 h5 hl hacc hpre
  obtain ⟨x0, x1, x2, x3, x4, x5, x6, x7, x8, x9, x10, x11, x12, x13, x14, x15, x16, x17, x18, x19, x20, x21, x22, x23, x24, x25, x26, x27, x28, x29, x30, x31, x32, x33, x34, x35, x36, x37, x38, x39, x40, x41, x42, x43, x44, x45, hTe⟩ := zG.list hT
  rw [hTe] at h0 h8 h9 h10 h5
  simp only [List.getD_cons_succ, List.getD_cons_zero] at h0 h8 h9 h10 h5
  subst h0 h8 h9 h10 h5
  have hr : zu Try.prog O false zG.jr T S = zu Try.prog O false zG.jr T S := rfl
  have hd : decide ((pre.length : Int) < (l.length : Int)) = false := by rw [hl]; simp
  conv at hr =>
   rhs
   rw [hTe]
   simp only [zG.jr, zSs, reduceIte, Nat.reduceEqDiff, Int.reduceEq, Int.reduceLT, Int.reduceLE, zG.r3, hd]
  exact ⟨_, _, hL.symm.trans (jO hr (by simp)), rfl, rfl⟩
 | cons x suf ih =>
  intro pre acc T r hL hT h0 h8 h9 h10 h5 hl hacc hpre
  obtain ⟨x0, x1, x2, x3, x4, x5, x6, x7, x8, x9, x10, x11, x12, x13, x14, x15, x16, x17, x18, x19, x20, x21, x22, x23, x24, x25, x26, x27, x28, x29, x30, x31, x32, x33, x34, x35, x36, x37, x38, x39, x40, x41, x42, x43, x44, x45, hTe⟩ := zG.list hT
  rw [hTe] at h0 h8 h9 h10 h5
  simp only [List.getD_cons_succ, List.getD_cons_zero] at h0 h8 h9 h10 h5
  subst h0 h8 h9 h10 h5
  have hr : zu Try.prog O false zG.jr T S = zu Try.prog O false zG.jr T S := rfl
  have hlt : (pre.length : Int) < (l.length : Int) := by rw [hl]; simp; omega
  have hd : decide ((pre.length : Int) < (l.length : Int)) = true := by simpa using hlt
  have k0 : k ≠ 0 := fun h => by have := hv.nil h; rw [this] at hl; simp at hl
  have e1 : ∀ S, zW Try.prog 23 (by_ k l) (.int .i64 pre.length) S = some (EP [.int .u8 x.toNat], S) := fun S => by
   rw [ahl hv (by omega) hlt]; rw [aau hl]
  obtain ⟨y15, y16, y17, y18, y19, y20, y21, y22, y23, y24, y25, y26, y27, e3⟩ := zG.stop (by_ k l) x1 x2 x3 x4 (.int .u64 acc) (.int .i64 pre.length) (.int .u8 x.toNat) (by_ k l) (.int .i64 l.length) (.int .i64 pre.length) (.bool true) (.int .i64 pre.length) (EP [.int .u8 x.toNat]) (.int .u8 x.toNat) x15 x16 x17 x18 x19 x20 x21 x22 x23 x24 x25 x26 x27 x28 x29 x30 x31 x32 x33 x34 x35 x36 x37 x38 x39 x40 x41 x42 x43 x44 x45 (pre.length : Int) (x.toNat : Int) S rfl rfl
  conv at hr =>
   rhs
   rw [hTe]
   simp only [zG.jr, zSs, reduceIte, Nat.reduceEqDiff, Int.reduceEq, Int.reduceLT, Int.reduceLE, zG.r3, hd, zG.r4, e1, KZ, if_neg hk, e3]
  have hst : ((pre.length : Int) = 9 ∧ 1 < (x.toNat : Int) ∨ 0 < (pre.length : Int) ∧ (x.toNat : Int) = 0) ↔ ((pre.length = 9 ∧ 1 < x.toNat) ∨ (0 < pre.length ∧ x.toNat = 0)) := by omega
  by_cases hs : (pre.length = 9 ∧ 1 < x.toNat) ∨ (0 < pre.length ∧ x.toNat = 0)
  ·
   have hs2 := decide_eq_true (hst.2 hs)
   conv at hr =>
    rhs
    simp only [hs2, zSs, reduceIte, Nat.reduceEqDiff, Int.reduceEq, Int.reduceLT, Int.reduceLE]
   refine ⟨_, _, hL.symm.trans (jO hr (by simp)), ?_⟩
   rw [scan, if_pos hs]
   exact ⟨rfl, rfl⟩
  ·
   have hs2 := decide_eq_false (fun h => hs (hst.1 h))
   have hx256 := x.toNat_lt
   have hpw : 128 ^ pre.length ≤ 128 ^ 9 := Nat.pow_le_pow_right (by omega) hpre
   have hc64 : x.toNat % 128 * 128 ^ pre.length < 2 ^ 64 := by
    by_cases h9 : pre.length = 9
    ·
     rw [h9]; have : x.toNat % 128 ≤ 1 := by omega
     exact Nat.lt_of_le_of_lt (Nat.mul_le_mul_right _ this) (by decide)
    ·
     have h8 : 128 ^ pre.length ≤ 128 ^ 8 := Nat.pow_le_pow_right (by omega) (by omega)
     exact Nat.lt_of_le_of_lt (Nat.mul_le_mul (by omega : x.toNat % 128 ≤ 127) h8) (by decide)
   have hm : IntKind.i64.wrap (7 * (pre.length : Int)) = 7 * (pre.length : Int) := wrap_i64 (by omega) (by omega)
   have e128 : (128 : Nat) ^ pre.length = 2 ^ (7 * pre.length) := by rw [Nat.pow_mul]
   have hor := ahj (a := acc) (c := x.toNat % 128) (i := 7 * pre.length) (by rw [← e128]; exact hacc) (by rw [← e128]; exact hc64) (Nat.lt_of_lt_of_le hacc (Nat.le_trans hpw (by decide)))
   conv at hr =>
    rhs
    simp only [hs2, zSs, reduceIte, Nat.reduceEqDiff, Int.reduceEq, Int.reduceLT, Int.reduceLE, zG.r6, aew, aeJ, xO, kQ (show x.toNat % 128 < 2 ^ 64 by omega), hm, afH _ _ _ _ (show (0 : Int) ≤ 7 * (pre.length : Int) by omega), ajo hpre hc64, acZ, hor, zG.r7]
   rw [← e128] at hr
   have hadd : acc + x.toNat % 128 * 128 ^ pre.length < 128 ^ (pre.length + 1) := by
    rw [Nat.pow_succ]
    have : x.toNat % 128 * 128 ^ pre.length ≤ 127 * 128 ^ pre.length := Nat.mul_le_mul_right _ (by omega)
    omega
   have hi1 : IntKind.i64.wrap ((pre.length : Int) + 1) = (pre.length : Int) + 1 := wrap_i64 (by omega) (by omega)
   by_cases hxs : x.toNat < 128
   ·
    have hd2 : decide ((x.toNat : Int) < 128) = true := by simp; omega
    have e4 : ∀ S, vM Try.prog 23 (by_ k l) (some (.int .i64 ((pre.length : Int) + 1))) none S = some (by_ k suf, S) := fun S => by
     rw [aav hv (lo := some (.int .i64 ((pre.length : Int) + 1))) (hi := none) (i := (pre.length : Int) + 1) (j := l.length) rfl rfl (by omega) (by omega) (by omega), aaA hl, if_neg hk]
    have ok2 : Okl k suf := ⟨hv.le, fun h => absurd h k0⟩
    have e5 : ∀ S, zM Try.prog O slices_Clone.id [by_ k suf] S = some (by_ 2 suf, S) := fun S => by
     rw [slices_Clone.v ok2 hk (by have := congrArg List.length hl; simp at this; omega), if_neg k0]
    conv at hr =>
     rhs
     simp only [hd2, zSs, reduceIte, Nat.reduceEqDiff, Int.reduceEq, Int.reduceLT, Int.reduceLE, zG.r8, hi1, if_neg hk, e4, e5]
    refine ⟨_, _, hL.symm.trans (jO hr (by simp)), ?_⟩
    rw [scan, if_neg hs, if_pos hxs]
    have hxm : x.toNat % 128 = x.toNat := by omega
    rw [hxm]
    refine ⟨rfl, ?_, rfl, rfl, rfl⟩
    rw [hxm] at hadd
    by_cases h9 : pre.length = 9
    ·
     rw [h9] at hacc ⊢
     have : x.toNat ≤ 1 := by omega
     have h1 : x.toNat * 128 ^ 9 ≤ 1 * 128 ^ 9 := Nat.mul_le_mul_right _ this
     have h2 : (128 : Nat) ^ 9 + 1 * 128 ^ 9 = 2 ^ 64 := by decide
     omega
    ·
     have h8 : 128 ^ (pre.length + 1) ≤ 128 ^ 9 := Nat.pow_le_pow_right (by omega) (by omega)
     exact Nat.lt_of_lt_of_le hadd (Nat.le_trans h8 (by decide))
   ·
    have hd2 : decide ((x.toNat : Int) < 128) = false := by simp; omega
    conv at hr =>
     rhs
     simp only [hd2, zSs, reduceIte, Nat.reduceEqDiff, Int.reduceEq, Int.reduceLT, Int.reduceLE, zG.r9, hi1]
    obtain ⟨e, T', g1, g3⟩ := ih (pre ++ [x]) (acc + x.toNat % 128 * 128 ^ pre.length) ((yx hr).symm.trans hL) rfl rfl rfl rfl (by simp) rfl (by simp [hl]) (by simpa using hadd) (by simp; omega)
    refine ⟨e, T', g1, ?_⟩
    rw [scan, if_neg hs, if_neg hxs]
    have hxm : x.toNat % 128 = x.toNat - 128 := by omega
    rw [hxm] at g3
    simpa using g3
theorem zG.v {k : Nat} {l : List UInt8} (hv : Okl k l) (hk : k ≠ 2) (hlen : l.length ≤ 140737488355328) (S : zh) : zM Try.prog O zG.id [by_ k l] S = some (Kw l, S) := by
 obtain ⟨T, hTe⟩ : ∃ T, T = (by_ k l :: undef :: undef :: undef :: undef :: undef :: undef :: undef :: undef :: undef :: undef :: undef :: undef :: undef :: undef :: undef :: undef :: undef :: undef :: undef :: undef :: undef :: undef :: undef :: undef :: undef :: undef :: undef :: undef :: undef :: undef :: undef :: undef :: undef :: undef :: undef :: undef :: undef :: undef :: undef :: undef :: undef :: undef :: undef :: undef :: undef :: []) := ⟨_, rfl⟩
 have hr : zu Try.prog O false zG.code T S = zu Try.prog O false zG.code T S := rfl
 conv at hr =>
  rhs
  rw [hTe]
  simp only [zG.code, zSs, reduceIte, Nat.reduceEqDiff, Int.reduceEq, Int.reduceLT, Int.reduceLE, zG.r0, zG.r1, zG.r2, if_neg hk, ZW hv]
 generalize hL : qm (zu Try.prog O false zG.jr) _ _ = r at hr
 obtain ⟨e, T', rfl, g3⟩ := zG.round hv hk hlen l [] 0 hL rfl rfl rfl rfl rfl rfl rfl (by simp) (by simp)
 simp only [List.length_nil] at g3
 unfold Kw
 cases hsc : scan 0 0 l with
 | none =>
  rw [hsc] at g3
  obtain ⟨rfl, hT'⟩ := g3
  obtain ⟨x0, x1, x2, x3, x4, x5, x6, x7, x8, x9, x10, x11, x12, x13, x14, x15, x16, x17, x18, x19, x20, x21, x22, x23, x24, x25, x26, x27, x28, x29, x30, x31, x32, x33, x34, x35, x36, x37, x38, x39, x40, x41, x42, x43, x44, x45, hTe'⟩ := zG.list hT'
  conv at hr =>
   rhs
   rw [hTe']
   simp only [zSs, reduceIte, Nat.reduceEqDiff, Int.reduceEq, Int.reduceLT, Int.reduceLE, zG.r10]
  rw [hTe] at hr
  exact zG.runs hr (.inr rfl) rfl rfl rfl
 | some mr =>
  obtain ⟨m, rest⟩ := mr
  rw [hsc] at g3
  obtain ⟨rfl, hm, h2, h3, h4⟩ := g3
  conv at hr =>
   rhs
   simp only [zSs, reduceIte, Nat.reduceEqDiff, Int.reduceEq, Int.reduceLT, Int.reduceLE]
  rw [hTe] at hr
  have hrun := zG.runs hr (.inr rfl) (by rw [h2]; rfl) (by rw [h3]; exact jM) (by rw [h4]; rfl)
  rw [h2, h3, h4] at hrun
  exact hrun
theorem VN : ∀ (suf : List UInt8) (i acc : Nat), acc < 128 ^ i → i ≤ 9 → ∀ m rest, scan i acc suf = some (m, rest) → m < 2 ^ 64 ∧ rest.length < suf.length := by
 intro suf
 induction suf with
 | nil => intro i acc _ _ m rest h; cases h
 | cons x suf ih =>
  intro i acc hacc hi m rest h
  rw [scan] at h
  have hx256 := x.toNat_lt
  split at h
  ·
   cases h
  ·
   rename_i hs
   split at h
   ·
    rename_i hx
    cases h
    refine ⟨?_, by simp⟩
    by_cases h9 : i = 9
    ·
     subst h9
     have : x.toNat ≤ 1 := by omega
     have h1 : x.toNat * 128 ^ 9 ≤ 1 * 128 ^ 9 := Nat.mul_le_mul_right _ this
     have h2 : (128 : Nat) ^ 9 + 1 * 128 ^ 9 = 2 ^ 64 := by decide
     omega
    ·
     have h8 : 128 ^ (i + 1) ≤ 128 ^ 9 := Nat.pow_le_pow_right (by omega) (by omega)
     have h3 : acc + x.toNat * 128 ^ i < 128 ^ (i + 1) := by
      rw [Nat.pow_succ]
      have : x.toNat * 128 ^ i ≤ 127 * 128 ^ i := Nat.mul_le_mul_right _ (by omega)
      omega
     exact Nat.lt_of_lt_of_le h3 (Nat.le_trans h8 (by decide))
   ·
    rename_i hx
    have h9 : i ≠ 9 := by omega
    have hadd : acc + (x.toNat - 128) * 128 ^ i < 128 ^ (i + 1) := by
     rw [Nat.pow_succ]
     have : (x.toNat - 128) * 128 ^ i ≤ 127 * 128 ^ i := Nat.mul_le_mul_right _ (by omega)
     omega
    obtain ⟨h1, h2⟩ := ih (i + 1) _ hadd (by omega) m rest h
    exact ⟨h1, by simp; omega⟩
end Go.Proofs.Ytbgcphbbchndkaa
namespace Go.Proofs.Ytbgcphbbchndkaa
open Go.Abs
theorem zk.goes (x0 x1 x2 x3 x4 x5 x6 x7 x8 x9 x10 x11 x12 x13 x14 x15 x16 x17 x18 x19 x20 x21 x22 x23 x24 x25 x26 x27 x28 x29 x30 x31 x32 x33 x34 x35 x36 x37 x38 x39 x40 x41 x42 x43 x44 x45 x46 x47 x48 x49 x50 x51 x52 x53 x54 x55 x56 x57 : Value) (i : Int) {S : zh} {k : Nat} {l : List UInt8} (hv : Okl k l) (hk : k ≠ 2) (h0 : x0 = by_ k l) (h7 : x7 = .int .i64 i) : ∃ y10 y11 y12 y13 y14 y15 y16, jc Try.prog ⟨false, false, false⟩ (zM Try.prog O) (reg Try.f16 4) (reg Try.f16 4).toList (x0 :: x1 :: x2 :: x3 :: x4 :: x5 :: x6 :: x7 :: x8 :: x9 :: x10 :: x11 :: x12 :: x13 :: x14 :: x15 :: x16 :: x17 :: x18 :: x19 :: x20 :: x21 :: x22 :: x23 :: x24 :: x25 :: x26 :: x27 :: x28 :: x29 :: x30 :: x31 :: x32 :: x33 :: x34 :: x35 :: x36 :: x37 :: x38 :: x39 :: x40 :: x41 :: x42 :: x43 :: x44 :: x45 :: x46 :: x47 :: x48 :: x49 :: x50 :: x51 :: x52 :: x53 :: x54 :: x55 :: x56 :: x57 :: []) S =
  some ((x0 :: x1 :: x2 :: x3 :: x4 :: x5 :: x6 :: x7 :: x8 :: x9 :: y10 :: y11 :: y12 :: y13 :: y14 :: y15 :: y16 :: .bool (decide (i < l.length ∧ i < 10)) :: x18 :: x19 :: x20 :: x21 :: x22 :: x23 :: x24 :: x25 :: x26 :: x27 :: x28 :: x29 :: x30 :: x31 :: x32 :: x33 :: x34 :: x35 :: x36 :: x37 :: x38 :: x39 :: x40 :: x41 :: x42 :: x43 :: x44 :: x45 :: x46 :: x47 :: x48 :: x49 :: x50 :: x51 :: x52 :: x53 :: x54 :: x55 :: x56 :: x57 :: []), S) := by
 subst h7 h0
 rw [zk.r4]
 simp only [zSs, reduceIte, Nat.reduceEqDiff, Int.reduceEq, Int.reduceLT, Int.reduceLE, if_neg hk, ZW hv, goInt]
 rcases Bool.eq_false_or_eq_true (decide (i < (l.length : Int))) with d1 | d1 <;> rcases Bool.eq_false_or_eq_true (decide (i < 10)) with d2 | d2 <;>
  simp only [d1, d2, zSs, reduceIte, Nat.reduceEqDiff, Int.reduceEq, Int.reduceLT, Int.reduceLE] <;> simp only [decide_eq_true_eq, decide_eq_false_iff_not] at d1 d2 <;>
  simp only [d1, d2, and_true, and_false, true_and, false_and, decide_true, decide_false] <;> exact ⟨_, _, _, _, _, _, _, rfl⟩
theorem zk.nine {T : List Value} {S : zh} {i c : Int} (hT : T.length = 58) (h7 : T.getD 7 undef = .int .i64 i) (h8 : T.getD 8 undef = .int .u64 c) : ∃ T', jc Try.prog ⟨false, false, false⟩ (zM Try.prog O) (reg Try.f16 7) (reg Try.f16 7).toList T S = some (T', S) ∧
  T'.length = 58 ∧ T'.getD 31 undef = .bool (decide (i = 9 ∧ 1 < c)) ∧ ∀ j, j < 10 → T'.getD j undef = T.getD j undef := by
 obtain ⟨x0, x1, x2, x3, x4, x5, x6, x7, x8, x9, x10, x11, x12, x13, x14, x15, x16, x17, x18, x19, x20, x21, x22, x23, x24, x25, x26, x27, x28, x29, x30, x31, x32, x33, x34, x35, x36, x37, x38, x39, x40, x41, x42, x43, x44, x45, x46, x47, x48, x49, x50, x51, x52, x53, x54, x55, x56, x57, rfl⟩ := zk.list hT
 simp only [List.getD_cons_succ, List.getD_cons_zero] at h7 h8
 subst h7 h8
 rw [zk.r7]
 simp only [zSs, reduceIte, Nat.reduceEqDiff, Int.reduceEq, Int.reduceLT, Int.reduceLE]
 rcases Bool.eq_false_or_eq_true (decide (i = 9)) with d1 | d1 <;> rcases Bool.eq_false_or_eq_true (decide (1 < c)) with d2 | d2 <;>
  simp only [d1, d2, zSs, reduceIte, Nat.reduceEqDiff, Int.reduceEq, Int.reduceLT, Int.reduceLE] <;> simp only [decide_eq_true_eq, decide_eq_false_iff_not] at d1 d2 <;>
  simp only [d1, d2, and_true, and_false, true_and, false_and, decide_true, decide_false] <;> exact ⟨_, rfl, rfl, rfl, fun j hj => by (match j, hj with | 0, _ => rfl | 1, _ => rfl | 2, _ => rfl | 3, _ => rfl | 4, _ => rfl | 5, _ => rfl | 6, _ => rfl | 7, _ => rfl | 8, _ => rfl | 9, _ => rfl)⟩
theorem abO (k : Nat) : ∀ n, 128 ^ k ≤ n → n < 128 ^ (k + 1) → (enc n).length = k + 1 := by
 induction k with
 | zero => intro n _ h; rw [kD (by omega)]; rfl
 | succ k ih =>
  intro n h1 h2
  have hn : ¬ n < 128 := by
   have : 128 ^ 1 ≤ 128 ^ (k + 1) := Nat.pow_le_pow_right (by omega) (by omega)
   omega
  rw [Jd hn, List.length_cons, ih (n / 128) (by rw [Nat.le_div_iff_mul_le (by omega)]; exact h1) (by rw [Nat.div_lt_iff_lt_mul (by omega)]; exact h2)]
theorem agU (n : Nat) : 0 < (enc n).length := by
 by_cases h : n < 128
 ·
  rw [kD h]; simp
 ·
  rw [Jd h]; simp
section
variable {k : Nat} {l : List UInt8} {S : zh}
theorem zk.out (hv : Okl k l) (hk : k ≠ 2) {i : Nat} {T : List Value} {r : St} (hL : qm (zu Try.prog O false zk.jr) T S = r) (hT : T.length = 58)
  (h0 : T.getD 0 undef = by_ k l) (h7 : T.getD 7 undef = .int .i64 i) (hi : l.length ≤ i ∨ 10 ≤ i) : ∃ T', r = some (.exit 0, T', S) ∧ T'.length = 58 := by
 obtain ⟨x0, x1, x2, x3, x4, x5, x6, x7, x8, x9, x10, x11, x12, x13, x14, x15, x16, x17, x18, x19, x20, x21, x22, x23, x24, x25, x26, x27, x28, x29, x30, x31, x32, x33, x34, x35, x36, x37, x38, x39, x40, x41, x42, x43, x44, x45, x46, x47, x48, x49, x50, x51, x52, x53, x54, x55, x56, x57, hTe⟩ := zk.list hT
 rw [hTe] at h0 h7
 simp only [List.getD_cons_succ, List.getD_cons_zero] at h0 h7
 have hr : zu Try.prog O false zk.jr T S = zu Try.prog O false zk.jr T S := rfl
 obtain ⟨y10, y11, y12, y13, y14, y15, y16, e1⟩ := zk.goes x0 x1 x2 x3 x4 x5 x6 x7 x8 x9 x10 x11 x12 x13 x14 x15 x16 x17 x18 x19 x20 x21 x22 x23 x24 x25 x26 x27 x28 x29 x30 x31 x32 x33 x34 x35 x36 x37 x38 x39 x40 x41 x42 x43 x44 x45 x46 x47 x48 x49 x50 x51 x52 x53 x54 x55 x56 x57 (i : Int) (S := S) hv hk h0 h7
 have hd : decide ((i : Int) < (l.length : Int) ∧ (i : Int) < 10) = false := by simp; omega
 rw [hd] at e1
 conv at hr =>
  rhs
  rw [hTe]
  simp only [zk.jr, zSs, reduceIte, Nat.reduceEqDiff, Int.reduceEq, Int.reduceLT, Int.reduceLE, e1]
 exact ⟨_, hL.symm.trans (jO hr (by simp)), rfl⟩
theorem zk.round (hv : Okl k l) (hk : k ≠ 2) (hlen : l.length ≤ 140737488355328) : ∀ (suf pre : List UInt8) (acc : Nat) {T : List Value} {r : St}, qm (zu Try.prog O false zk.jr) T S = r → T.length = 58 →
  T.getD 0 undef = by_ k l → T.getD 7 undef = .int .i64 pre.length → T.getD 5 undef = .int .u64 acc → T.getD 6 undef = .int .u64 (128 ^ pre.length : Nat) → l = pre ++ suf → acc < 128 ^ pre.length → pre.length ≤ 9 →
  ∃ e T', r = some (e, T', S) ∧ match scan pre.length acc suf with
   | none => (e = .exit 0 ∧ T'.length = 58) ∨ (e = .ret ∧ T'.getD 2 undef = .int .u64 0 ∧ T'.getD 3 undef = .slice none 0 0 ∧ T'.getD 4 undef = .int .i64 11)
   | some (m, rest) => e = .ret ∧ T'.getD 2 undef = .int .u64 m ∧ T'.getD 3 undef = by_ 2 rest ∧ T'.getD 4 undef = .int .i64 0 := by
 intro suf
 induction suf with
 | nil =>
  intro pre acc T r hL hT h0 h7 h5 h6 hl hacc hpre
  obtain ⟨T', h1, h2⟩ := zk.out hv hk hL hT h0 h7 (by rw [hl]; simp)
  exact ⟨_, T', h1, .inl ⟨rfl, h2⟩⟩
 | cons x suf ih =>
  intro pre acc T r hL hT h0 h7 h5 h6 hl hacc hpre
  obtain ⟨x0, x1, x2, x3, x4, x5, x6, x7, x8, x9, x10, x11, x12, x13, x14, x15, x16, x17, x18, x19, x20, x21, x22, x23, x24, x25, x26, x27, x28, x29, x30, x31, x32, x33, x34, x35, x36, x37, x38, x39, x40, x41, x42, x43, x44, x45, x46, x47, x48, x49, x50, x51, x52, x53, x54, x55, x56, x57, hTe⟩ := zk.list hT
  rw [hTe] at h0 h7 h5 h6
  simp only [List.getD_cons_succ, List.getD_cons_zero] at h0 h7 h5 h6
  have hr : zu Try.prog O false zk.jr T S = zu Try.prog O false zk.jr T S := rfl
  have hlt : (pre.length : Int) < (l.length : Int) := by rw [hl]; simp; omega
  have k0 : k ≠ 0 := fun h => by have := hv.nil h; rw [this] at hl; simp at hl
  have e1 : ∀ S, zW Try.prog 23 (by_ k l) (.int .i64 pre.length) S = some (EP [.int .u8 x.toNat], S) := fun S => by
   rw [ahl hv (by omega) hlt]; rw [aau hl]
  have hx256 := x.toNat_lt
  obtain ⟨y10, y11, y12, y13, y14, y15, y16, e3⟩ := zk.goes x0 x1 x2 x3 x4 x5 x6 x7 x8 x9 x10 x11 x12 x13 x14 x15 x16 x17 x18 x19 x20 x21 x22 x23 x24 x25 x26 x27 x28 x29 x30 x31 x32 x33 x34 x35 x36 x37 x38 x39 x40 x41 x42 x43 x44 x45 x46 x47 x48 x49 x50 x51 x52 x53 x54 x55 x56 x57 (pre.length : Int) (S := S) hv hk h0 h7
  have hd : decide ((pre.length : Int) < (l.length : Int) ∧ (pre.length : Int) < 10) = true := by rw [decide_eq_true_eq]; omega
  rw [hd, h7, h5, h6, h0] at e3
  have hlow : (x.toNat : Int).tmod 128 = ((x.toNat % 128 : Nat) : Int) := acB _
  conv at hr =>
   rhs
   rw [hTe]
   simp only [zk.jr, zSs, reduceIte, Nat.reduceEqDiff, Int.reduceEq, Int.reduceLT, Int.reduceLE, h7, h5, h6, h0, e3, zk.r6, if_neg hk, e1, KZ, Kt _ _ _ (show (128 : Int) ≠ 0 by omega), hlow, xO, kQ (show x.toNat % 128 < 2 ^ 64 by omega)]
  generalize hT2 : (_ :: _ : List Value) = T2 at hr
  have t0 : T2.length = 58 := by rw [← hT2]; rfl
  have t1 : T2.getD 0 undef = by_ k l := by rw [← hT2]; rfl
  have t2 : T2.getD 5 undef = .int .u64 acc := by rw [← hT2]; rfl
  have t3 : T2.getD 6 undef = .int .u64 (128 ^ pre.length : Nat) := by rw [← hT2]; rfl
  have t4 : T2.getD 7 undef = .int .i64 pre.length := by rw [← hT2]; rfl
  have t5 : T2.getD 8 undef = .int .u64 (x.toNat % 128 : Nat) := by rw [← hT2]; rfl
  obtain ⟨T3, e4, f0, f1, f2⟩ := zk.nine (S := S) t0 t4 t5
  rw [← f2 _ (by omega)] at t1 t2 t3 t4 t5
  conv at hr =>
   rhs
   simp only [e4, zSs, reduceIte, Nat.reduceEqDiff, Int.reduceEq, Int.reduceLT, Int.reduceLE, f1]
  clear hT2 e4 f1 f2 e3 hTe h7 h5 h6 h0
  obtain ⟨z0, z1, z2, z3, z4, z5, z6, z7, z8, z9, z10, z11, z12, z13, z14, z15, z16, z17, z18, z19, z20, z21, z22, z23, z24, z25, z26, z27, z28, z29, z30, z31, z32, z33, z34, z35, z36, z37, z38, z39, z40, z41, z42, z43, z44, z45, z46, z47, z48, z49, z50, z51, z52, z53, z54, z55, z56, z57, hTe⟩ := zk.list f0
  rw [hTe] at t1 t2 t3 t4 t5
  simp only [List.getD_cons_succ, List.getD_cons_zero] at t1 t2 t3 t4 t5
  subst t1
  by_cases hs1 : pre.length = 9 ∧ 1 < x.toNat % 128
  ·
   have hd1 : decide ((pre.length : Int) = 9 ∧ 1 < ((x.toNat % 128 : Nat) : Int)) = true := by rw [decide_eq_true_eq]; omega
   conv at hr =>
    rhs
    rw [hTe]
    simp only [hd1, zSs, reduceIte, Nat.reduceEqDiff, Int.reduceEq, Int.reduceLT, Int.reduceLE, zk.r8]
   refine ⟨_, _, hL.symm.trans (jO hr (by simp)), ?_⟩
   rw [scan, if_pos (.inl ⟨hs1.1, by omega⟩)]
   exact .inr ⟨rfl, rfl, rfl, rfl⟩
  ·
   have hd1 : decide ((pre.length : Int) = 9 ∧ 1 < ((x.toNat % 128 : Nat) : Int)) = false := by rw [decide_eq_false_iff_not]; omega
   have hpw : 128 ^ pre.length ≤ 128 ^ 9 := Nat.pow_le_pow_right (by omega) hpre
   have hc64 : x.toNat % 128 * 128 ^ pre.length < 2 ^ 64 := by
    by_cases h9 : pre.length = 9
    ·
     rw [h9]; have : x.toNat % 128 ≤ 1 := by omega
     exact Nat.lt_of_le_of_lt (Nat.mul_le_mul_right _ this) (by decide)
    ·
     have h8 : 128 ^ pre.length ≤ 128 ^ 8 := Nat.pow_le_pow_right (by omega) (by omega)
     exact Nat.lt_of_le_of_lt (Nat.mul_le_mul (by omega : x.toNat % 128 ≤ 127) h8) (by decide)
   have ha64 : acc + x.toNat % 128 * 128 ^ pre.length < 2 ^ 64 := by
    by_cases h9 : pre.length = 9
    ·
     rw [h9] at hacc ⊢
     have : x.toNat % 128 ≤ 1 := by omega
     have h1 : x.toNat % 128 * 128 ^ 9 ≤ 1 * 128 ^ 9 := Nat.mul_le_mul_right _ this
     have h2 : (128 : Nat) ^ 9 + 1 * 128 ^ 9 = 2 ^ 64 := by decide
     omega
    ·
     have h8 : 128 ^ (pre.length + 1) ≤ 128 ^ 9 := Nat.pow_le_pow_right (by omega) (by omega)
     have h3 : acc + x.toNat % 128 * 128 ^ pre.length < 128 ^ (pre.length + 1) := by
      rw [Nat.pow_succ]
      have : x.toNat % 128 * 128 ^ pre.length ≤ 127 * 128 ^ pre.length := Nat.mul_le_mul_right _ (by omega)
      omega
     exact Nat.lt_of_lt_of_le h3 (Nat.le_trans h8 (by decide))
   have w1 : IntKind.u64.wrap (((x.toNat % 128 : Nat) : Int) * ((128 ^ pre.length : Nat) : Int)) = ((x.toNat % 128 * 128 ^ pre.length : Nat) : Int) := by
    rw [← Int.natCast_mul, kQ hc64]
   have w2 : IntKind.u64.wrap ((acc : Int) + ((x.toNat % 128 * 128 ^ pre.length : Nat) : Int)) = ((acc + x.toNat % 128 * 128 ^ pre.length : Nat) : Int) := by
    rw [← Int.natCast_add, kQ ha64]
   conv at hr =>
    rhs
    rw [hTe]
    simp only [hd1, zSs, reduceIte, Nat.reduceEqDiff, Int.reduceEq, Int.reduceLT, Int.reduceLE, zk.r9, zk.r10, zk.r11, t2, t3, t4, t5, w1, w2, if_neg hk, e1, KZ]
   have hi1 : IntKind.i64.wrap ((pre.length : Int) + 1) = (pre.length : Int) + 1 := wrap_i64 (by omega) (by omega)
   by_cases hxs : x.toNat < 128
   ·
    have hxm : x.toNat % 128 = x.toNat := by omega
    rw [hxm] at hr ha64
    have hd2 : decide ((x.toNat : Int) < 128) = true := by rw [decide_eq_true_eq]; omega
    conv at hr =>
     rhs
     simp only [hd2, zSs, reduceIte, Nat.reduceEqDiff, Int.reduceEq, Int.reduceLT, Int.reduceLE, zk.r12, zy.v _ ha64, zk.r13, ZW (Okl.read), goInt, hi1]
    by_cases hz : 0 < pre.length ∧ x.toNat = 0
    ·
     have hlen2 : (enc (acc + x.toNat * 128 ^ pre.length)).length ≤ pre.length := by
      obtain ⟨q, hq⟩ : ∃ q, pre.length = q + 1 := ⟨pre.length - 1, by omega⟩
      rw [hz.2, Nat.zero_mul, Nat.add_zero, hq]
      exact abY q acc (by rw [← hq]; exact hacc)
     have hd3 : decide ((((enc (acc + x.toNat * 128 ^ pre.length)).length : Nat) : Int) = (pre.length : Int) + 1) = false := by rw [decide_eq_false_iff_not]; omega
     conv at hr =>
      rhs
      simp only [hd3, zSs, reduceIte, Nat.reduceEqDiff, Int.reduceEq, Int.reduceLT, Int.reduceLE, zk.r14]
     refine ⟨_, _, hL.symm.trans (jO hr (by simp)), ?_⟩
     rw [scan, if_pos (.inr hz)]
     exact .inr ⟨rfl, rfl, rfl, rfl⟩
    ·
     have hlen2 : (enc (acc + x.toNat * 128 ^ pre.length)).length = pre.length + 1 := by
      by_cases hp0 : pre.length = 0
      ·
       rw [hp0] at hacc ⊢
       rw [kD (by omega)]; rfl
      ·
       refine abO _ _ ?_ ?_
       ·
        have : 1 * 128 ^ pre.length ≤ x.toNat * 128 ^ pre.length := Nat.mul_le_mul_right _ (by omega)
        omega
       ·
        rw [Nat.pow_succ]
        have : x.toNat * 128 ^ pre.length ≤ 127 * 128 ^ pre.length := Nat.mul_le_mul_right _ (by omega)
        omega
     have hd3 : decide ((((enc (acc + x.toNat * 128 ^ pre.length)).length : Nat) : Int) = (pre.length : Int) + 1) = true := by rw [decide_eq_true_eq]; omega
     have e4 : ∀ S, vM Try.prog 23 (by_ k l) (some (.int .i64 ((pre.length : Int) + 1))) none S = some (by_ k suf, S) := fun S => by
      rw [aav hv (lo := some (.int .i64 ((pre.length : Int) + 1))) (hi := none) (i := (pre.length : Int) + 1) (j := l.length) rfl rfl (by omega) (by omega) (by omega), aaA hl, if_neg hk]
     have ok2 : Okl k suf := ⟨hv.le, fun h => absurd h k0⟩
     have e5 : ∀ S, wz Try.prog 23 23 (by_ 2 []) (by_ k suf) S = some (by_ 2 suf, S) := fun S => by
      rw [qF Okl.own (by decide) ok2 (by have := congrArg List.length hl; simp at this; simp; omega)]; rfl
     conv at hr =>
      rhs
      simp only [hd3, zSs, reduceIte, Nat.reduceEqDiff, Int.reduceEq, Int.reduceLT, Int.reduceLE, zk.r15, vg, aeM, hi1, if_neg hk, e4, e5]
     refine ⟨_, _, hL.symm.trans (jO hr (by simp)), ?_⟩
     rw [scan, if_neg (by rintro (h | h); exact absurd ⟨h.1, by omega⟩ hs1; exact hz h), if_pos hxs]
     exact ⟨rfl, rfl, rfl, rfl⟩
   ·
    have hd2 : decide ((x.toNat : Int) < 128) = false := by rw [decide_eq_false_iff_not]; omega
    conv at hr =>
     rhs
     simp only [hd2, zSs, reduceIte, Nat.reduceEqDiff, Int.reduceEq, Int.reduceLT, Int.reduceLE, zk.r5, hi1]
    obtain ⟨T1, hr, q0, q1, q2, q3, q4⟩ : ∃ T1, zu Try.prog O false zk.jr T S = some (.normal, T1, S) ∧ T1.length = 58 ∧ T1.getD 0 undef = by_ k l ∧ T1.getD 7 undef = .int .i64 ((pre.length : Int) + 1) ∧
     T1.getD 5 undef = .int .u64 ((acc + x.toNat % 128 * 128 ^ pre.length : Nat) : Int) ∧ T1.getD 6 undef = .int .u64 (IntKind.u64.wrap (((128 ^ pre.length : Nat) : Int) * 128)) := ⟨_, hr, rfl, rfl, rfl, rfl, rfl⟩
    by_cases hp9 : pre.length = 9
    ·
     obtain ⟨T', h1, h2⟩ := zk.out hv hk ((yx hr).symm.trans hL) q0 q1 (i := pre.length + 1) q2 (.inr (by omega))
     refine ⟨_, T', h1, ?_⟩
     rw [scan, if_pos (.inl ⟨hp9, by omega⟩)]
     exact .inl ⟨rfl, h2⟩
    ·
     have hpl : IntKind.u64.wrap (((128 ^ pre.length : Nat) : Int) * 128) = ((128 ^ (pre.length + 1) : Nat) : Int) := by
      have h8 : 128 ^ (pre.length + 1) ≤ 128 ^ 9 := Nat.pow_le_pow_right (by omega) (by omega)
      rw [show ((128 ^ pre.length : Nat) : Int) * 128 = ((128 ^ (pre.length + 1) : Nat) : Int) by rw [Nat.pow_succ, Int.natCast_mul]; rfl]
      exact kQ (Nat.lt_of_le_of_lt h8 (by decide))
     rw [hpl] at q4
     have hadd : acc + x.toNat % 128 * 128 ^ pre.length < 128 ^ (pre.length + 1) := by
      rw [Nat.pow_succ]
      have : x.toNat % 128 * 128 ^ pre.length ≤ 127 * 128 ^ pre.length := Nat.mul_le_mul_right _ (by omega)
      omega
     have hpl2 : (pre ++ [x]).length = pre.length + 1 := by simp
     obtain ⟨e, T', g1, g3⟩ := ih (pre ++ [x]) (acc + x.toNat % 128 * 128 ^ pre.length) ((yx hr).symm.trans hL) q0 q1 (by rw [hpl2]; exact q2) q3 (by rw [hpl2]; exact q4) (by simp [hl]) (by rw [hpl2]; exact hadd) (by rw [hpl2]; omega)
     refine ⟨e, T', g1, ?_⟩
     rw [scan, if_neg (by omega), if_neg hxs]
     have hxm : x.toNat % 128 = x.toNat - 128 := by omega
     rw [hxm, hpl2] at g3
     exact g3
theorem zk.v (hv : Okl k l) (hk : k ≠ 2) (hlen : l.length ≤ 140737488355328) (S : zh) : zM Try.prog O zk.id [by_ k l] S = some (Kw l, S) := by
 obtain ⟨T, hTe⟩ : ∃ T, T = (by_ k l :: undef :: undef :: undef :: undef :: undef :: undef :: undef :: undef :: undef :: undef :: undef :: undef :: undef :: undef :: undef :: undef :: undef :: undef :: undef :: undef :: undef :: undef :: undef :: undef :: undef :: undef :: undef :: undef :: undef :: undef :: undef :: undef :: undef :: undef :: undef :: undef :: undef :: undef :: undef :: undef :: undef :: undef :: undef :: undef :: undef :: undef :: undef :: undef :: undef :: undef :: undef :: undef :: undef :: undef :: undef :: undef :: undef :: []) := ⟨_, rfl⟩
 have hr : zu Try.prog O false zk.code T S = zu Try.prog O false zk.code T S := rfl
 conv at hr =>
  rhs
  rw [hTe]
  simp only [zk.code, zSs, reduceIte, Nat.reduceEqDiff, Int.reduceEq, Int.reduceLT, Int.reduceLE, zk.r0, zk.r1, zk.r2, zk.r3]
 generalize hL : qm (zu Try.prog O false zk.jr) _ _ = r at hr
 obtain ⟨e, T', rfl, g3⟩ := zk.round hv hk hlen l [] 0 hL rfl rfl rfl rfl rfl rfl (by simp) (by simp)
 simp only [List.length_nil] at g3
 unfold Kw
 cases hsc : scan 0 0 l with
 | none =>
  rw [hsc] at g3
  rcases g3 with ⟨rfl, hT'⟩ | ⟨rfl, h2, h3, h4⟩
  ·
   obtain ⟨x0, x1, x2, x3, x4, x5, x6, x7, x8, x9, x10, x11, x12, x13, x14, x15, x16, x17, x18, x19, x20, x21, x22, x23, x24, x25, x26, x27, x28, x29, x30, x31, x32, x33, x34, x35, x36, x37, x38, x39, x40, x41, x42, x43, x44, x45, x46, x47, x48, x49, x50, x51, x52, x53, x54, x55, x56, x57, hTe'⟩ := zk.list hT'
   conv at hr =>
    rhs
    rw [hTe']
    simp only [zSs, reduceIte, Nat.reduceEqDiff, Int.reduceEq, Int.reduceLT, Int.reduceLE, zk.r16]
   rw [hTe] at hr
   exact zk.runs hr (.inr rfl) rfl rfl rfl
  ·
   conv at hr =>
    rhs
    simp only [zSs, reduceIte, Nat.reduceEqDiff, Int.reduceEq, Int.reduceLT, Int.reduceLE]
   rw [hTe] at hr
   have hrun := zk.runs hr (.inr rfl) (by rw [h2]; rfl) (by rw [h3]; rfl) (by rw [h4]; rfl)
   rw [h2, h3, h4] at hrun
   exact hrun
 | some mr =>
  obtain ⟨m, rest⟩ := mr
  rw [hsc] at g3
  obtain ⟨rfl, h2, h3, h4⟩ := g3
  conv at hr =>
   rhs
   simp only [zSs, reduceIte, Nat.reduceEqDiff, Int.reduceEq, Int.reduceLT, Int.reduceLE]
  rw [hTe] at hr
  have hrun := zk.runs hr (.inr rfl) (by rw [h2]; rfl) (by rw [h3]; exact jM) (by rw [h4]; rfl)
  rw [h2, h3, h4] at hrun
  exact hrun
end
end Go.Proofs.Ytbgcphbbchndkaa
namespace Go.Proofs.Ytbgcphbbchndkaa
open Go.Abs
theorem Yt {n : Nat} (h : n < 256) : (UInt8.ofNat n).toNat = n := by rw [UInt8.toNat_ofNat']; omega
theorem Vb : ∀ (n i acc : Nat) (r : List UInt8), i ≤ 9 → (0 < i → 0 < n) → n * 128 ^ i < 2 ^ 64 → scan i acc (enc n ++ r) = some (acc + n * 128 ^ i, r) := by
 intro n
 induction n using Nat.strongRecOn with
 | _ n ih =>
  intro i acc r hi hn hlt
  have h9 : i = 9 → n ≤ 1 := by
   intro h; subst h
   have : (128 : Nat) ^ 9 = 2 ^ 63 := by decide
   omega
  by_cases hs : n < 128
  ·
   rw [kD hs, List.singleton_append, scan, Yt (by omega), if_neg (by rintro (⟨h1, h2⟩ | ⟨h1, h2⟩); exact absurd (h9 h1) (by omega); exact absurd (hn h1) (by omega)), if_pos hs]
  ·
   rw [Jd hs, List.cons_append, scan, Yt (by omega)]
   have hi9 : i ≠ 9 := fun h => by have := h9 h; omega
   rw [if_neg (by rintro (⟨h1, h2⟩ | ⟨h1, h2⟩); exact hi9 h1; omega), if_neg (by omega)]
   have hmul : n / 128 * 128 ^ (i + 1) ≤ n * 128 ^ i := by
    rw [Nat.pow_succ, ← Nat.mul_assoc, Nat.mul_right_comm]
    exact Nat.mul_le_mul_right _ (by omega)
   rw [ih (n / 128) (by omega) (i + 1) _ r (by omega) (fun _ => by omega) (Nat.lt_of_le_of_lt hmul hlt)]
   congr 2
   have : n = n % 128 + n / 128 * 128 := by omega
   have e1 : (n % 128 + 128 - 128) * 128 ^ i + n / 128 * 128 ^ (i + 1) = n * 128 ^ i := by
    rw [Nat.pow_succ]
    conv => rhs; rw [this, Nat.add_mul]
    rw [Nat.add_sub_cancel, Nat.mul_comm (128 ^ i) 128, ← Nat.mul_assoc]
   omega
theorem ZP {n : Nat} (h : n < 2 ^ 64) (r : List UInt8) : scan 0 0 (enc n ++ r) = some (n, r) := by
 rw [Vb n 0 0 r (by omega) (by omega) (by simpa using h)]; simp
theorem XL : ∀ (l : List UInt8) (i acc m : Nat) (r : List UInt8), scan i acc l = some (m, r) → ∃ n, l = enc n ++ r ∧ m = acc + n * 128 ^ i ∧ (0 < i → 0 < n) := by
 intro l
 induction l with
 | nil => intro i acc m r h; cases h
 | cons x l ih =>
  intro i acc m r h
  rw [scan] at h
  have hx := x.toNat_lt
  split at h
  ·
   cases h
  ·
   rename_i hs
   split at h
   ·
    rename_i hx2
    cases h
    refine ⟨x.toNat, ?_, rfl, fun hi => by omega⟩
    rw [kD hx2]; simp
   ·
    rename_i hx2
    obtain ⟨n, h1, h2, h3⟩ := ih _ _ _ _ h
    refine ⟨x.toNat - 128 + n * 128, ?_, ?_, fun _ => ?_⟩
    ·
     have hn := h3 (by omega)
     rw [Jd (by omega), show (x.toNat - 128 + n * 128) / 128 = n by omega, show (x.toNat - 128 + n * 128) % 128 + 128 = x.toNat by omega, h1]
     simp
    ·
     rw [h2, Nat.pow_succ, Nat.add_mul]
     rw [Nat.mul_comm (128 ^ i) 128, ← Nat.mul_assoc]; omega
    ·
     have := h3 (by omega); omega
theorem XK {l r : List UInt8} {m : Nat} (h : scan 0 0 l = some (m, r)) : l = enc m ++ r ∧ m < 2 ^ 64 := by
 obtain ⟨n, h1, h2, _⟩ := XL l 0 0 m r h
 have : m = n := by simpa using h2
 subst this
 exact ⟨h1, (VN l 0 0 (by decide) (by omega) m r h).1⟩
theorem agP {a b : Nat} (ha : a < 2 ^ 64) (hb : b < 2 ^ 64) {r s : List UInt8} (h : enc a ++ r = enc b ++ s) : a = b ∧ r = s := by
 have h1 := ZP ha r
 rw [h, ZP hb s] at h1
 simp only [Option.some.injEq, Prod.mk.injEq] at h1
 exact ⟨h1.1.symm, h1.2.symm⟩
end Go.Proofs.Ytbgcphbbchndkaa
namespace Go.Proofs.Ytbgcphbbchndkaa
open Go.Abs
theorem ahY (x : Int) : sv 2 1 1 [.int .i64 x] = iz 2 [x] := rfl
theorem agH {k : Nat} {l : List Int} {x : Int} {S : zh} (h : Okl k l) (hk : k ≠ 1) (hl : l.length ≤ 17592186044000) : wz Try.prog 57 57 (iz k l) (iz 2 [x]) S = some (iz 2 (l ++ [x]), S) := by
 rw [ac5 h hk Okl.own (by simp; omega), if_neg (fun h => by have := h.2; simp at this)]
end Go.Proofs.Ytbgcphbbchndkaa
namespace Go.Abs
open Go.RowKit
theorem aip {b : Nat} {e : Ty} {α : Type} (f : α → List Value) (Q : α → Prop) (h : ∀ x, e.Good x → ∃ y, e.Ws x = f y ∧ Q y) (hf : ∀ y, (f y).length = e.sz) (x : (Ty.slc b e).Val) (hg : (Ty.slc b e).Good x) :
  ∃ k l, Okl k l ∧ k ≠ 2 ∧ (Ty.slc b e).Ws x = [vs f e.sz k l] ∧ l.length * b ≤ 140737488351232 ∧ ∀ y ∈ l, Q y := by
 match x, hg with
 | none, _ => exact ⟨0, [], Okl.none, by decide, rfl, by simp, fun y hy => by cases hy⟩
 | some xs, hg =>
  obtain ⟨h1, h2, h3⟩ := hg
  have key : ∀ xs : List e.Val, (∀ n ∈ xs, e.Good n) → ∃ l : List α, xs.flatMap e.Ws = l.flatMap f ∧ l.length = xs.length ∧ ∀ y ∈ l, Q y := by
   intro xs
   induction xs with
   | nil => intro _; exact ⟨[], rfl, rfl, fun y hy => by cases hy⟩
   | cons n xs ih =>
    intro hn
    obtain ⟨y, hy, hq⟩ := h n (hn n (by simp))
    obtain ⟨l, k1, k2, k3⟩ := ih (fun m hm => hn m (by simp [hm]))
    refine ⟨y :: l, by rw [List.flatMap_cons, List.flatMap_cons, hy, k1], by simp [k2], fun z hz => ?_⟩
    rcases List.mem_cons.1 hz with rfl | hz
    ·
     exact hq
    ·
     exact k3 z hz
  obtain ⟨l, k1, k2, k3⟩ := key xs h3
  refine ⟨1, l, Okl.read, by decide, ?_, by rw [k2]; exact h1, k3⟩
  show [SL 1 e.sz (List.length xs) (List.flatMap e.Ws xs)] = [_]
  unfold vs
  rw [sv1, k1, k2]
theorem aaY {cs xs : List Value} (h : cs.length = xs.length) : splice cs 0 xs = xs := by
 unfold splice
 rw [List.take_zero, List.nil_append, Nat.zero_add, ← h, List.drop_length, List.append_nil]
theorem aiv {k e n : Nat} {cs : List Value} : (sv k e n cs).oneCell' = true := by unfold sv; split <;> rfl
theorem agm {α : Type} {f : α → List Value} {e k : Nat} {l : List α} : (vs f e k l).oneCell' = true := aiv
theorem acW {k : IntKind} {n : Int} : (Value.int k n).oneCell' = true := rfl
theorem Yl {P : Program} {t : TypeId} {z xs : List Value} {x : Value} (S : zh) (hx : x.cells.toList = xs) (hs : xP P t = some z.length) (hl : xs.length = z.length) (h1 : xs.all (·.oneCell') = true) :
  ∃ S2, jP P t (.pointer (some ⟨S.next, 0, none⟩)) x (S.push (.cells z (.own []) 0)) = some (undef, S2) ∧ S2.get S.next = some (.cells xs (.own []) 0) ∧ Ext S S2 ∧ S.next < S2.next := by
 have hg : (S.push (.cells z (.own []) 0)).get S.next = some (.cells z (.own []) 0) := by rw [zh.wu, if_pos rfl]
 refine ⟨_, qQ hg hs (by rw [← Array.length_toList, hx, hl]) (by rw [hx]; exact h1) (by simp), ?_, (Ext.push S _).set (Nat.le_refl _) _, by simp [zh.kills]⟩
 rw [zh.wJ, if_pos rfl, hx, aaY hl.symm]
theorem X3 {P : Program} {t : TypeId} {q o n : Nat} {cs : List Value} {e : Nat} {x : Value} {S S0 : zh} (hg : S.get q = some (.cells cs (.own []) e)) (hs : xP P t = some n) (hn : x.cells.size = n) (h1 : x.cells.toList.all (·.oneCell') = true) (hle : o + n ≤ cs.length) (hE : Ext S0 S) (hq : S0.next ≤ q) :
  ∃ S2, jP P t (.pointer (some ⟨q, o, none⟩)) x S = some (undef, S2) ∧ S2.get q = some (.cells (splice cs o x.cells.toList) (.own []) e) ∧ Ext S0 S2 ∧ S2.next = S.next ∧ ∀ k, k ≠ q → S2.get k = S.get k := by
 exact ⟨_, qQ hg hs hn h1 hle, by rw [zh.wJ, if_pos rfl], hE.set hq _, by simp [zh.kills], fun k hk => by rw [zh.wJ, if_neg hk]; rfl⟩
theorem aiJ (x : Value) (S : zh) : ∃ S2, Wi x S = some (.pointer (some ⟨S.next, 0, none⟩), S2) ∧ S2.get S.next = some (.cells x.cells.toList (.own []) 0) ∧ Ext S S2 ∧ S.next < S2.next :=
 ⟨_, rfl, by rw [zh.wu, if_pos rfl], Ext.push _ _, by simp⟩
end Go.Abs
namespace Go.Proofs.Ytbgcphbbchndkaa
open Go.Abs
structure Tb where
 k : Nat
 b : List UInt8
structure Tb.Ok (t : Tb) : Prop where
 okl : Okl t.k t.b
 ne : t.k ≠ 2
 le : t.b.length ≤ 140737488351232
end Go.Proofs.Ytbgcphbbchndkaa
namespace Go.Proofs.Ytbgcphbbchndkaa
open Go.Abs
def encs (l : List Int) : List UInt8 := l.flatMap fun n => enc (n + 1).toNat
def afk (k : Nat) (l : List Int) : Value := if 64 < l.length ∨ ∃ n ∈ l, n < -1 then .tuple #[.slice none 0 0, .int .i64 11] else .tuple #[by_ (if l = [] then k else 2) (encs l), .int .i64 0]
theorem aa4 {n : Int} (h : -1 ≤ n) (h2 : n < 9223372036854775808) : IntKind.u64.wrap (IntKind.u64.wrap n + 1) = ((n + 1).toNat : Int) := by
 simp [IntKind.wrap, IntKind.bits, IntKind.signed]
 omega
theorem xE (a b : List Int) : encs (a ++ b) = encs a ++ encs b := by simp [encs]
theorem aeN (n : Int) : encs [n] = enc (n + 1).toNat := by simp [encs]
theorem vY {l : List Int} (h : ∀ n ∈ l, n < 9223372036854775808) : (encs l).length ≤ l.length * 10 := by
 induction l with
 | nil => simp [encs]
 | cons n l ih =>
  have h1 := ih fun m hm => h m (by simp [hm])
  have h2 : (enc (n + 1).toNat).length ≤ 10 := xM (by have := h n (by simp); omega)
  simp only [encs, List.flatMap_cons, List.length_append, List.length_cons] at *
  omega
theorem zJ.round {k : Nat} {l : List Int} (hv : Okl k l) (hk : k ≠ 2) (h64 : l.length ≤ 64) (hb : ∀ n ∈ l, n < 9223372036854775808) {S : zh} : ∀ (suf pre : List Int) {T : List Value} {r : St}, qm (zu Try.prog O false zJ.jr) T S = r → T.length = 26 →
  T.getD 10 undef = iz k l → T.getD 11 undef = .int .i64 l.length → T.getD 12 undef = .int .i64 pre.length → T.getD 4 undef = by_ (if pre = [] then 0 else 2) (encs pre) → l = pre ++ suf →
  ∃ e T', r = some (e, T', S) ∧ if (∃ n ∈ suf, n < -1) then e = .ret ∧ T'.getD 2 undef = .slice none 0 0 ∧ T'.getD 3 undef = .int .i64 11 else e = .exit 0 ∧ T'.length = 26 ∧ T'.getD 4 undef = by_ (if l = [] then 0 else 2) (encs l) := by
 intro suf
 induction suf with
 | nil =>
  intro pre T r hL hT ha hb hc h4 hl
  have hTe := zJ.eta hT
  rw [ha, hb, hc, h4] at hTe
  have hr : zu Try.prog O false zJ.jr T S = zu Try.prog O false zJ.jr T S := rfl
  have hd : ¬ (pre.length : Int) < (l.length : Int) := by rw [hl]; simp
  conv at hr =>
   rhs
   rw [hTe]
   simp only [zJ.jr, zJ.code, zJ.rs, zSs, reduceIte, Nat.reduceEqDiff, Int.reduceEq, Int.reduceLT, Int.reduceLE, hd]
  refine ⟨_, _, hL.symm.trans (jO hr (by simp)), ?_⟩
  rw [if_neg (by simp)]
  simp only [List.append_nil] at hl
  subst hl
  exact ⟨rfl, rfl, rfl⟩
 | cons n suf ih =>
  intro pre T r hL hT ha hbb hc h4 hl
  have hTe := zJ.eta hT
  rw [ha, hbb, hc, h4] at hTe
  have hr : zu Try.prog O false zJ.jr T S = zu Try.prog O false zJ.jr T S := rfl
  have hll : l.length = pre.length + (suf.length + 1) := by rw [hl]; simp
  have hlt : (pre.length : Int) < (l.length : Int) := by omega
  have e1 : ∀ S, zW Try.prog 57 (iz k l) (.int .i64 pre.length) S = some (EP [.int .i64 n], S) := fun S => by
   rw [ab6 hv (by omega) hlt]; rw [adI hl]
  have hn := hb n (by rw [hl]; simp)
  by_cases h1 : n < -1
  ·
   conv at hr =>
    rhs
    rw [hTe]
    simp only [zJ.jr, zJ.code, zJ.rs, zSs, reduceIte, Nat.reduceEqDiff, Int.reduceEq, Int.reduceLT, Int.reduceLE, hlt, e1, qZ, h1]
   refine ⟨_, _, hL.symm.trans (jO hr (by simp)), ?_⟩
   rw [if_pos ⟨n, by simp, h1⟩]
   exact ⟨rfl, rfl, rfl⟩
  ·
   have w1 := aa4 (n := n) (by omega) (by omega)
   have hpb : (encs pre).length ≤ pre.length * 10 := vY fun m hm => hb m (by rw [hl]; simp [hm])
   have hp10 : (enc (n + 1).toNat).length ≤ 10 := xM (by omega)
   have hpp := agU (n + 1).toNat
   have g1 := fun S => jF.v (n + 1).toNat (by omega) S
   have e2 : ∀ S, wz Try.prog 23 23 (by_ (if pre = [] then 0 else 2) (encs pre)) (by_ 2 (enc (n + 1).toNat)) S = some (by_ 2 (encs (pre ++ [n])), S) := fun S => by
    have ok : Okl (if pre = [] then 0 else 2) (encs pre) := ⟨by split <;> omega, fun h => by split at h <;> first | (rename_i hp; subst hp; rfl) | omega⟩
    rw [qF ok (by split <;> omega) Okl.own (by omega), if_neg (fun h => by have := h.2; omega), xE, aeN]
   have wi : IntKind.i64.wrap ((pre.length : Int) + 1) = ((pre ++ [n]).length : Int) := by rw [wrap_i64 (by omega) (by omega)]; simp
   conv at hr =>
    rhs
    rw [hTe]
    simp only [zJ.jr, zJ.code, zJ.rs, zSs, reduceIte, Nat.reduceEqDiff, Int.reduceEq, Int.reduceLT, Int.reduceLE, hlt, e1, qZ, h1, Jz, w1, g1, e2, wi]
   obtain ⟨e, T', g1, g2⟩ := ih (pre ++ [n]) ((yx hr).symm.trans hL) rfl rfl rfl rfl (by rw [if_neg (show ¬ pre ++ [n] = [] by simp)]; rfl) (by simp [hl])
   refine ⟨e, T', g1, ?_⟩
   by_cases h2 : ∃ m ∈ suf, m < -1
   ·
    rw [if_pos h2] at g2
    obtain ⟨m, hm, hm2⟩ := h2
    rw [if_pos ⟨m, by simp [hm], hm2⟩]
    exact g2
   ·
    rw [if_neg h2] at g2
    rw [if_neg (by rintro ⟨m, hm, hm2⟩; rcases List.mem_cons.1 hm with rfl | hm; exact h1 hm2; exact h2 ⟨m, hm, hm2⟩)]
    exact g2
theorem zJ.v {k : Nat} {l : List Int} (hv : Okl k l) (hk : k ≠ 2) (hb : ∀ n ∈ l, n < 9223372036854775808) (S : zh) : zM Try.prog O zJ.id [iz k l] S = some (afk 0 l, S) := by
 obtain ⟨T, hTe⟩ : ∃ T, T = (iz k l :: undef :: undef :: undef :: undef :: undef :: undef :: undef :: undef :: undef :: undef :: undef :: undef :: undef :: undef :: undef :: undef :: undef :: undef :: undef :: undef :: undef :: undef :: undef :: undef :: undef :: []) := ⟨_, rfl⟩
 have hr : zu Try.prog O false zJ.code T S = zu Try.prog O false zJ.code T S := rfl
 unfold afk
 by_cases h1 : 64 < l.length
 ·
  have d1 : (64 : Int) < (l.length : Int) := by omega
  conv at hr =>
   rhs
   rw [hTe]
   simp only [zJ.code, zJ.rs, zSs, reduceIte, Nat.reduceEqDiff, Int.reduceEq, Int.reduceLT, Int.reduceLE, if_neg hk, agj hv, goInt, d1]
  rw [hTe] at hr
  rw [if_pos (.inl h1)]
  exact zJ.runs hr (.inr rfl) (by simp only [List.getD_cons_succ, List.getD_cons_zero, jM, jI, jk, jB, jJ]) (by simp only [List.getD_cons_succ, List.getD_cons_zero, jM, jI, jk, jB, jJ])
 ·
  have d1 : ¬ (64 : Int) < (l.length : Int) := by omega
  conv at hr =>
   rhs
   rw [hTe]
   simp only [zJ.code, zJ.rs, zSs, reduceIte, Nat.reduceEqDiff, Int.reduceEq, Int.reduceLT, Int.reduceLE, if_neg hk, agj hv, goInt, d1, vg, aeM]
  generalize hL : qm (zu Try.prog O false zJ.jr) _ _ = r at hr
  obtain ⟨e, T', rfl, g⟩ := zJ.round hv hk (by omega) hb l [] hL rfl rfl rfl rfl rfl rfl
  by_cases h2 : ∃ n ∈ l, n < -1
  ·
   rw [if_pos h2] at g
   obtain ⟨rfl, g2, g3⟩ := g
   conv at hr =>
    rhs
    simp only [zSs, reduceIte, Nat.reduceEqDiff, Int.reduceEq, Int.reduceLT, Int.reduceLE]
   rw [hTe] at hr
   rw [if_pos (.inr h2)]
   have hrun := zJ.runs hr (.inr rfl) (by rw [g2]; rfl) (by rw [g3]; rfl)
   rw [g2, g3] at hrun
   exact hrun
  ·
   rw [if_neg h2] at g
   obtain ⟨rfl, g2, g3⟩ := g
   have hTe' := zJ.eta g2
   rw [g3] at hTe'
   conv at hr =>
    rhs
    rw [hTe']
    simp only [zJ.code, zJ.rs, zSs, reduceIte, Nat.reduceEqDiff, Int.reduceEq, Int.reduceLT, Int.reduceLE]
   rw [hTe] at hr
   rw [if_neg (by rintro (h | h); exact h1 h; exact h2 h)]
   exact zJ.runs hr (.inr rfl) (by simp only [List.getD_cons_succ, List.getD_cons_zero, jM, jI, jk, jB, jJ]) (by simp only [List.getD_cons_succ, List.getD_cons_zero, jM, jI, jk, jB, jJ])
end Go.Proofs.Ytbgcphbbchndkaa
namespace Go.Proofs.Ytbgcphbbchndkaa
open Go.Abs
def wL : Nat → List UInt8 → Option (List Int × List UInt8)
 | 0, l => some ([], l)
 | m + 1, l => match scan 0 0 l with
  | some (n, r) => if n ≤ 4611686018427387905 then (match wL m r with
   | some (a, b) => some (((n : Int) - 1) :: a, b)
   | none => none) else none
  | none => none
def Zv (k0 k1 : Nat) (many : Int) (l : List UInt8) : Value :=
 if many < 0 ∨ 64 < many then .tuple #[.slice none 0 0, .slice none 0 0, .int .i64 11]
 else match wL many.toNat l with
  | some (a, b) => .tuple #[iz (if many = 0 then k0 else 2) a, by_ (if many = 0 then k1 else 2) b, .int .i64 0]
  | none => .tuple #[.slice none 0 0, .slice none 0 0, .int .i64 11]
theorem zn.round {many : Int} (hmany : many ≤ 64) {S : zh} : ∀ (m : Nat) (i : Int) (rest : List UInt8) (kr : Nat) (out : List Int) (ko : Nat) {T : List Value} {r : St}, qm (zu Try.prog O false zn.jr) T S = r → T.length = 45 →
  T.getD 20 undef = .int .i64 many → T.getD 21 undef = .int .i64 i → T.getD 7 undef = by_ kr rest → T.getD 8 undef = iz ko out → 0 ≤ i → many = i + m → Okl kr rest → rest.length ≤ 140737488355328 → Okl ko out → ko ≠ 1 → (out.length : Int) = i →
  ∃ e T', r = some (e, T', S) ∧ match wL m rest with
   | none => e = .ret ∧ T'.getD 4 undef = .slice none 0 0 ∧ T'.getD 5 undef = .slice none 0 0 ∧ T'.getD 6 undef = .int .i64 11
   | some (a, b) => e = .exit 0 ∧ T'.length = 45 ∧ T'.getD 8 undef = iz (if m = 0 then ko else 2) (out ++ a) ∧ T'.getD 7 undef = by_ (if m = 0 then kr else 2) b := by
 intro m
 induction m with
 | zero =>
  intro i rest kr out ko T r hL hT h1 h2 h3 h4 h0 hm hkr hlen hko hk1 hol
  have hTe := zn.eta hT
  rw [h1, h2, h3, h4] at hTe
  have hr : zu Try.prog O false zn.jr T S = zu Try.prog O false zn.jr T S := rfl
  have hd : ¬ i < many := by omega
  conv at hr =>
   rhs
   rw [hTe]
   simp only [zn.jr, zn.code, zn.rs, zSs, reduceIte, Nat.reduceEqDiff, Int.reduceEq, Int.reduceLT, Int.reduceLE, hd]
  exact ⟨_, _, hL.symm.trans (jO hr (by simp)), rfl, rfl, by simp, rfl⟩
 | succ m ih =>
  intro i rest kr out ko T r hL hT h1 h2 h3 h4 h0 hm hkr hlen hko hk1 hol
  have hTe := zn.eta hT
  rw [h1, h2, h3, h4] at hTe
  have hr : zu Try.prog O false zn.jr T S = zu Try.prog O false zn.jr T S := rfl
  have hd : i < many := by omega
  have g1 : ∀ S, zM Try.prog O zG.id [by_ (if kr = 2 then 1 else kr) rest] S = some (Kw rest, S) := zG.v hkr.dem (by split <;> omega) hlen
  unfold Kw at g1
  rw [wL]
  cases hsc : scan 0 0 rest with
  | none =>
   rw [hsc] at g1
   have d11 : ¬ (11 : Int) = 0 := by omega
   conv at hr =>
    rhs
    rw [hTe]
    simp only [zn.jr, zn.code, zn.rs, zSs, reduceIte, Nat.reduceEqDiff, Int.reduceEq, Int.reduceLT, Int.reduceLE, afY, hd, g1, d11]
   exact ⟨_, _, hL.symm.trans (jO hr (by simp)), rfl, rfl, rfl, rfl⟩
  | some nr =>
   obtain ⟨n, r'⟩ := nr
   rw [hsc] at g1
   obtain ⟨hn, hrl⟩ := VN rest 0 0 (by decide) (by omega) n r' hsc
   dsimp only
   by_cases h5 : n ≤ 4611686018427387905
   ·
    have d1 : ¬ (4611686018427387905 : Int) < (n : Int) := by omega
    have w1 : IntKind.i64.wrap (n : Int) = (n : Int) := wrap_i64 (by omega) (by omega)
    have w2 : IntKind.i64.wrap ((n : Int) - 1) = (n : Int) - 1 := wrap_i64 (by omega) (by omega)
    have w3 : IntKind.i64.wrap (i + 1) = i + 1 := wrap_i64 (by omega) (by omega)
    have e1 : ∀ x S, wz Try.prog 57 57 (iz ko out) (iz 2 [x]) S = some (iz 2 (out ++ [x]), S) := fun x S => agH hko hk1 (by omega)
    conv at hr =>
     rhs
     rw [hTe]
     simp only [zn.jr, zn.code, zn.rs, zSs, reduceIte, Nat.reduceEqDiff, Int.reduceEq, Int.reduceLT, Int.reduceLE, afY, hd, g1, d1, KQ, w1, w2, w3, Qc, ahY, e1]
    obtain ⟨e, T', g2, g3⟩ := ih (i + 1) r' 2 (out ++ [(n : Int) - 1]) 2 ((yx hr).symm.trans hL) rfl rfl rfl rfl rfl (by omega) (by omega) Okl.own (by omega) Okl.own (by decide) (by simp; omega)
    refine ⟨e, T', g2, ?_⟩
    rw [if_pos h5]
    cases hrn : wL m r' with
    | none => rw [hrn] at g3; exact g3
    | some ab =>
     obtain ⟨a, b⟩ := ab
     rw [hrn] at g3
     obtain ⟨q1, q2, q3, q4⟩ := g3
     refine ⟨q1, q2, ?_, ?_⟩
     ·
      rw [q3]; simp
     ·
      rw [q4]; simp
   ·
    have d1 : (4611686018427387905 : Int) < (n : Int) := by omega
    conv at hr =>
     rhs
     rw [hTe]
     simp only [zn.jr, zn.code, zn.rs, zSs, reduceIte, Nat.reduceEqDiff, Int.reduceEq, Int.reduceLT, Int.reduceLE, afY, hd, g1, d1]
    refine ⟨_, _, hL.symm.trans (jO hr (by simp)), ?_⟩
    rw [if_neg h5]
    exact ⟨rfl, rfl, rfl, rfl⟩
theorem zn.v {k : Nat} {l : List UInt8} {many : Int} (hv : Okl k l) (hk : k ≠ 2) (hlen : l.length ≤ 140737488355328) (S : zh) : zM Try.prog O zn.id [by_ k l, .int .i64 many] S = some (Zv 0 (if k = 0 then 0 else 2) many l, S) := by
 obtain ⟨T, hTe⟩ : ∃ T, T = (by_ k l :: .int .i64 many :: undef :: undef :: undef :: undef :: undef :: undef :: undef :: undef :: undef :: undef :: undef :: undef :: undef :: undef :: undef :: undef :: undef :: undef :: undef :: undef :: undef :: undef :: undef :: undef :: undef :: undef :: undef :: undef :: undef :: undef :: undef :: undef :: undef :: undef :: undef :: undef :: undef :: undef :: undef :: undef :: undef :: undef :: undef :: []) := ⟨_, rfl⟩
 have hr : zu Try.prog O false zn.code T S = zu Try.prog O false zn.code T S := rfl
 have c1 : ∀ S, zM Try.prog O 50 [by_ k l] S = some (by_ (if k = 0 then 0 else 2) l, S) := slices_Clone.v hv hk hlen
 unfold Zv
 by_cases h1 : many < 0
 ·
  conv at hr =>
   rhs
   rw [hTe]
   simp only [zn.code, zn.rs, zSs, reduceIte, Nat.reduceEqDiff, Int.reduceEq, Int.reduceLT, Int.reduceLE, h1]
  rw [hTe] at hr
  rw [if_pos (.inl h1)]
  exact zn.runs hr (.inr rfl) (by simp only [List.getD_cons_succ, List.getD_cons_zero, jM, jI, jk, jB, jJ]) (by simp only [List.getD_cons_succ, List.getD_cons_zero, jM, jI, jk, jB, jJ]) (by simp only [List.getD_cons_succ, List.getD_cons_zero, jM, jI, jk, jB, jJ])
 ·
  by_cases h2 : 64 < many
  ·
   conv at hr =>
    rhs
    rw [hTe]
    simp only [zn.code, zn.rs, zSs, reduceIte, Nat.reduceEqDiff, Int.reduceEq, Int.reduceLT, Int.reduceLE, h1, h2]
   rw [hTe] at hr
   rw [if_pos (.inr h2)]
   exact zn.runs hr (.inr rfl) (by simp only [List.getD_cons_succ, List.getD_cons_zero, jM, jI, jk, jB, jJ]) (by simp only [List.getD_cons_succ, List.getD_cons_zero, jM, jI, jk, jB, jJ]) (by simp only [List.getD_cons_succ, List.getD_cons_zero, jM, jI, jk, jB, jJ])
  ·
   rw [if_neg (by omega)]
   conv at hr =>
    rhs
    rw [hTe]
    simp only [zn.code, zn.rs, zSs, reduceIte, Nat.reduceEqDiff, Int.reduceEq, Int.reduceLT, Int.reduceLE, h1, h2, if_neg hk, c1]
   generalize hL : qm (zu Try.prog O false zn.jr) _ _ = r at hr
   have okr : Okl (if k = 0 then 0 else 2) l := ⟨by split <;> omega, fun h => by split at h <;> first | (rename_i hp; exact hv.nil hp) | omega⟩
   obtain ⟨e, T', rfl, g⟩ := zn.round (many := many) (by omega) many.toNat 0 l (if k = 0 then 0 else 2) [] 0 hL rfl rfl rfl rfl rfl (by omega) (by omega) okr hlen Okl.none (by decide) rfl
   cases hrn : wL many.toNat l with
   | none =>
    rw [hrn] at g
    obtain ⟨rfl, g2, g3, g4⟩ := g
    conv at hr =>
     rhs
     simp only [zSs, reduceIte, Nat.reduceEqDiff, Int.reduceEq, Int.reduceLT, Int.reduceLE]
    rw [hTe] at hr
    have hrun := zn.runs hr (.inr rfl) (by rw [g2]; rfl) (by rw [g3]; rfl) (by rw [g4]; rfl)
    rw [g2, g3, g4] at hrun
    exact hrun
   | some ab =>
    obtain ⟨a, b⟩ := ab
    rw [hrn] at g
    obtain ⟨rfl, g2, g3, g4⟩ := g
    have hTe' := zn.eta g2
    rw [g3, g4] at hTe'
    have hz : (many.toNat = 0) ↔ (many = 0) := by omega
    simp only [hz, List.nil_append] at hTe'
    conv at hr =>
     rhs
     rw [hTe']
     simp only [zn.code, zn.rs, zSs, reduceIte, Nat.reduceEqDiff, Int.reduceEq, Int.reduceLT, Int.reduceLE]
    rw [hTe] at hr
    exact zn.runs hr (.inr rfl) (by simp only [List.getD_cons_succ, List.getD_cons_zero, jM, jI, jk, jB, jJ]) (by simp only [List.getD_cons_succ, List.getD_cons_zero, jM, jI, jk, jB, jJ]) (by simp only [List.getD_cons_succ, List.getD_cons_zero, jM, jI, jk, jB, jJ])
end Go.Proofs.Ytbgcphbbchndkaa
namespace Go.Proofs.Ytbgcphbbchndkaa
open Go.Abs
def Few (n : Int) : Prop := -1 ≤ n ∧ n ≤ 4611686018427387904
theorem wH : ∀ (m : Nat) (l : List UInt8) (a : List Int) (b : List UInt8), wL m l = some (a, b) ↔ a.length = m ∧ l = encs a ++ b ∧ ∀ n ∈ a, Few n := by
 intro m
 induction m with
 | zero =>
  intro l a b
  constructor
  ·
   intro h; cases h; exact ⟨rfl, rfl, fun n h => by cases h⟩
  ·
   rintro ⟨h1, h2, _⟩
   have : a = [] := List.length_eq_zero_iff.mp h1
   subst this
   rw [h2]; rfl
 | succ m ih =>
  intro l a b
  rw [wL]
  constructor
  ·
   intro h
   cases hsc : scan 0 0 l with
   | none => rw [hsc] at h; cases h
   | some nr =>
    obtain ⟨n, r⟩ := nr
    rw [hsc] at h
    dsimp only at h
    split at h
    ·
     rename_i hn
     cases hr : wL m r with
     | none => rw [hr] at h; cases h
     | some ab =>
      obtain ⟨a', b'⟩ := ab
      rw [hr] at h
      obtain ⟨h1, h2, h3⟩ := (ih r a' b').mp hr
      cases h
      obtain ⟨f1, f2⟩ := XK hsc
      refine ⟨by simp [h1], ?_, fun x hx => ?_⟩
      ·
       rw [f1, h2]
       have : ((n : Int) - 1 + 1).toNat = n := by omega
       simp [encs, this]
      ·
       rcases List.mem_cons.1 hx with rfl | hx
       ·
        unfold Few; omega
       ·
        exact h3 x hx
    ·
     cases h
  ·
   rintro ⟨h1, h2, h3⟩
   cases a with
   | nil => simp at h1
   | cons x a =>
    have hx : Few x := h3 x (by simp)
    unfold Few at hx
    have he : encs (x :: a) ++ b = enc (x + 1).toNat ++ (encs a ++ b) := by simp [encs]
    rw [h2, he, ZP (by omega)]
    dsimp only
    rw [if_pos (by omega), (ih (encs a ++ b) a b).mpr ⟨by simpa using h1, rfl, fun n hn => h3 n (by simp [hn])⟩]
    have : ((x + 1).toNat : Int) - 1 = x := by omega
    simp only [this]
theorem ZK {m : Nat} {l : List UInt8} {a : List Int} {b : List UInt8} (h : wL m l = some (a, b)) : a.length = m ∧ b.length ≤ l.length := by
 obtain ⟨h1, h2, _⟩ := (wH m l a b).mp h
 exact ⟨h1, by rw [h2]; simp⟩
theorem ZR {a c : List Int} {b d : List UInt8} (h : a.length = c.length) (ha : ∀ n ∈ a, Few n) (hc : ∀ n ∈ c, Few n) (he : encs a ++ b = encs c ++ d) : a = c ∧ b = d := by
 have h1 := (wH a.length (encs a ++ b) a b).mpr ⟨rfl, rfl, ha⟩
 have h2 := (wH a.length (encs a ++ b) c d).mpr ⟨h.symm, he, hc⟩
 rw [h1] at h2
 simpa using h2
theorem WR {k : Nat} {l : List Int} (h : l.length ≤ 64) (h1 : ∀ n ∈ l, -1 ≤ n) (h0 : l ≠ []) : afk k l = .tuple #[by_ 2 (encs l), .int .i64 0] := by
 unfold afk
 rw [if_neg (by rintro (h2 | ⟨n, h2, h3⟩); { omega }; { have := h1 n h2; omega }), if_neg h0]
theorem Zc {k0 k1 m : Nat} {l : List UInt8} (h0 : 0 < m) (h : m ≤ 64) : Zv k0 k1 m l = match wL m l with
  | some (a, b) => .tuple #[iz 2 a, by_ 2 b, .int .i64 0]
  | none => .tuple #[.slice none 0 0, .slice none 0 0, .int .i64 11] := by
 unfold Zv
 rw [if_neg (by omega), Int.toNat_natCast]
 have : (m : Int) ≠ 0 := by omega
 simp only [if_neg this]
 all_goals (cases wL m l <;> rfl)
noncomputable def rd {α : Type} (ok : α → Prop) (e : α → List UInt8) (b : List UInt8) : Option α := open Classical in if h : ∃ x, ok x ∧ b = e x then some h.choose else none
theorem ad4 {α : Type} {ok : α → Prop} {e : α → List UInt8} (inj : ∀ x y, ok x → ok y → e x = e y → x = y) (b : List UInt8) (x : α) : rd ok e b = some x ↔ ok x ∧ b = e x := by
 unfold rd
 constructor
 ·
  intro h
  split at h
  ·
   rename_i he
   cases h
   exact he.choose_spec
  ·
   cases h
 ·
  intro h
  have he : ∃ x, ok x ∧ b = e x := ⟨x, h⟩
  rw [dif_pos he]
  exact congrArg some (inj _ _ he.choose_spec.1 h.1 (he.choose_spec.2.symm.trans h.2))
end Go.Proofs.Ytbgcphbbchndkaa
namespace Go.Proofs.Ytbgcphbbchndkaa
open Go.Abs
def abI (n : Int) : Int := IntKind.u64.wrap (IntKind.u64.wrap (IntKind.u64.wrap n + 1) * 11400714819323198485)
def abG (h : Int) (x : UInt8) : Int := IntKind.u64.wrap (abU .u64 h (x.toNat : Int) * 1099511628211)
def ajg (h : Int) : Int := abU .u64 h (h.fdiv (2 ^ min (Int.toNat 29) (IntKind.bits .u64)))
def Jg (key : Int) (b : List UInt8) : Int := ajg (b.foldl abG (abU .u64 key 14695981039346656037))
theorem abX (x : UInt8) : IntKind.u64.wrap (x.toNat : Int) = (x.toNat : Int) := kQ (by have := x.toNat_lt; omega)
theorem aeL (x : Int) : IntKind.u64.wrap x = x % 18446744073709551616 := rfl
theorem afq (a b : Int) : 0 ≤ abU .u64 a b ∧ abU .u64 a b < 18446744073709551616 := by
 unfold abU
 have h : ∀ x : Int, 0 ≤ IntKind.u64.wrap x ∧ IntKind.u64.wrap x < 18446744073709551616 := fun x => by rw [aeL]; omega
 first | exact h _ | (simp only [IntKind.ofBits, IntKind.signed]; first | exact h _ | omega)
theorem yP.v (n : Int) (S : zh) : zM Try.prog O yP.id [.int .i64 n] S = some (.int .u64 (abI n), S) := by
 obtain ⟨T, hTe⟩ : ∃ T, T = (.int .i64 n :: undef :: undef :: undef :: undef :: undef :: undef :: []) := ⟨_, rfl⟩
 have hr : zu Try.prog O false yP.code T S = zu Try.prog O false yP.code T S := rfl
 conv at hr =>
  rhs
  rw [hTe]
  simp only [yP.code, yP.rs, zSs, reduceIte, Nat.reduceEqDiff, Int.reduceEq, Int.reduceLT, Int.reduceLE, WT, Jz]
 rw [hTe] at hr
 exact yP.runs hr (.inr rfl)
section
variable {l : List UInt8} {k : Nat}
theorem jf.round (hv : Okl k l) (hlen : l.length ≤ 140737488355328) {S : zh} : ∀ (suf pre : List UInt8) (h : Int) {T : List Value} {r : St}, qm (zu Try.prog O false jf.jr) T S = r → T.length = 35 →
  T.getD 5 undef = .int .u64 h → T.getD 18 undef = by_ k l → T.getD 19 undef = .int .i64 l.length → T.getD 20 undef = .int .i64 pre.length → l = pre ++ suf →
  ∃ T', r = some (.exit 2, T', S) ∧ T'.length = 35 ∧ T'.getD 5 undef = .int .u64 (suf.foldl abG h) ∧ T'.getD 12 undef = T.getD 12 undef ∧ T'.getD 13 undef = T.getD 13 undef ∧ T'.getD 14 undef = T.getD 14 undef := by
 intro suf
 induction suf with
 | nil =>
  intro pre h T r hL hT h5 h18 h19 h20 hl
  have hTe := jf.eta hT
  rw [h5, h18, h19, h20] at hTe
  have hr : zu Try.prog O false jf.jr T S = zu Try.prog O false jf.jr T S := rfl
  have d1 : ¬ (pre.length : Int) < (l.length : Int) := by rw [hl]; simp
  conv at hr =>
   rhs
   rw [hTe]
   simp only [jf.jr, jf.code, jf.rs, zSs, reduceIte, Nat.reduceEqDiff, Int.reduceEq, Int.reduceLT, Int.reduceLE, d1]
  exact ⟨_, hL.symm.trans (jO hr (by simp)), rfl, rfl, rfl, rfl, rfl⟩
 | cons x suf ih =>
  intro pre h T r hL hT h5 h18 h19 h20 hl
  have hTe := jf.eta hT
  rw [h5, h18, h19, h20] at hTe
  have hr : zu Try.prog O false jf.jr T S = zu Try.prog O false jf.jr T S := rfl
  have d1 : (pre.length : Int) < (l.length : Int) := by rw [hl]; simp; omega
  have e1 : ∀ S, zW Try.prog 23 (by_ k l) (.int .i64 pre.length) S = some (EP [.int .u8 x.toNat], S) := fun S => by
   rw [ahl hv (by omega) d1]; rw [aau hl]
  have wi : IntKind.i64.wrap ((pre.length : Int) + 1) = ((pre ++ [x]).length : Int) := by rw [wrap_i64 (by omega) (by omega)]; simp
  have em : IntKind.u64.wrap (abU .u64 h (x.toNat : Int) * 1099511628211) = abG h x := rfl
  conv at hr =>
   rhs
   rw [hTe]
   simp only [jf.jr, jf.code, jf.rs, zSs, reduceIte, Nat.reduceEqDiff, Int.reduceEq, Int.reduceLT, Int.reduceLE, d1, e1, KZ, xO, abX, QI, WT, em, wi]
  obtain ⟨T', q1, q2, q3, q4, q5, q6⟩ := ih (pre ++ [x]) (abG h x) ((yx hr).symm.trans hL) rfl rfl rfl rfl rfl (by simp [hl])
  exact ⟨T', q1, q2, q3, q4, q5, q6⟩
theorem WX (S : zh) : jy Try.prog 88 1 [(0, by_ 1 l)] S = some (sv 2 1 1 [by_ 1 l], S) := by kernel_rfl
theorem afe (i : Int) (hi : i = 0) (S : zh) : zW Try.prog 88 (sv 1 1 1 [by_ 1 l]) (.int .i64 i) S = some (EP [by_ 1 l], S) := by subst hi; exact Jw V4 adu ⟨by decide, fun h => by cases h⟩ (by omega) (by omega)
theorem jf.v (hlen : l.length ≤ 140737488355328) {key : Int} (S : zh) : zM Try.prog O jf.id [.int .u64 key, sv 1 1 1 [by_ 1 l]] S = some (.int .u64 (Jg key l), S) := by
 obtain ⟨T, hTe⟩ : ∃ T, T = (.int .u64 key :: sv 1 1 1 [by_ 1 l] :: undef :: undef :: undef :: undef :: undef :: undef :: undef :: undef :: undef :: undef :: undef :: undef :: undef :: undef :: undef :: undef :: undef :: undef :: undef :: undef :: undef :: undef :: undef :: undef :: undef :: undef :: undef :: undef :: undef :: undef :: undef :: undef :: undef :: []) := ⟨_, rfl⟩
 have hr : zu Try.prog O false jf.code T S = zu Try.prog O false jf.code T S := rfl
 have ln : ∀ S, ZT Try.prog 88 (sv 1 1 1 [by_ 1 l]) S = some (.int .i64 1, S) := fun S => by kernel_rfl
 have lb : ∀ S, ZT Try.prog 23 (by_ 1 l) S = some (.int .i64 l.length, S) := fun S => ZW Okl.read
 conv at hr =>
  rhs
  rw [hTe]
  simp only [jf.code, jf.rs, zSs, reduceIte, Nat.reduceEqDiff, Int.reduceEq, Int.reduceLT, Int.reduceLE, QI, ln]
 generalize hL : qm (zu Try.prog O false jf.XQ) _ _ = r at hr
 have key1 : ∃ T', r = some (.exit 0, T', S) ∧ T'.length = 35 ∧ T'.getD 5 undef = .int .u64 (l.foldl abG (abU .u64 key 14695981039346656037)) := by
  generalize hT0 : (_ :: _ : List Value) = T0 at hL
  have hT0' : T0.length = 35 := by rw [← hT0]; rfl
  have g5 : T0.getD 5 undef = .int .u64 (abU .u64 key 14695981039346656037) := by rw [← hT0]; rfl
  have g12 : T0.getD 12 undef = sv 1 1 1 [by_ 1 l] := by rw [← hT0]; rfl
  have g13 : T0.getD 13 undef = .int .i64 1 := by rw [← hT0]; rfl
  have g14 : T0.getD 14 undef = .int .i64 0 := by rw [← hT0]; rfl
  have hTe := jf.eta hT0'
  rw [g5, g12, g13, g14] at hTe
  have hr : zu Try.prog O false jf.XQ T0 S = zu Try.prog O false jf.XQ T0 S := rfl
  have z1 : (0 : Int) < 1 := by omega
  conv at hr =>
   rhs
   rw [hTe]
   simp only [jf.XQ, jf.code, jf.rs, zSs, reduceIte, Nat.reduceEqDiff, Int.reduceEq, Int.reduceLT, Int.reduceLE, z1, afe 0 rfl, YC adF, lb]
  generalize hL1 : qm (zu Try.prog O false jf.jr) _ _ = r1 at hr
  obtain ⟨T1, rfl, q1, q2, q3, q4, q5⟩ := jf.round (Okl.read (l := l)) hlen l [] _ hL1 rfl rfl rfl rfl rfl rfl
  have q3 : T1.getD 12 undef = sv 1 1 1 [by_ 1 l] := q3
  have q4 : T1.getD 13 undef = .int .i64 1 := q4
  have q5 : T1.getD 14 undef = .int .i64 0 := q5
  have hT1 := jf.eta q1
  rw [q2, q3, q4, q5] at hT1
  have w1 : IntKind.i64.wrap (0 + 1) = 1 := by decide
  conv at hr =>
   rhs
   rw [hT1]
   simp only [jf.code, jf.rs, zSs, reduceIte, Nat.reduceEqDiff, Int.reduceEq, Int.reduceLT, Int.reduceLE, w1]
  have hL2 := (yx hr).symm.trans hL
  generalize hT2 : (_ :: _ : List Value) = T2 at hL2
  have hT2' : T2.length = 35 := by rw [← hT2]; rfl
  have f5 : T2.getD 5 undef = .int .u64 (l.foldl abG (abU .u64 key 14695981039346656037)) := by rw [← hT2]; rfl
  have f13 : T2.getD 13 undef = .int .i64 1 := by rw [← hT2]; rfl
  have f14 : T2.getD 14 undef = .int .i64 1 := by rw [← hT2]; rfl
  have hTe2 := jf.eta hT2'
  rw [f5, f13, f14] at hTe2
  have hr2 : zu Try.prog O false jf.XQ T2 S = zu Try.prog O false jf.XQ T2 S := rfl
  have z2 : ¬ (1 : Int) < 1 := by omega
  conv at hr2 =>
   rhs
   rw [hTe2]
   simp only [jf.XQ, jf.code, jf.rs, zSs, reduceIte, Nat.reduceEqDiff, Int.reduceEq, Int.reduceLT, Int.reduceLE, z2]
  exact ⟨_, hL2.symm.trans (jO hr2 (by simp)), rfl, rfl⟩
 obtain ⟨T', rfl, g1, g2⟩ := key1
 have hT' := jf.eta g1
 rw [g2] at hT'
 conv at hr =>
  rhs
  rw [hT']
  simp only [jf.code, jf.rs, zSs, reduceIte, Nat.reduceEqDiff, Int.reduceEq, Int.reduceLT, Int.reduceLE, QI, aaD _ _ _ _ (show (0 : Int) ≤ 29 by omega)]
 rw [hTe] at hr
 exact jf.runs hr (.inr rfl)
theorem wI.v (hv : Okl k l) (k1 : k = 1) (hlen : l.length ≤ 140737488355328) {key mark : Int} (S : zh) : zM Try.prog O wI.id [.int .u64 key, .int .u64 mark, by_ k l] S = some (.bool (decide (Jg key l = mark)), S) := by
 subst k1
 obtain ⟨T, hTe⟩ : ∃ T, T = (.int .u64 key :: .int .u64 mark :: by_ 1 l :: undef :: undef :: undef :: undef :: undef :: undef :: undef :: undef :: undef :: undef :: []) := ⟨_, rfl⟩
 have hr : zu Try.prog O false wI.code T S = zu Try.prog O false wI.code T S := rfl
 have c1 := fun S => jf.v hlen (key := key) S
 have z : ¬ (1 : Nat) = 2 := by decide
 conv at hr =>
  rhs
  rw [hTe]
  simp only [wI.code, wI.rs, zSs, reduceIte, Nat.reduceEqDiff, Int.reduceEq, Int.reduceLT, Int.reduceLE, if_neg z, WX, c1]
 rw [hTe] at hr
 exact wI.runs hr (.inr rfl)
end
end Go.Proofs.Ytbgcphbbchndkaa
namespace Go.Proofs.Ytbgcphbbchndkaa
open Go.Abs
abbrev zO.id : FuncId := 53
noncomputable def zO.code : Code := (Code.seq (Code.region 0 (reg Try.f53 0) false) (Code.seq (Code.region 1 (reg Try.f53 1) false) (Code.seq (Code.seq (Code.region 2 (reg Try.f53 2) false) (Code.cond (Operand.tmp 16) (Code.seq (Code.region 3 (reg Try.f53 3) false) Code.ret) Code.skip)) (Code.seq (Code.region 4 (reg Try.f53 4) false) (Code.seq (Code.region 5 (reg Try.f53 5) true) (Code.seq (Code.seq (Code.region 6 (reg Try.f53 6) false) (Code.cond (Operand.tmp 43) (Code.seq (Code.region 7 (reg Try.f53 7) false) Code.ret) Code.skip)) (Code.seq (Code.region 8 (reg Try.f53 8) false) Code.ret)))))))
theorem zO.body : Try.f53.body = some zO.code := by kernel_rfl
variable (U x1 X x3 a Y V W Z x9 c d f g i k l m n o p q r s t u w x y z A B C D E F G H I J K L M N P Q : Value) (S : zh)
theorem zO.r0  : jc Try.prog ⟨false, false, false⟩ (zM Try.prog O) (reg Try.f53 0) (reg Try.f53 0).toList ([U,x1,X,x3,a,Y,V,W,Z,x9,c,d,f,g,i,k,l,m,n,o,p,q,r,s,t,u,w,x,y,z,A,B,C,D,E,F,G,H,I,J,K,L,M,N,P,Q]) S =
  (zB (wF Try.prog 28 S) (fun v0 R => some ([U,x1,v0,Value.int IntKind.i64 0,a,Y,V,W,Z,x9,c,d,f,g,i,k,l,m,n,o,p,q,r,s,t,u,w,x,y,z,A,B,C,D,E,F,G,H,I,J,K,L,M,N,P,Q], R)) ()) := by
 kernel_rfl
theorem zO.r1  : jc Try.prog ⟨false, false, false⟩ (zM Try.prog O) (reg Try.f53 1) (reg Try.f53 1).toList ([U,x1,X,x3,a,Y,V,W,Z,x9,c,d,f,g,i,k,l,m,n,o,p,q,r,s,t,u,w,x,y,z,A,B,C,D,E,F,G,H,I,J,K,L,M,N,P,Q]) S =
  (zB ((zM Try.prog O) 51 [(dem (dem U)), (Value.int IntKind.i64 4)] S) (fun b R => zB (zA b 0 R) (fun v3 S2 => zB (zA (zF 0 b) 1 S2) (fun v4 S3 => zB (zA (zF 1 (zF 0 b)) 2 S3) (fun v5 S4 => some ([U,x1,X,x3,v3,v4,v5,W,Z,zF 2 (zF 1 (zF 0 b)),dem U,dem b,dem v3,dem v4,dem v5,k,l,m,n,o,p,q,r,s,t,u,w,x,y,z,A,B,C,D,E,F,G,H,I,J,K,L,M,N,P,Q], S4)) ()) ()) ()) ()) := by
 kernel_rfl
theorem zO.r2  : jc Try.prog ⟨false, false, false⟩ (zM Try.prog O) (reg Try.f53 2) (reg Try.f53 2).toList ([U,x1,X,x3,a,Y,V,W,Z,x9,c,d,f,g,i,k,l,m,n,o,p,q,r,s,t,u,w,x,y,z,A,B,C,D,E,F,G,H,I,J,K,L,M,N,P,Q]) S =
  (zB (jT Try.prog BinOp.neq 31 (dem V) (Value.int IntKind.i64 0) S) (fun b R => some ([U,x1,X,x3,a,Y,V,W,Z,x9,c,d,f,g,i,dem V,b,m,n,o,p,q,r,s,t,u,w,x,y,z,A,B,C,D,E,F,G,H,I,J,K,L,M,N,P,Q], R)) ()) := by
 kernel_rfl
theorem zO.r3  : jc Try.prog ⟨false, false, false⟩ (zM Try.prog O) (reg Try.f53 3) (reg Try.f53 3).toList ([U,x1,X,x3,a,Y,V,W,Z,x9,c,d,f,g,i,k,l,m,n,o,p,q,r,s,t,u,w,x,y,z,A,B,C,D,E,F,G,H,I,J,K,L,M,N,P,Q]) S =
  (zB (yA Try.prog 28 [] S) (fun v0 R => zB (jP Try.prog 28 X (dem v0) R) (fun b S2 => some ([U,x1,X,Value.int IntKind.i64 71,a,Y,V,W,Z,x9,c,d,f,g,i,k,l,v0,n,o,p,q,r,s,t,u,w,x,y,z,A,B,C,D,E,F,G,H,I,J,K,L,M,N,P,Q], S2)) ()) ()) := by
 kernel_rfl
theorem zO.r4  : jc Try.prog ⟨false, false, false⟩ (zM Try.prog O) (reg Try.f53 4) (reg Try.f53 4).toList ([U,x1,X,x3,a,Y,V,W,Z,x9,c,d,f,g,i,k,l,m,n,o,p,q,r,s,t,u,w,x,y,z,A,B,C,D,E,F,G,H,I,J,K,L,M,N,P,Q]) S =
  (zB ((zM Try.prog O) 65 [(dem (dem Y))] S) (fun b R => zB (zA b 0 R) (fun v3 S2 => zB (zA (zF 0 b) 1 S2) (fun v4 S3 => some ([U,x1,X,x3,a,Y,v4,v3,Z,x9,c,d,f,g,i,k,l,m,zF 1 (zF 0 b),dem Y,dem b,dem v3,dem v4,s,t,u,w,x,y,z,A,B,C,D,E,F,G,H,I,J,K,L,M,N,P,Q], S3)) ()) ()) ()) := by
 kernel_rfl
theorem zO.d5 : kF Try.prog (reg Try.f53 5) = true := by kernel_rfl
theorem zO.ff5 : fixed Try.prog (reg Try.f53 5) = false := by kernel_rfl
theorem zO.k5 : checked Try.prog (reg Try.f53 5) = [0, 1, 2, 3, 4, 5, 6, 7, 8, 9, 10, 11, 12, 13] := by kernel_rfl
theorem zO.g5 : again Try.prog (reg Try.f53 5) = [(2, 14), (5, 14), (8, 14), (11, 14)] := by kernel_rfl
theorem zO.r5  : zu Try.prog O false (.region 5 (reg Try.f53 5) true) ([U,x1,X,x3,a,Y,V,W,Z,x9,c,d,f,g,i,k,l,m,n,o,p,q,r,s,t,u,w,x,y,z,A,B,C,D,E,F,G,H,I,J,K,L,M,N,P,Q]) S =
  WQ (okK a ( zB (zW Try.prog 57 (dem a) (Value.int IntKind.i64 0) S) (fun b R => okK b ( zB (zS Try.prog false 3 b R) (fun v2 S2 => okK v2 ( okK a ( zB (zW Try.prog 57 (dem a) (Value.int IntKind.i64 1) S2) (fun v4 S3 => okK v4 ( zB (zS Try.prog false 3 v4 S3) (fun v5 S4 => okK v5 ( okK a ( zB (zW Try.prog 57 (dem a) (Value.int IntKind.i64 2) S4) (fun v7 S5 => okK v7 ( zB (zS Try.prog false 3 v7 S5) (fun v8 S6 => okK v8 ( okK a ( zB (zW Try.prog 57 (dem a) (Value.int IntKind.i64 3) S6) (fun a0 S7 => okK a0 ( zB (zS Try.prog false 3 a0 S7) (fun a2 S8 => okK a2 ( okK W ( zB (yA Try.prog 28 [(0, (dem v2)), (1, (dem v5)), (2, (dem v8)), (3, (dem a2)), (4, (dem (dem W)))] S8) (fun a3 S9 => okK a3 ( zB (wF Try.prog 28 S9) (fun a4 a1 => zB (jP Try.prog 28 a4 (dem a3) a1) (fun a6 a5 => ckK (qx b R a1 && (qx v4 S3 a1 && (qx v7 S5 a1 && (qx a0 S7 a1 && (true))))) (some ([U,x1,X,x3,a,Y,V,W,a4,x9,c,d,f,g,i,k,l,m,n,o,p,q,r,dem a,b,v2,dem a,v4,v5,dem a,v7,v8,dem a,a0,a2,dem W,a3,H,I,J,K,L,M,N,P,Q], a5)) ()) ()) ()) ()) ()) ()) ()) ()) ()) ()) ()) ()) ()) ()) ()) ()) ()) ()) ()) ()) ()) ()) ()) ()) ()) ()) := by
 rw [yY zO.d5 zO.ff5 zO.k5 zO.g5]
 refine congrArg WQ ?_
 refine uPC Try.f53 5 0 (v := a) (pe := undef) ?_
 refine uDC Try.f53 5 1 (pe := undef) (fun b R => ?_)
 refine uDC Try.f53 5 2 (pe := b) (fun v2 S2 => ?_)
 refine uPC Try.f53 5 3 (v := a) (pe := undef) ?_
 refine uDC Try.f53 5 4 (pe := undef) (fun v4 S3 => ?_)
 refine uDC Try.f53 5 5 (pe := v4) (fun v5 S4 => ?_)
 refine uPC Try.f53 5 6 (v := a) (pe := undef) ?_
 refine uDC Try.f53 5 7 (pe := undef) (fun v7 S5 => ?_)
 refine uDC Try.f53 5 8 (pe := v7) (fun v8 S6 => ?_)
 refine uPC Try.f53 5 9 (v := a) (pe := undef) ?_
 refine uDC Try.f53 5 10 (pe := undef) (fun a0 S7 => ?_)
 refine uDC Try.f53 5 11 (pe := a0) (fun a2 S8 => ?_)
 refine uPC Try.f53 5 12 (v := W) (pe := undef) ?_
 refine uDC Try.f53 5 13 (pe := undef) (fun a3 S9 => ?_)
 refine uD Try.f53 5 14 (pe := undef) (fun a4 a1 => ?_)
 refine uD Try.f53 5 15 (pe := undef) (fun a6 a5 => ?_)
 kernel_rfl
theorem zO.r6  : jc Try.prog ⟨false, false, false⟩ (zM Try.prog O) (reg Try.f53 6) (reg Try.f53 6).toList ([U,x1,X,x3,a,Y,V,W,Z,x9,c,d,f,g,i,k,l,m,n,o,p,q,r,s,t,u,w,x,y,z,A,B,C,D,E,F,G,H,I,J,K,L,M,N,P,Q]) S =
  (zB (jT Try.prog BinOp.neq 31 (dem V) (Value.int IntKind.i64 0) S) (fun b R => gdK (dem b) false (zS Try.prog false 28 Z) R (fun v3 S2 => gdK (dem b) false ((zM Try.prog O) 39 [(dem v3)]) S2 (fun v4 S3 => gdK (dem b) false (aUn Try.prog UnOp.not v4) S3 (fun v5 S4 => zB (wR (dem b) (Value.bool true) v5 S4) (fun v6 S5 => some ([U,x1,X,x3,a,Y,V,W,Z,x9,c,d,f,g,i,k,l,m,n,o,p,q,r,s,t,u,w,x,y,z,A,B,C,D,E,F,G,dem V,b,dem b,v3,v4,v5,v6,P,Q], S5)) ()) ()) ()) ()) ()) := by
 refine sP Try.f53 6 0 (v := V) ?_
 refine sD Try.f53 6 1 (fun b R => ?_)
 refine sP Try.f53 6 2 (v := b) ?_
 refine sG Try.f53 6 3 (j := 2) (fun v3 S2 => ?_)
 refine sG Try.f53 6 4 (j := 2) (fun v4 S3 => ?_)
 refine sG Try.f53 6 5 (j := 2) (fun v5 S4 => ?_)
 refine sD Try.f53 6 6 (fun v6 S5 => ?_)
 kernel_rfl
theorem zO.r7  : jc Try.prog ⟨false, false, false⟩ (zM Try.prog O) (reg Try.f53 7) (reg Try.f53 7).toList ([U,x1,X,x3,a,Y,V,W,Z,x9,c,d,f,g,i,k,l,m,n,o,p,q,r,s,t,u,w,x,y,z,A,B,C,D,E,F,G,H,I,J,K,L,M,N,P,Q]) S =
  (zB (yA Try.prog 28 [] S) (fun v0 R => zB (jP Try.prog 28 X (dem v0) R) (fun b S2 => some ([U,x1,X,Value.int IntKind.i64 71,a,Y,V,W,Z,x9,c,d,f,g,i,k,l,m,n,o,p,q,r,s,t,u,w,x,y,z,A,B,C,D,E,F,G,H,I,J,K,L,M,N,v0,Q], S2)) ()) ()) := by
 kernel_rfl
theorem zO.r8  : jc Try.prog ⟨false, false, false⟩ (zM Try.prog O) (reg Try.f53 8) (reg Try.f53 8).toList ([U,x1,X,x3,a,Y,V,W,Z,x9,c,d,f,g,i,k,l,m,n,o,p,q,r,s,t,u,w,x,y,z,A,B,C,D,E,F,G,H,I,J,K,L,M,N,P,Q]) S =
  (zB (zS Try.prog false 28 Z S) (fun v0 R => zB (jP Try.prog 28 X (dem v0) R) (fun b S2 => some ([U,x1,X,Value.int IntKind.i64 0,a,Y,V,W,Z,x9,c,d,f,g,i,k,l,m,n,o,p,q,r,s,t,u,w,x,y,z,A,B,C,D,E,F,G,H,I,J,K,L,M,N,P,v0], S2)) ()) ()) := by
 kernel_rfl
theorem zO.rs : type_of% (And.intro @zO.r0 (And.intro @zO.r1 (And.intro @zO.r2 (And.intro @zO.r3 (And.intro @zO.r4 (And.intro @zO.r5 (And.intro @zO.r6 (And.intro @zO.r7 (@zO.r8))))))))) := And.intro @zO.r0 (And.intro @zO.r1 (And.intro @zO.r2 (And.intro @zO.r3 (And.intro @zO.r4 (And.intro @zO.r5 (And.intro @zO.r6 (And.intro @zO.r7 (@zO.r8))))))))
theorem zO.runs {U : Value} {S R : zh} {e : AEx} {T : List Value} (h : zu Try.prog O false zO.code ([U,undef,undef,undef,undef,undef,undef,undef,undef,undef,undef,undef,undef,undef,undef,undef,undef,undef,undef,undef,undef,undef,undef,undef,undef,undef,undef,undef,undef,undef,undef,undef,undef,undef,undef,undef,undef,undef,undef,undef,undef,undef,undef,undef,undef,undef]) zh.empty = some (e, T, R)) (he : e = .normal ∨ e = .ret) {w0 : Value} (c0 : zS Try.prog false 28 (T.getD 2 undef) R = some (w0, R)) (h0 : jC (w0) = true) (h1 : jC (T.getD 3 undef) = true) (hca : [U].all (jh 16) = true) (hcv : jh 16 (Value.tuple #[w0, T.getD 3 undef]) = true) : zM Try.prog O 53 [U] S = some (Value.tuple #[w0, T.getD 3 undef], S) :=
 wV rfl rfl Try.func53 (by decide) zO.body (by exact h) he ((yT ((show zD Try.prog T R Try.f53.results.toList = zD Try.prog T R [(ResultVar.cell 2 28), (ResultVar.tmp 3)] from by kernel_rfl).trans (by simp only [zD, c0])) (by kernel_rfl) (by simp only [List.all_cons, List.all_nil, h0, h1, Bool.and_true])).trans rfl) hca hcv
end Go.Proofs.Ytbgcphbbchndkaa
namespace Go.Proofs.Ytbgcphbbchndkaa
open Go.Abs
abbrev jm.id : FuncId := 41
noncomputable def jm.code : Code := (Code.seq (Code.region 0 (reg Try.f41 0) false) (Code.seq (Code.region 1 (reg Try.f41 1) false) Code.ret))
theorem jm.body : Try.f41.body = some jm.code := by kernel_rfl
variable (g i k l x4 x5 x6 x7 x8 x9 o p q r s t u w x y z A B C D E F G H I J K L M N P Q R : Value) (S : zh)
theorem jm.r0  : jc Try.prog ⟨false, false, false⟩ (zM Try.prog O) (reg Try.f41 0) (reg Try.f41 0).toList ([g,i,k,l,x4,x5,x6,x7,x8,x9,o,p,q,r,s,t,u,w,x,y,z,A,B,C,D,E,F,G,H,I,J,K,L,M,N,P,Q,R]) S =
  (zB (Wi (dem g) S) (fun U m => zB (Wi (dem i) m) (fun V S2 => some ([g,i,U,V,Value.bool false,x5,x6,x7,x8,x9,o,p,q,r,s,t,u,w,x,y,z,A,B,C,D,E,F,G,H,I,J,K,L,M,N,P,Q,R], S2)) ()) ()) := by
 kernel_rfl
theorem jm.r1  : jc Try.prog ⟨false, false, false⟩ (zM Try.prog O) (reg Try.f41 1) (reg Try.f41 1).toList ([g,i,k,l,x4,x5,x6,x7,x8,x9,o,p,q,r,s,t,u,w,x,y,z,A,B,C,D,E,F,G,H,I,J,K,L,M,N,P,Q,R]) S =
  (zB (zq Try.prog 28 k 0 S) (fun U m => zB (zS Try.prog false 3 U m) (fun V S2 => zB (zq Try.prog 28 l 0 S2) (fun v2 S3 => zB (zS Try.prog false 3 v2 S3) (fun v3 S4 => zB (jT Try.prog BinOp.eql 3 V v3 S4) (fun f S5 => gdK (dem f) true (zq Try.prog 28 k 1) S5 (fun v6 S6 => gdK (dem f) true (zS Try.prog false 3 v6) S6 (fun v7 S7 => gdK (dem f) true (zq Try.prog 28 l 1) S7 (fun v8 S8 => gdK (dem f) true (zS Try.prog false 3 v8) S8 (fun v9 S9 => gdK (dem f) true (jT Try.prog BinOp.eql 3 v7 v9) S9 (fun W b2 => zB (wR (dem f) W (Value.bool false) b2) (fun b b3 => gdK (dem b) true (zq Try.prog 28 k 2) b3 (fun X b4 => gdK (dem b) true (zS Try.prog false 3 X) b4 (fun Y b5 => gdK (dem b) true (zq Try.prog 28 l 2) b5 (fun Z b6 => gdK (dem b) true (zS Try.prog false 3 Z) b6 (fun a0 b7 => gdK (dem b) true (jT Try.prog BinOp.eql 3 Y a0) b7 (fun a1 b8 => zB (wR (dem b) a1 (Value.bool false) b8) (fun c b9 => gdK (dem c) true (zq Try.prog 28 k 3) b9 (fun a2 c0 => gdK (dem c) true (zS Try.prog false 3 a2) c0 (fun a3 c1 => gdK (dem c) true (zq Try.prog 28 l 3) c1 (fun a4 c2 => gdK (dem c) true (zS Try.prog false 3 a4) c2 (fun a5 c3 => gdK (dem c) true (jT Try.prog BinOp.eql 3 a3 a5) c3 (fun a6 c4 => zB (wR (dem c) a6 (Value.bool false) c4) (fun d c5 => gdK (dem d) true (zq Try.prog 28 k 4) c5 (fun a7 c6 => gdK (dem d) true (zS Try.prog false 26 a7) c6 (fun a8 c7 => gdK (dem d) true (zq Try.prog 28 l 4) c7 (fun a9 c8 => gdK (dem d) true (zS Try.prog false 26 a9) c8 (fun b0 c9 => gdK (dem d) true ((zM Try.prog O) 60 [(dem a8), (dem b0)]) c9 (fun b1 d0 => zB (wR (dem d) b1 (Value.bool false) d0) (fun n d1 => some ([g,i,k,l,n,U,V,v2,v3,f,dem f,v6,v7,v8,v9,W,b,dem b,X,Y,Z,a0,a1,c,dem c,a2,a3,a4,a5,a6,d,dem d,a7,a8,a9,b0,b1,dem n], d1)) ()) ()) ()) ()) ()) ()) ()) ()) ()) ()) ()) ()) ()) ()) ()) ()) ()) ()) ()) ()) ()) ()) ()) ()) ()) ()) ()) ()) ()) := by
 refine sD Try.f41 1 0 (fun U m => ?_)
 refine sD Try.f41 1 1 (fun V S2 => ?_)
 refine sD Try.f41 1 2 (fun v2 S3 => ?_)
 refine sD Try.f41 1 3 (fun v3 S4 => ?_)
 refine sD Try.f41 1 4 (fun f S5 => ?_)
 refine sP Try.f41 1 5 (v := f) ?_
 refine sG Try.f41 1 6 (j := 5) (fun v6 S6 => ?_)
 refine sG Try.f41 1 7 (j := 5) (fun v7 S7 => ?_)
 refine sG Try.f41 1 8 (j := 5) (fun v8 S8 => ?_)
 refine sG Try.f41 1 9 (j := 5) (fun v9 S9 => ?_)
 refine sG Try.f41 1 10 (j := 5) (fun W b2 => ?_)
 refine sD Try.f41 1 11 (fun b b3 => ?_)
 refine sP Try.f41 1 12 (v := b) ?_
 refine sG Try.f41 1 13 (j := 12) (fun X b4 => ?_)
 refine sG Try.f41 1 14 (j := 12) (fun Y b5 => ?_)
 refine sG Try.f41 1 15 (j := 12) (fun Z b6 => ?_)
 refine sG Try.f41 1 16 (j := 12) (fun a0 b7 => ?_)
 refine sG Try.f41 1 17 (j := 12) (fun a1 b8 => ?_)
 refine sD Try.f41 1 18 (fun c b9 => ?_)
 refine sP Try.f41 1 19 (v := c) ?_
 refine sG Try.f41 1 20 (j := 19) (fun a2 c0 => ?_)
 refine sG Try.f41 1 21 (j := 19) (fun a3 c1 => ?_)
 refine sG Try.f41 1 22 (j := 19) (fun a4 c2 => ?_)
 refine sG Try.f41 1 23 (j := 19) (fun a5 c3 => ?_)
 refine sG Try.f41 1 24 (j := 19) (fun a6 c4 => ?_)
 refine sD Try.f41 1 25 (fun d c5 => ?_)
 refine sP Try.f41 1 26 (v := d) ?_
 refine sG Try.f41 1 27 (j := 26) (fun a7 c6 => ?_)
 refine sG Try.f41 1 28 (j := 26) (fun a8 c7 => ?_)
 refine sG Try.f41 1 29 (j := 26) (fun a9 c8 => ?_)
 refine sG Try.f41 1 30 (j := 26) (fun b0 c9 => ?_)
 refine sG Try.f41 1 31 (j := 26) (fun b1 d0 => ?_)
 refine sD Try.f41 1 32 (fun n d1 => ?_)
 refine sP Try.f41 1 33 (v := n) ?_
 kernel_rfl
theorem jm.rs : type_of% (And.intro @jm.r0 (@jm.r1)) := And.intro @jm.r0 (@jm.r1)
theorem jm.runs {g i : Value} {S m : zh} {e : AEx} {T : List Value} (h : zu Try.prog O false jm.code ([g,i,undef,undef,undef,undef,undef,undef,undef,undef,undef,undef,undef,undef,undef,undef,undef,undef,undef,undef,undef,undef,undef,undef,undef,undef,undef,undef,undef,undef,undef,undef,undef,undef,undef,undef,undef,undef]) zh.empty = some (e, T, m)) (he : e = .normal ∨ e = .ret) (hca : [g, i].all (jh 16) = true) (hcv : jh 16 (T.getD 4 undef) = true) : zM Try.prog O 41 [g, i] S = some (T.getD 4 undef, S) :=
 wV rfl rfl Try.func41 (by decide) jm.body (by exact h) he (yE (a := T.getD 4 undef) ((show zD Try.prog T m Try.f41.results.toList = zD Try.prog T m [(ResultVar.tmp 4)] from by kernel_rfl).trans (by simp only [zD])) (by kernel_rfl)) hca hcv
end Go.Proofs.Ytbgcphbbchndkaa
namespace Go.Proofs.Ytbgcphbbchndkaa
open Go.Abs
abbrev jd.id : FuncId := 34
noncomputable def jd.code : Code := (Code.seq (Code.region 0 (reg Try.f34 0) false) (Code.seq (Code.seq (Code.region 1 (reg Try.f34 1) false) (Code.cond (Operand.tmp 10) (Code.seq (Code.region 2 (reg Try.f34 2) false) Code.ret) Code.skip)) (Code.seq (Code.region 3 (reg Try.f34 3) false) (Code.seq (Code.region 4 (reg Try.f34 4) false) (Code.seq (Code.region 5 (reg Try.f34 5) false) Code.ret)))))
theorem jd.body : Try.f34.body = some jd.code := by kernel_rfl
variable (a b K L B F C G H I c d f g i j k l m n o p q r s t u v w x y z A : Value) (S : zh)
theorem jd.r0  : jc Try.prog ⟨false, false, false⟩ (zM Try.prog O) (reg Try.f34 0) (reg Try.f34 0).toList ([a,b,K,L,B,F,C,G,H,I,c,d,f,g,i,j,k,l,m,n,o,p,q,r,s,t,u,v,w,x,y,z,A]) S =
  (zB (Wi (dem a) S) (fun J D => some ([a,J,Value.slice none 0 0,Value.int IntKind.i64 0,B,F,C,G,H,I,c,d,f,g,i,j,k,l,m,n,o,p,q,r,s,t,u,v,w,x,y,z,A], D)) ()) := by
 kernel_rfl
theorem jd.r1  : jc Try.prog ⟨false, false, false⟩ (zM Try.prog O) (reg Try.f34 1) (reg Try.f34 1).toList ([a,b,K,L,B,F,C,G,H,I,c,d,f,g,i,j,k,l,m,n,o,p,q,r,s,t,u,v,w,x,y,z,A]) S =
  (zB (zS Try.prog false 28 b S) (fun J D => zB ((zM Try.prog O) 39 [(dem J)] D) (fun M N => zB (aUn Try.prog UnOp.not M N) (fun E P => some ([a,b,K,L,B,F,C,G,J,M,E,d,f,g,i,j,k,l,m,n,o,p,q,r,s,t,u,v,w,x,y,z,A], P)) ()) ()) ()) := by
 kernel_rfl
theorem jd.r2  : jc Try.prog ⟨false, false, false⟩ (zM Try.prog O) (reg Try.f34 2) (reg Try.f34 2).toList ([a,b,K,L,B,F,C,G,H,I,c,d,f,g,i,j,k,l,m,n,o,p,q,r,s,t,u,v,w,x,y,z,A]) S =
  ( some ([a,b,Value.slice none 0 0,Value.int IntKind.i64 71,B,F,C,G,H,I,c,d,f,g,i,j,k,l,m,n,o,p,q,r,s,t,u,v,w,x,y,z,A], S)) := by
 kernel_rfl
theorem jd.r3  : jc Try.prog ⟨false, false, false⟩ (zM Try.prog O) (reg Try.f34 3) (reg Try.f34 3).toList ([a,b,K,L,B,F,C,G,H,I,c,d,f,g,i,j,k,l,m,n,o,p,q,r,s,t,u,v,w,x,y,z,A]) S =
  (zB (zq Try.prog 28 b 0 S) (fun J D => zB (zS Try.prog false 3 J D) (fun M N => zB (zq Try.prog 28 b 1 N) (fun E P => zB (zS Try.prog false 3 E P) (fun Z X => zB (zq Try.prog 28 b 2 X) (fun Q Y => zB (zS Try.prog false 3 Q Y) (fun R S6 => zB (zq Try.prog 28 b 3 S6) (fun v6 S7 => zB (zS Try.prog false 3 v6 S7) (fun v7 S8 => zB (jy Try.prog 57 4 [(0, M), (1, Z), (2, R), (3, v7)] S8) (fun v8 S9 => zB ((zM Try.prog O) 32 [(dem v8)] S9) (fun U a0 => zB (zA U 0 a0) (fun V a1 => zB (zA (zF 0 U) 1 a1) (fun W a2 => some ([a,b,K,L,V,W,C,G,H,I,c,zF 1 (zF 0 U),J,M,E,Z,Q,R,v6,v7,v8,dem U,dem V,dem W,s,t,u,v,w,x,y,z,A], a2)) ()) ()) ()) ()) ()) ()) ()) ()) ()) ()) ()) ()) := by
 kernel_rfl
theorem jd.r4  : jc Try.prog ⟨false, false, false⟩ (zM Try.prog O) (reg Try.f34 4) (reg Try.f34 4).toList ([a,b,K,L,B,F,C,G,H,I,c,d,f,g,i,j,k,l,m,n,o,p,q,r,s,t,u,v,w,x,y,z,A]) S =
  (zB (zq Try.prog 28 b 4 S) (fun J D => zB (zS Try.prog false 26 J D) (fun M N => zB ((zM Try.prog O) 56 [(dem M)] N) (fun E P => zB (zA E 0 P) (fun Q X => zB (zA (zF 0 E) 1 X) (fun R Y => some ([a,b,K,L,B,F,Q,R,H,I,c,d,f,g,i,j,k,l,m,n,o,p,q,r,zF 1 (zF 0 E),J,M,dem E,dem Q,dem R,y,z,A], Y)) ()) ()) ()) ()) ()) := by
 kernel_rfl
theorem jd.r5  : jc Try.prog ⟨false, false, false⟩ (zM Try.prog O) (reg Try.f34 5) (reg Try.f34 5).toList ([a,b,K,L,B,F,C,G,H,I,c,d,f,g,i,j,k,l,m,n,o,p,q,r,s,t,u,v,w,x,y,z,A]) S =
  (zB (wz Try.prog 23 23 B (dem C) S) (fun E D => some ([a,b,E,Value.int IntKind.i64 0,dem B,F,C,G,H,I,c,d,f,g,i,j,k,l,m,n,o,p,q,r,s,t,u,v,w,x,dem B,dem C,dem E], D)) ()) := by
 kernel_rfl
theorem jd.rs : type_of% (And.intro @jd.r0 (And.intro @jd.r1 (And.intro @jd.r2 (And.intro @jd.r3 (And.intro @jd.r4 (@jd.r5)))))) := And.intro @jd.r0 (And.intro @jd.r1 (And.intro @jd.r2 (And.intro @jd.r3 (And.intro @jd.r4 (@jd.r5)))))
theorem jd.runs {a : Value} {S D : zh} {e : AEx} {T : List Value} (h : zu Try.prog O false jd.code ([a,undef,undef,undef,undef,undef,undef,undef,undef,undef,undef,undef,undef,undef,undef,undef,undef,undef,undef,undef,undef,undef,undef,undef,undef,undef,undef,undef,undef,undef,undef,undef,undef]) zh.empty = some (e, T, D)) (he : e = .normal ∨ e = .ret)  (h0 : jC (T.getD 2 undef) = true) (h1 : jC (T.getD 3 undef) = true) (hca : [a].all (jh 16) = true) (hcv : jh 16 (Value.tuple #[T.getD 2 undef, T.getD 3 undef]) = true) : zM Try.prog O 34 [a] S = some (Value.tuple #[T.getD 2 undef, T.getD 3 undef], S) :=
 wV rfl rfl Try.func34 (by decide) jd.body (by exact h) he ((yT ((show zD Try.prog T D Try.f34.results.toList = zD Try.prog T D [(ResultVar.tmp 2), (ResultVar.tmp 3)] from by kernel_rfl).trans (by simp only [zD])) (by kernel_rfl) (by simp only [List.all_cons, List.all_nil, h0, h1, Bool.and_true])).trans rfl) hca hcv
end Go.Proofs.Ytbgcphbbchndkaa
namespace Go.Proofs.Ytbgcphbbchndkaa
open Go.Abs
abbrev zI.id : FuncId := 39
noncomputable def zI.code : Code := (Code.seq (Code.region 0 (reg Try.f39 0) false) (Code.seq (Code.seq (Code.region 1 (reg Try.f39 1) false) (Code.cond (Operand.tmp 20) (Code.seq (Code.region 2 (reg Try.f39 2) false) Code.ret) Code.skip)) (Code.seq (Code.seq (Code.region 3 (reg Try.f39 3) false) (Code.cond (Operand.tmp 37) (Code.seq (Code.region 4 (reg Try.f39 4) false) Code.ret) Code.skip)) (Code.seq (Code.region 5 (reg Try.f39 5) false) (Code.seq (Code.region 6 (reg Try.f39 6) false) Code.ret)))))
theorem zI.body : Try.f39.body = some zI.code := by kernel_rfl
variable (U b x2 X V Y Z x7 x8 x9 c d f g i k l m n o p q r s t u w x y z A B C D E F G H I J K L M N P Q : Value) (S : zh)
theorem zI.r0  : jc Try.prog ⟨false, false, false⟩ (zM Try.prog O) (reg Try.f39 0) (reg Try.f39 0).toList ([U,b,x2,X,V,Y,Z,x7,x8,x9,c,d,f,g,i,k,l,m,n,o,p,q,r,s,t,u,w,x,y,z,A,B,C,D,E,F,G,H,I,J,K,L,M,N,P,Q]) S =
  (zB (Wi (dem U) S) (fun v0 W => some ([U,v0,Value.bool false,X,V,Y,Z,x7,x8,x9,c,d,f,g,i,k,l,m,n,o,p,q,r,s,t,u,w,x,y,z,A,B,C,D,E,F,G,H,I,J,K,L,M,N,P,Q], W)) ()) := by
 kernel_rfl
theorem zI.r1  : jc Try.prog ⟨false, false, false⟩ (zM Try.prog O) (reg Try.f39 1) (reg Try.f39 1).toList ([U,b,x2,X,V,Y,Z,x7,x8,x9,c,d,f,g,i,k,l,m,n,o,p,q,r,s,t,u,w,x,y,z,A,B,C,D,E,F,G,H,I,J,K,L,M,N,P,Q]) S =
  (zB (zq Try.prog 28 b 0 S) (fun v0 W => zB (zS Try.prog false 3 v0 W) (fun v1 S2 => zB ((zM Try.prog O) 57 [(dem v1), (Value.int IntKind.i64 1), (Value.int IntKind.i64 4095)] S2) (fun R S3 => zB (aUn Try.prog UnOp.not R S3) (fun v3 S4 => gdK (dem v3) false (zq Try.prog 28 b 1) S4 (fun v5 S5 => gdK (dem v3) false (zS Try.prog false 3 v5) S5 (fun v6 S6 => gdK (dem v3) false ((zM Try.prog O) 57 [(dem v6), (Value.int IntKind.i64 0), (Value.int IntKind.i64 6)]) S6 (fun v7 S7 => gdK (dem v3) false (aUn Try.prog UnOp.not v7) S7 (fun v8 S8 => zB (wR (dem v3) (Value.bool true) v8 S8) (fun v9 S9 => gdK (dem v9) false (zq Try.prog 28 b 2) S9 (fun a0 a5 => gdK (dem v9) false (zS Try.prog false 3 a0) a5 (fun a1 a6 => gdK (dem v9) false ((zM Try.prog O) 57 [(dem a1), (Value.int IntKind.i64 0), (Value.int IntKind.i64 255)]) a6 (fun a2 a7 => gdK (dem v9) false (aUn Try.prog UnOp.not a2) a7 (fun a3 a8 => zB (wR (dem v9) (Value.bool true) a3 a8) (fun a4 a9 => some ([U,b,x2,X,V,v0,v1,R,v3,dem v3,v5,v6,v7,v8,v9,dem v9,a0,a1,a2,a3,a4,q,r,s,t,u,w,x,y,z,A,B,C,D,E,F,G,H,I,J,K,L,M,N,P,Q], a9)) ()) ()) ()) ()) ()) ()) ()) ()) ()) ()) ()) ()) ()) ()) := by
 refine sD Try.f39 1 0 (fun v0 W => ?_)
 refine sD Try.f39 1 1 (fun v1 S2 => ?_)
 refine sD Try.f39 1 2 (fun R S3 => ?_)
 refine sD Try.f39 1 3 (fun v3 S4 => ?_)
 refine sP Try.f39 1 4 (v := v3) ?_
 refine sG Try.f39 1 5 (j := 4) (fun v5 S5 => ?_)
 refine sG Try.f39 1 6 (j := 4) (fun v6 S6 => ?_)
 refine sG Try.f39 1 7 (j := 4) (fun v7 S7 => ?_)
 refine sG Try.f39 1 8 (j := 4) (fun v8 S8 => ?_)
 refine sD Try.f39 1 9 (fun v9 S9 => ?_)
 refine sP Try.f39 1 10 (v := v9) ?_
 refine sG Try.f39 1 11 (j := 10) (fun a0 a5 => ?_)
 refine sG Try.f39 1 12 (j := 10) (fun a1 a6 => ?_)
 refine sG Try.f39 1 13 (j := 10) (fun a2 a7 => ?_)
 refine sG Try.f39 1 14 (j := 10) (fun a3 a8 => ?_)
 refine sD Try.f39 1 15 (fun a4 a9 => ?_)
 kernel_rfl
theorem zI.r2  : jc Try.prog ⟨false, false, false⟩ (zM Try.prog O) (reg Try.f39 2) (reg Try.f39 2).toList ([U,b,x2,X,V,Y,Z,x7,x8,x9,c,d,f,g,i,k,l,m,n,o,p,q,r,s,t,u,w,x,y,z,A,B,C,D,E,F,G,H,I,J,K,L,M,N,P,Q]) S =
  ( some ([U,b,Value.bool false,X,V,Y,Z,x7,x8,x9,c,d,f,g,i,k,l,m,n,o,p,q,r,s,t,u,w,x,y,z,A,B,C,D,E,F,G,H,I,J,K,L,M,N,P,Q], S)) := by
 kernel_rfl
theorem zI.r3  : jc Try.prog ⟨false, false, false⟩ (zM Try.prog O) (reg Try.f39 3) (reg Try.f39 3).toList ([U,b,x2,X,V,Y,Z,x7,x8,x9,c,d,f,g,i,k,l,m,n,o,p,q,r,s,t,u,w,x,y,z,A,B,C,D,E,F,G,H,I,J,K,L,M,N,P,Q]) S =
  (zB (zq Try.prog 28 b 3 S) (fun v0 W => zB (zS Try.prog false 3 v0 W) (fun v1 S2 => zB (jT Try.prog BinOp.neq 3 v1 (Value.int IntKind.i64 0) S2) (fun R S3 => gdK (dem R) true (zq Try.prog 28 b 3) S3 (fun v4 S4 => gdK (dem R) true (zS Try.prog false 3 v4) S4 (fun v5 S5 => gdK (dem R) true ((zM Try.prog O) 58 [(dem v5)]) S5 (fun v6 S6 => gdK (dem R) true (aUn Try.prog UnOp.not v6) S6 (fun v7 S7 => gdK (dem R) true (ret v7) S7 (fun v8 S8 => gdK (dem v8) false (zq Try.prog 28 b 3) S8 (fun v9 S9 => gdK (dem v8) false (zS Try.prog false 3 v9) S9 (fun b0 a5 => gdK (dem v8) false (jT Try.prog BinOp.quo 3 b0 (Value.int IntKind.i64 65536)) a5 (fun a0 a6 => gdK (dem v8) false (zq Try.prog 28 b 0) a6 (fun a1 a7 => gdK (dem v8) false (zS Try.prog false 3 a1) a7 (fun a2 a8 => gdK (dem v8) false (jT Try.prog BinOp.geq 3 a0 a2) a8 (fun a3 a9 => gdK (dem R) true (wR (dem v8) (Value.bool true) a3) a9 (fun a4 b1 => zB (wR (dem R) a4 (Value.bool false) b1) (fun b2 b3 => some ([U,b,x2,X,V,Y,Z,x7,x8,x9,c,d,f,g,i,k,l,m,n,o,p,v0,v1,R,dem R,v4,v5,v6,v7,dem v8,v9,b0,a0,a1,a2,a3,a4,b2,I,J,K,L,M,N,P,Q], b3)) ()) ()) ()) ()) ()) ()) ()) ()) ()) ()) ()) ()) ()) ()) ()) ()) := by
 refine sD Try.f39 3 0 (fun v0 W => ?_)
 refine sD Try.f39 3 1 (fun v1 S2 => ?_)
 refine sD Try.f39 3 2 (fun R S3 => ?_)
 refine sP Try.f39 3 3 (v := R) ?_
 refine sG Try.f39 3 4 (j := 3) (fun v4 S4 => ?_)
 refine sG Try.f39 3 5 (j := 3) (fun v5 S5 => ?_)
 refine sG Try.f39 3 6 (j := 3) (fun v6 S6 => ?_)
 refine sG Try.f39 3 7 (j := 3) (fun v7 S7 => ?_)
 refine sG Try.f39 3 8 (j := 3) (fun v8 S8 => ?_)
 refine sG Try.f39 3 9 (j := 8) (fun v9 S9 => ?_)
 refine sG Try.f39 3 10 (j := 8) (fun b0 a5 => ?_)
 refine sG Try.f39 3 11 (j := 8) (fun a0 a6 => ?_)
 refine sG Try.f39 3 12 (j := 8) (fun a1 a7 => ?_)
 refine sG Try.f39 3 13 (j := 8) (fun a2 a8 => ?_)
 refine sG Try.f39 3 14 (j := 8) (fun a3 a9 => ?_)
 refine sG Try.f39 3 15 (j := 3) (fun a4 b1 => ?_)
 refine sD Try.f39 3 16 (fun b2 b3 => ?_)
 kernel_rfl
theorem zI.r4  : jc Try.prog ⟨false, false, false⟩ (zM Try.prog O) (reg Try.f39 4) (reg Try.f39 4).toList ([U,b,x2,X,V,Y,Z,x7,x8,x9,c,d,f,g,i,k,l,m,n,o,p,q,r,s,t,u,w,x,y,z,A,B,C,D,E,F,G,H,I,J,K,L,M,N,P,Q]) S =
  ( some ([U,b,Value.bool false,X,V,Y,Z,x7,x8,x9,c,d,f,g,i,k,l,m,n,o,p,q,r,s,t,u,w,x,y,z,A,B,C,D,E,F,G,H,I,J,K,L,M,N,P,Q], S)) := by
 kernel_rfl
theorem zI.r5  : jc Try.prog ⟨false, false, false⟩ (zM Try.prog O) (reg Try.f39 5) (reg Try.f39 5).toList ([U,b,x2,X,V,Y,Z,x7,x8,x9,c,d,f,g,i,k,l,m,n,o,p,q,r,s,t,u,w,x,y,z,A,B,C,D,E,F,G,H,I,J,K,L,M,N,P,Q]) S =
  (zB (zq Try.prog 28 b 4 S) (fun v0 W => zB (zS Try.prog false 26 v0 W) (fun v1 S2 => zB ((zM Try.prog O) 56 [(dem v1)] S2) (fun R S3 => zB (zA R 0 S3) (fun v4 S4 => zB (zA (zF 0 R) 1 S4) (fun v5 S5 => some ([U,b,x2,v4,v5,Y,Z,x7,x8,x9,c,d,f,g,i,k,l,m,n,o,p,q,r,s,t,u,w,x,y,z,A,B,C,D,E,F,G,H,zF 1 (zF 0 R),v0,v1,dem R,dem v4,dem v5,P,Q], S5)) ()) ()) ()) ()) ()) := by
 kernel_rfl
theorem zI.r6  : jc Try.prog ⟨false, false, false⟩ (zM Try.prog O) (reg Try.f39 6) (reg Try.f39 6).toList ([U,b,x2,X,V,Y,Z,x7,x8,x9,c,d,f,g,i,k,l,m,n,o,p,q,r,s,t,u,w,x,y,z,A,B,C,D,E,F,G,H,I,J,K,L,M,N,P,Q]) S =
  (zB (jT Try.prog BinOp.eql 31 (dem V) (Value.int IntKind.i64 0) S) (fun v1 W => some ([U,b,v1,X,V,Y,Z,x7,x8,x9,c,d,f,g,i,k,l,m,n,o,p,q,r,s,t,u,w,x,y,z,A,B,C,D,E,F,G,H,I,J,K,L,M,N,dem V,dem v1], W)) ()) := by
 kernel_rfl
theorem zI.rs : type_of% (And.intro @zI.r0 (And.intro @zI.r1 (And.intro @zI.r2 (And.intro @zI.r3 (And.intro @zI.r4 (And.intro @zI.r5 (@zI.r6))))))) := And.intro @zI.r0 (And.intro @zI.r1 (And.intro @zI.r2 (And.intro @zI.r3 (And.intro @zI.r4 (And.intro @zI.r5 (@zI.r6))))))
theorem zI.runs {U : Value} {S W : zh} {e : AEx} {T : List Value} (h : zu Try.prog O false zI.code ([U,undef,undef,undef,undef,undef,undef,undef,undef,undef,undef,undef,undef,undef,undef,undef,undef,undef,undef,undef,undef,undef,undef,undef,undef,undef,undef,undef,undef,undef,undef,undef,undef,undef,undef,undef,undef,undef,undef,undef,undef,undef,undef,undef,undef,undef]) zh.empty = some (e, T, W)) (he : e = .normal ∨ e = .ret) (hca : [U].all (jh 16) = true) (hcv : jh 16 (T.getD 2 undef) = true) : zM Try.prog O 39 [U] S = some (T.getD 2 undef, S) :=
 wV rfl rfl Try.func39 (by decide) zI.body (by exact h) he (yE (a := T.getD 2 undef) ((show zD Try.prog T W Try.f39.results.toList = zD Try.prog T W [(ResultVar.tmp 2)] from by kernel_rfl).trans (by simp only [zD])) (by kernel_rfl)) hca hcv
end Go.Proofs.Ytbgcphbbchndkaa
namespace Go.Proofs.Ytbgcphbbchndkaa
open Go.Abs
abbrev zV.id : FuncId := 57
noncomputable def zV.code : Code := (Code.seq (Code.region 0 (reg Try.f57 0) false) (Code.seq (Code.region 1 (reg Try.f57 1) false) Code.ret))
theorem zV.body : Try.f57.body = some zV.code := by kernel_rfl
variable (b c d o p q z s t u i k l m n : Value) (S : zh)
theorem zV.r0  : jc Try.prog ⟨false, false, false⟩ (zM Try.prog O) (reg Try.f57 0) (reg Try.f57 0).toList ([b,c,d,o,p,q,z,s,t,u,i,k,l,m,n]) S =
  ( some ([b,c,d,o,p,q,Value.bool false,s,t,u,i,k,l,m,n], S)) := by
 kernel_rfl
theorem zV.r1  : jc Try.prog ⟨false, false, false⟩ (zM Try.prog O) (reg Try.f57 1) (reg Try.f57 1).toList ([b,c,d,o,p,q,z,s,t,u,i,k,l,m,n]) S =
  (zB (jT Try.prog BinOp.geq 3 (dem b) (dem c) S) (fun f g => gdK (dem f) true (ret b) g (fun w A => gdK (dem f) true (ret d) A (fun x B => gdK (dem f) true (jT Try.prog BinOp.leq 3 (dem w) (dem x)) B (fun y C => zB (wR (dem f) y (Value.bool false) C) (fun r D => some ([b,c,d,o,p,q,r,dem b,dem c,f,dem f,dem w,dem x,y,dem r], D)) ()) ()) ()) ()) ()) := by
 refine sP Try.f57 1 0 (v := b) ?_
 refine sP Try.f57 1 1 (v := c) ?_
 refine sD Try.f57 1 2 (fun f g => ?_)
 refine sP Try.f57 1 3 (v := f) ?_
 refine sG Try.f57 1 4 (j := 3) (fun w A => ?_)
 refine sG Try.f57 1 5 (j := 3) (fun x B => ?_)
 refine sG Try.f57 1 6 (j := 3) (fun y C => ?_)
 refine sD Try.f57 1 7 (fun r D => ?_)
 refine sP Try.f57 1 8 (v := r) ?_
 kernel_rfl
theorem zV.rs : type_of% (And.intro @zV.r0 (@zV.r1)) := And.intro @zV.r0 (@zV.r1)
theorem zV.runs {b c d : Value} {S g : zh} {e : AEx} {T : List Value} (h : zu Try.prog O false zV.code ([b,c,d,undef,undef,undef,undef,undef,undef,undef,undef,undef,undef,undef,undef]) S = some (e, T, g)) (he : e = .normal ∨ e = .ret) : zM Try.prog O 57 [b, c, d] S = some (T.getD 6 undef, g) :=
 yI rfl rfl Try.func57 (by decide) zV.body (by exact h) he (yE (a := T.getD 6 undef) ((show zD Try.prog T g Try.f57.results.toList = zD Try.prog T g [(ResultVar.tmp 6)] from by kernel_rfl).trans (by simp only [zD])) (by kernel_rfl))
end Go.Proofs.Ytbgcphbbchndkaa
namespace Go.Proofs.Ytbgcphbbchndkaa
open Go.Abs
abbrev jl.id : FuncId := 58
noncomputable def jl.code : Code := (Code.seq (Code.region 0 (reg Try.f58 0) false) (Code.seq (Code.region 1 (reg Try.f58 1) false) Code.ret))
theorem jl.body : Try.f58.body = some jl.code := by kernel_rfl
variable (b g w k l m n o p q f : Value) (S : zh)
theorem jl.r0  : jc Try.prog ⟨false, false, false⟩ (zM Try.prog O) (reg Try.f58 0) (reg Try.f58 0).toList ([b,g,w,k,l,m,n,o,p,q,f]) S =
  ( some ([b,g,Value.bool false,k,l,m,n,o,p,q,f], S)) := by
 kernel_rfl
theorem jl.r1  : jc Try.prog ⟨false, false, false⟩ (zM Try.prog O) (reg Try.f58 1) (reg Try.f58 1).toList ([b,g,w,k,l,m,n,o,p,q,f]) S =
  (zB ((zM Try.prog O) 57 [(dem (dem b)), (Value.int IntKind.i64 65536), (Value.int IntKind.i64 268435455)] S) (fun c d => gdK (dem c) true (ret b) d (fun r x => gdK (dem c) true (jT Try.prog BinOp.rem 3 (dem r) (Value.int IntKind.i64 65536)) x (fun s y => gdK (dem c) true (jT Try.prog BinOp.quo 3 s (Value.int IntKind.i64 256)) y (fun t z => gdK (dem c) true (jT Try.prog BinOp.lss 3 t (Value.int IntKind.i64 7)) z (fun u A => zB (wR (dem c) u (Value.bool false) A) (fun i B => some ([b,g,i,dem b,c,dem c,dem r,s,t,u,dem i], B)) ()) ()) ()) ()) ()) ()) := by
 refine sP Try.f58 1 0 (v := b) ?_
 refine sD Try.f58 1 1 (fun c d => ?_)
 refine sP Try.f58 1 2 (v := c) ?_
 refine sG Try.f58 1 3 (j := 2) (fun r x => ?_)
 refine sG Try.f58 1 4 (j := 2) (fun s y => ?_)
 refine sG Try.f58 1 5 (j := 2) (fun t z => ?_)
 refine sG Try.f58 1 6 (j := 2) (fun u A => ?_)
 refine sD Try.f58 1 7 (fun i B => ?_)
 refine sP Try.f58 1 8 (v := i) ?_
 kernel_rfl
theorem jl.rs : type_of% (And.intro @jl.r0 (@jl.r1)) := And.intro @jl.r0 (@jl.r1)
theorem jl.runs {b : Value} {S d : zh} {e : AEx} {T : List Value} (h : zu Try.prog O false jl.code ([b,undef,undef,undef,undef,undef,undef,undef,undef,undef,undef]) S = some (e, T, d)) (he : e = .normal ∨ e = .ret) : zM Try.prog O 58 [b] S = some (T.getD 2 undef, d) :=
 yI rfl rfl Try.func58 (by decide) jl.body (by exact h) he (yE (a := T.getD 2 undef) ((show zD Try.prog T d Try.f58.results.toList = zD Try.prog T d [(ResultVar.tmp 2)] from by kernel_rfl).trans (by simp only [zD])) (by kernel_rfl))
end Go.Proofs.Ytbgcphbbchndkaa
namespace Go.Proofs.Ytbgcphbbchndkaa
open Go.Abs
abbrev jD.id : FuncId := 59
noncomputable def jD.code : Code := (Code.seq (Code.region 0 (reg Try.f59 0) false) (Code.seq (Code.seq (Code.region 1 (reg Try.f59 1) false) (Code.cond (Operand.tmp 5) (Code.seq (Code.region 2 (reg Try.f59 2) false) Code.ret) Code.skip)) (Code.seq (Code.region 3 (reg Try.f59 3) false) Code.ret)))
theorem jD.body : Try.f59.body = some jD.code := by kernel_rfl
variable (b c l f g i j k : Value) (S : zh)
theorem jD.r0  : jc Try.prog ⟨false, false, false⟩ (zM Try.prog O) (reg Try.f59 0) (reg Try.f59 0).toList ([b,c,l,f,g,i,j,k]) S =
  ( some ([b,c,Value.int IntKind.i64 0,f,g,i,j,k], S)) := by
 kernel_rfl
theorem jD.r1  : jc Try.prog ⟨false, false, false⟩ (zM Try.prog O) (reg Try.f59 1) (reg Try.f59 1).toList ([b,c,l,f,g,i,j,k]) S =
  (zB ((zM Try.prog O) 58 [(dem (dem b))] S) (fun m d => zB (aUn Try.prog UnOp.not m d) (fun n o => some ([b,c,l,dem b,m,n,j,k], o)) ()) ()) := by
 kernel_rfl
theorem jD.r2  : jc Try.prog ⟨false, false, false⟩ (zM Try.prog O) (reg Try.f59 2) (reg Try.f59 2).toList ([b,c,l,f,g,i,j,k]) S =
  ( some ([b,c,Value.int IntKind.i64 0,f,g,i,j,k], S)) := by
 kernel_rfl
theorem jD.r3  : jc Try.prog ⟨false, false, false⟩ (zM Try.prog O) (reg Try.f59 3) (reg Try.f59 3).toList ([b,c,l,f,g,i,j,k]) S =
  (zB (jT Try.prog BinOp.quo 3 (dem b) (Value.int IntKind.i64 65536) S) (fun m d => some ([b,c,m,f,g,i,dem b,dem m], d)) ()) := by
 kernel_rfl
theorem jD.rs : type_of% (And.intro @jD.r0 (And.intro @jD.r1 (And.intro @jD.r2 (@jD.r3)))) := And.intro @jD.r0 (And.intro @jD.r1 (And.intro @jD.r2 (@jD.r3)))
theorem jD.runs {b : Value} {S d : zh} {e : AEx} {T : List Value} (h : zu Try.prog O false jD.code ([b,undef,undef,undef,undef,undef,undef,undef]) S = some (e, T, d)) (he : e = .normal ∨ e = .ret) : zM Try.prog O 59 [b] S = some (T.getD 2 undef, d) :=
 yI rfl rfl Try.func59 (by decide) jD.body (by exact h) he (yE (a := T.getD 2 undef) ((show zD Try.prog T d Try.f59.results.toList = zD Try.prog T d [(ResultVar.tmp 2)] from by kernel_rfl).trans (by simp only [zD])) (by kernel_rfl))
end Go.Proofs.Ytbgcphbbchndkaa
namespace Go.Proofs.Ytbgcphbbchndkaa
open Go.Abs
def btw (n a b : Int) : Bool := decide (a ≤ n) && decide (n ≤ b)
theorem adv {n a b : Int} : btw n a b = true ↔ a ≤ n ∧ n ≤ b := by simp [btw]
def Zf (n : Int) : Bool := btw n 65536 268435455 && decide (n % 65536 / 256 < 7)
theorem ZA {n : Int} : Zf n = true ↔ 65536 ≤ n ∧ n ≤ 268435455 ∧ n % 65536 / 256 < 7 := by simp [Zf, btw, and_assoc]
def JW (n : Int) : Int := if Zf n = true then n / 65536 else 0
theorem ae1 {n m : Int} (h : 0 ≤ n) : n.tmod m = n % m := Int.tmod_eq_emod_of_nonneg h
theorem Ko {n m : Int} (h : 0 ≤ n) : n.tdiv m = n / m := Int.tdiv_eq_ediv_of_nonneg h
theorem XO : (65536 : Int) ≠ 0 := by decide
theorem aji : (256 : Int) ≠ 0 := by decide
theorem zV.v (n a b : Int) (S : zh) : zM Try.prog O zV.id [.int .i64 n, .int .i64 a, .int .i64 b] S = some (.bool (btw n a b), S) := by
 obtain ⟨T, hTe⟩ : ∃ T, T = (.int .i64 n :: .int .i64 a :: .int .i64 b :: undef :: undef :: undef :: undef :: undef :: undef :: undef :: undef :: undef :: undef :: undef :: undef :: []) := ⟨_, rfl⟩
 have hr : zu Try.prog O false zV.code T S = zu Try.prog O false zV.code T S := rfl
 unfold btw
 by_cases h1 : a ≤ n
 ·
  conv at hr =>
   rhs
   rw [hTe]
   simp only [zV.code, zV.rs, zSs, reduceIte, Nat.reduceEqDiff, Int.reduceEq, Int.reduceLT, Int.reduceLE, decide_eq_true h1]
  rw [decide_eq_true h1, Bool.true_and]
  rw [hTe] at hr
  exact zV.runs hr (.inr rfl)
 ·
  conv at hr =>
   rhs
   rw [hTe]
   simp only [zV.code, zV.rs, zSs, reduceIte, Nat.reduceEqDiff, Int.reduceEq, Int.reduceLT, Int.reduceLE, decide_eq_false h1]
  rw [decide_eq_false h1, Bool.false_and]
  rw [hTe] at hr
  exact zV.runs hr (.inr rfl)
theorem jl.v (n : Int) (S : zh) : zM Try.prog O jl.id [.int .i64 n] S = some (.bool (Zf n), S) := by
 obtain ⟨T, hTe⟩ : ∃ T, T = (.int .i64 n :: undef :: undef :: undef :: undef :: undef :: undef :: undef :: undef :: undef :: undef :: []) := ⟨_, rfl⟩
 have hr : zu Try.prog O false jl.code T S = zu Try.prog O false jl.code T S := rfl
 unfold Zf
 cases h1 : btw n 65536 268435455
 ·
  conv at hr =>
   rhs
   rw [hTe]
   simp only [jl.code, jl.rs, zSs, reduceIte, Nat.reduceEqDiff, Int.reduceEq, Int.reduceLT, Int.reduceLE, zV.v, h1]
  rw [hTe] at hr
  exact jl.runs hr (.inr rfl)
 ·
  have hb := adv.mp h1
  have q1 : IntKind.i64.wrap ((n.tmod 65536).tdiv 256) = n % 65536 / 256 := by
   rw [ae1 (by omega), Ko (by omega), wrap_i64 (by omega) (by omega)]
  conv at hr =>
   rhs
   rw [hTe]
   simp only [jl.code, jl.rs, zSs, reduceIte, Nat.reduceEqDiff, Int.reduceEq, Int.reduceLT, Int.reduceLE, zV.v, h1, Kt _ _ _ XO, ZI _ _ _ aji, q1]
  rw [hTe] at hr
  rw [Bool.true_and]
  exact jl.runs hr (.inr rfl)
theorem jD.v (n : Int) (S : zh) : zM Try.prog O jD.id [.int .i64 n] S = some (.int .i64 (JW n), S) := by
 obtain ⟨T, hTe⟩ : ∃ T, T = (.int .i64 n :: undef :: undef :: undef :: undef :: undef :: undef :: undef :: []) := ⟨_, rfl⟩
 have hr : zu Try.prog O false jD.code T S = zu Try.prog O false jD.code T S := rfl
 unfold JW
 cases h1 : Zf n
 ·
  conv at hr =>
   rhs
   rw [hTe]
   simp only [jD.code, jD.rs, zSs, reduceIte, Nat.reduceEqDiff, Int.reduceEq, Int.reduceLT, Int.reduceLE, jl.v, h1]
  rw [hTe] at hr
  exact jD.runs hr (.inr rfl)
 ·
  have hb := ZA.mp h1
  have q1 : IntKind.i64.wrap (n.tdiv 65536) = n / 65536 := by
   rw [Ko (by omega), wrap_i64 (by omega) (by omega)]
  conv at hr =>
   rhs
   rw [hTe]
   simp only [jD.code, jD.rs, zSs, reduceIte, Nat.reduceEqDiff, Int.reduceEq, Int.reduceLT, Int.reduceLE, jl.v, h1, ZI _ _ _ XO, q1]
  rw [hTe] at hr
  exact jD.runs hr (.inr rfl)
end Go.Proofs.Ytbgcphbbchndkaa
namespace Go.Proofs.Ytbgcphbbchndkaa
open Go.Abs
abbrev zo.id : FuncId := 65
noncomputable def zo.jr : Code := (Code.seq (Code.region 6 (reg Try.f65 6) false) (Code.seq (Code.cond (Operand.tmp 35) Code.skip (Code.exit 0)) (Code.seq (Code.block 1 (Code.seq (Code.region 7 (reg Try.f65 7) false) (Code.seq (Code.seq (Code.region 8 (reg Try.f65 8) false) (Code.cond (Operand.tmp 43) (Code.seq (Code.region 9 (reg Try.f65 9) false) Code.ret) Code.skip)) (Code.seq (Code.region 10 (reg Try.f65 10) false) (Code.region 11 (reg Try.f65 11) false))))) (Code.region 12 (reg Try.f65 12) false))))
noncomputable def zo.code : Code := (Code.seq (Code.region 0 (reg Try.f65 0) false) (Code.seq (Code.region 1 (reg Try.f65 1) false) (Code.seq (Code.seq (Code.region 2 (reg Try.f65 2) false) (Code.cond (Operand.tmp 30) (Code.seq (Code.region 3 (reg Try.f65 3) false) Code.ret) Code.skip)) (Code.seq (Code.region 4 (reg Try.f65 4) false) (Code.seq (Code.seq (Code.region 5 (reg Try.f65 5) false) (Code.block 0 (Code.loop zo.jr))) (Code.seq (Code.seq (Code.region 13 (reg Try.f65 13) false) (Code.cond (Operand.tmp 57) (Code.seq (Code.region 14 (reg Try.f65 14) false) Code.ret) Code.skip)) (Code.seq (Code.region 15 (reg Try.f65 15) false) Code.ret)))))))
theorem zo.body : Try.f65.body = some zo.code := by kernel_rfl
theorem zo.eta {T : List Value} (h : T.length = 59) : T = [T.getD 0 undef,T.getD 1 undef,T.getD 2 undef,T.getD 3 undef,T.getD 4 undef,T.getD 5 undef,T.getD 6 undef,T.getD 7 undef,T.getD 8 undef,T.getD 9 undef,T.getD 10 undef,T.getD 11 undef,T.getD 12 undef,T.getD 13 undef,T.getD 14 undef,T.getD 15 undef,T.getD 16 undef,T.getD 17 undef,T.getD 18 undef,T.getD 19 undef,T.getD 20 undef,T.getD 21 undef,T.getD 22 undef,T.getD 23 undef,T.getD 24 undef,T.getD 25 undef,T.getD 26 undef,T.getD 27 undef,T.getD 28 undef,T.getD 29 undef,T.getD 30 undef,T.getD 31 undef,T.getD 32 undef,T.getD 33 undef,T.getD 34 undef,T.getD 35 undef,T.getD 36 undef,T.getD 37 undef,T.getD 38 undef,T.getD 39 undef,T.getD 40 undef,T.getD 41 undef,T.getD 42 undef,T.getD 43 undef,T.getD 44 undef,T.getD 45 undef,T.getD 46 undef,T.getD 47 undef,T.getD 48 undef,T.getD 49 undef,T.getD 50 undef,T.getD 51 undef,T.getD 52 undef,T.getD 53 undef,T.getD 54 undef,T.getD 55 undef,T.getD 56 undef,T.getD 57 undef,T.getD 58 undef] := (qH T 59 h).trans (by kernel_rfl)
variable (x0 x1 x2 x3 x4 x5 x6 x7 x8 x9 a d f g i k l m n o p q r s t u w x y z A B C b c D E F G H I J K L M N P Q R U V W X Y Z a0 a1 a2 a3 : Value) (S : zh)
theorem zo.r0  : jc Try.prog ⟨false, false, false⟩ (zM Try.prog O) (reg Try.f65 0) (reg Try.f65 0).toList ([x0,x1,x2,x3,x4,x5,x6,x7,x8,x9,a,d,f,g,i,k,l,m,n,o,p,q,r,s,t,u,w,x,y,z,A,B,C,b,c,D,E,F,G,H,I,J,K,L,M,N,P,Q,R,U,V,W,X,Y,Z,a0,a1,a2,a3]) S =
  ( some ([x0,x1,Value.slice none 0 0,Value.int IntKind.i64 0,x4,x5,x6,x7,x8,x9,a,d,f,g,i,k,l,m,n,o,p,q,r,s,t,u,w,x,y,z,A,B,C,b,c,D,E,F,G,H,I,J,K,L,M,N,P,Q,R,U,V,W,X,Y,Z,a0,a1,a2,a3], S)) := by
 kernel_rfl
theorem zo.r1  : jc Try.prog ⟨false, false, false⟩ (zM Try.prog O) (reg Try.f65 1) (reg Try.f65 1).toList ([x0,x1,x2,x3,x4,x5,x6,x7,x8,x9,a,d,f,g,i,k,l,m,n,o,p,q,r,s,t,u,w,x,y,z,A,B,C,b,c,D,E,F,G,H,I,J,K,L,M,N,P,Q,R,U,V,W,X,Y,Z,a0,a1,a2,a3]) S =
  (zB ((zM Try.prog O) 51 [(dem (dem x0)), (Value.int IntKind.i64 1)] S) (fun v1 S1 => zB (zA v1 0 S1) (fun v3 S2 => zB (zA (zF 0 v1) 1 S2) (fun v4 S3 => zB (zA (zF 1 (zF 0 v1)) 2 S3) (fun v5 S4 => some ([x0,x1,x2,x3,v3,v4,v5,x7,x8,x9,a,zF 2 (zF 1 (zF 0 v1)),dem x0,dem v1,dem v3,dem v4,dem v5,m,n,o,p,q,r,s,t,u,w,x,y,z,A,B,C,b,c,D,E,F,G,H,I,J,K,L,M,N,P,Q,R,U,V,W,X,Y,Z,a0,a1,a2,a3], S4)) ()) ()) ()) ()) := by
 kernel_rfl
theorem zo.r2  : jc Try.prog ⟨false, false, false⟩ (zM Try.prog O) (reg Try.f65 2) (reg Try.f65 2).toList ([x0,x1,x2,x3,x4,x5,x6,x7,x8,x9,a,d,f,g,i,k,l,m,n,o,p,q,r,s,t,u,w,x,y,z,A,B,C,b,c,D,E,F,G,H,I,J,K,L,M,N,P,Q,R,U,V,W,X,Y,Z,a0,a1,a2,a3]) S =
  (zB (jT Try.prog BinOp.neq 31 (dem x6) (Value.int IntKind.i64 0) S) (fun v1 S1 => gdK (dem v1) false (ret x4) S1 (fun v3 S2 => gdK (dem v1) false (zW Try.prog 57 (dem v3) (Value.int IntKind.i64 0)) S2 (fun v4 S3 => gdK (dem v1) false (zS Try.prog false 3 v4) S3 (fun v5 S4 => gdK (dem v1) false (jT Try.prog BinOp.lss 3 v5 (Value.int IntKind.i64 0)) S4 (fun v6 S5 => zB (wR (dem v1) (Value.bool true) v6 S5) (fun v7 S6 => gdK (dem v7) false (ret x4) S6 (fun v9 S7 => gdK (dem v7) false (zW Try.prog 57 (dem v9) (Value.int IntKind.i64 0)) S7 (fun a4 S8 => gdK (dem v7) false (zS Try.prog false 3 a4) S8 (fun a5 S9 => gdK (dem v7) false (jT Try.prog BinOp.gtr 3 a5 (Value.int IntKind.i64 3)) S9 (fun a6 a7 => zB (wR (dem v7) (Value.bool true) a6 a7) (fun a8 a9 => some ([x0,x1,x2,x3,x4,x5,x6,x7,x8,x9,a,d,f,g,i,k,l,dem x6,v1,dem v1,dem v3,v4,v5,v6,v7,dem v7,dem v9,a4,a5,a6,a8,B,C,b,c,D,E,F,G,H,I,J,K,L,M,N,P,Q,R,U,V,W,X,Y,Z,a0,a1,a2,a3], a9)) ()) ()) ()) ()) ()) ()) ()) ()) ()) ()) ()) := by
 refine sP Try.f65 2 0 (v := x6) ?_
 refine sD Try.f65 2 1 (fun v1 S1 => ?_)
 refine sP Try.f65 2 2 (v := v1) ?_
 refine sG Try.f65 2 3 (j := 2) (fun v3 S2 => ?_)
 refine sG Try.f65 2 4 (j := 2) (fun v4 S3 => ?_)
 refine sG Try.f65 2 5 (j := 2) (fun v5 S4 => ?_)
 refine sG Try.f65 2 6 (j := 2) (fun v6 S5 => ?_)
 refine sD Try.f65 2 7 (fun v7 S6 => ?_)
 refine sP Try.f65 2 8 (v := v7) ?_
 refine sG Try.f65 2 9 (j := 8) (fun v9 S7 => ?_)
 refine sG Try.f65 2 10 (j := 8) (fun a4 S8 => ?_)
 refine sG Try.f65 2 11 (j := 8) (fun a5 S9 => ?_)
 refine sG Try.f65 2 12 (j := 8) (fun a6 a7 => ?_)
 refine sD Try.f65 2 13 (fun a8 a9 => ?_)
 kernel_rfl
theorem zo.r3  : jc Try.prog ⟨false, false, false⟩ (zM Try.prog O) (reg Try.f65 3) (reg Try.f65 3).toList ([x0,x1,x2,x3,x4,x5,x6,x7,x8,x9,a,d,f,g,i,k,l,m,n,o,p,q,r,s,t,u,w,x,y,z,A,B,C,b,c,D,E,F,G,H,I,J,K,L,M,N,P,Q,R,U,V,W,X,Y,Z,a0,a1,a2,a3]) S =
  ( some ([x0,x1,Value.slice none 0 0,Value.int IntKind.i64 61,x4,x5,x6,x7,x8,x9,a,d,f,g,i,k,l,m,n,o,p,q,r,s,t,u,w,x,y,z,A,B,C,b,c,D,E,F,G,H,I,J,K,L,M,N,P,Q,R,U,V,W,X,Y,Z,a0,a1,a2,a3], S)) := by
 kernel_rfl
theorem zo.r4  : jc Try.prog ⟨false, false, false⟩ (zM Try.prog O) (reg Try.f65 4) (reg Try.f65 4).toList ([x0,x1,x2,x3,x4,x5,x6,x7,x8,x9,a,d,f,g,i,k,l,m,n,o,p,q,r,s,t,u,w,x,y,z,A,B,C,b,c,D,E,F,G,H,I,J,K,L,M,N,P,Q,R,U,V,W,X,Y,Z,a0,a1,a2,a3]) S =
  ( some ([x0,x1,x2,x3,x4,x5,x6,Value.slice none 0 0,x8,x9,a,d,f,g,i,k,l,m,n,o,p,q,r,s,t,u,w,x,y,z,A,B,C,b,c,D,E,F,G,H,I,J,K,L,M,N,P,Q,R,U,V,W,X,Y,Z,a0,a1,a2,a3], S)) := by
 kernel_rfl
theorem zo.r5  : jc Try.prog ⟨false, false, false⟩ (zM Try.prog O) (reg Try.f65 5) (reg Try.f65 5).toList ([x0,x1,x2,x3,x4,x5,x6,x7,x8,x9,a,d,f,g,i,k,l,m,n,o,p,q,r,s,t,u,w,x,y,z,A,B,C,b,c,D,E,F,G,H,I,J,K,L,M,N,P,Q,R,U,V,W,X,Y,Z,a0,a1,a2,a3]) S =
  (zB (zW Try.prog 57 (dem x4) (Value.int IntKind.i64 0) S) (fun v1 S1 => zB (zS Try.prog false 3 v1 S1) (fun v2 S2 => some ([x0,x1,x2,x3,x4,x5,x6,x7,x8,x9,a,d,f,g,i,k,l,m,n,o,p,q,r,s,t,u,w,x,y,z,A,dem x4,v1,v2,Value.int IntKind.i64 0,D,E,F,G,H,I,J,K,L,M,N,P,Q,R,U,V,W,X,Y,Z,a0,a1,a2,a3], S2)) ()) ()) := by
 kernel_rfl
theorem zo.r6  : jc Try.prog ⟨false, false, false⟩ (zM Try.prog O) (reg Try.f65 6) (reg Try.f65 6).toList ([x0,x1,x2,x3,x4,x5,x6,x7,x8,x9,a,d,f,g,i,k,l,m,n,o,p,q,r,s,t,u,w,x,y,z,A,B,C,b,c,D,E,F,G,H,I,J,K,L,M,N,P,Q,R,U,V,W,X,Y,Z,a0,a1,a2,a3]) S =
  (zB (jT Try.prog BinOp.lss 3 c b S) (fun v0 S1 => some ([x0,x1,x2,x3,x4,x5,x6,x7,x8,x9,a,d,f,g,i,k,l,m,n,o,p,q,r,s,t,u,w,x,y,z,A,B,C,b,c,v0,E,F,G,H,I,J,K,L,M,N,P,Q,R,U,V,W,X,Y,Z,a0,a1,a2,a3], S1)) ()) := by
 kernel_rfl
theorem zo.r7  : jc Try.prog ⟨false, false, false⟩ (zM Try.prog O) (reg Try.f65 7) (reg Try.f65 7).toList ([x0,x1,x2,x3,x4,x5,x6,x7,x8,x9,a,d,f,g,i,k,l,m,n,o,p,q,r,s,t,u,w,x,y,z,A,B,C,b,c,D,E,F,G,H,I,J,K,L,M,N,P,Q,R,U,V,W,X,Y,Z,a0,a1,a2,a3]) S =
  (zB ((zM Try.prog O) 64 [(dem (dem x5))] S) (fun v1 S1 => zB (zA v1 0 S1) (fun v3 S2 => zB (zA (zF 0 v1) 1 S2) (fun v4 S3 => zB (zA (zF 1 (zF 0 v1)) 2 S3) (fun v5 S4 => zB (wF Try.prog 25 S4) (fun v6 S5 => zB (jP Try.prog 25 v6 (dem v3) S5) (fun v7 S6 => some ([x0,x1,x2,x3,x4,x5,x6,x7,v6,v4,v5,d,f,g,i,k,l,m,n,o,p,q,r,s,t,u,w,x,y,z,A,B,C,b,c,D,zF 2 (zF 1 (zF 0 v1)),dem x5,dem v1,v3,dem v4,dem v5,K,L,M,N,P,Q,R,U,V,W,X,Y,Z,a0,a1,a2,a3], S6)) ()) ()) ()) ()) ()) ()) := by
 kernel_rfl
theorem zo.r8  : jc Try.prog ⟨false, false, false⟩ (zM Try.prog O) (reg Try.f65 8) (reg Try.f65 8).toList ([x0,x1,x2,x3,x4,x5,x6,x7,x8,x9,a,d,f,g,i,k,l,m,n,o,p,q,r,s,t,u,w,x,y,z,A,B,C,b,c,D,E,F,G,H,I,J,K,L,M,N,P,Q,R,U,V,W,X,Y,Z,a0,a1,a2,a3]) S =
  (zB (aUn Try.prog UnOp.not (dem a) S) (fun v1 S1 => some ([x0,x1,x2,x3,x4,x5,x6,x7,x8,x9,a,d,f,g,i,k,l,m,n,o,p,q,r,s,t,u,w,x,y,z,A,B,C,b,c,D,E,F,G,H,I,J,dem a,v1,M,N,P,Q,R,U,V,W,X,Y,Z,a0,a1,a2,a3], S1)) ()) := by
 kernel_rfl
theorem zo.r9  : jc Try.prog ⟨false, false, false⟩ (zM Try.prog O) (reg Try.f65 9) (reg Try.f65 9).toList ([x0,x1,x2,x3,x4,x5,x6,x7,x8,x9,a,d,f,g,i,k,l,m,n,o,p,q,r,s,t,u,w,x,y,z,A,B,C,b,c,D,E,F,G,H,I,J,K,L,M,N,P,Q,R,U,V,W,X,Y,Z,a0,a1,a2,a3]) S =
  ( some ([x0,x1,Value.slice none 0 0,Value.int IntKind.i64 61,x4,x5,x6,x7,x8,x9,a,d,f,g,i,k,l,m,n,o,p,q,r,s,t,u,w,x,y,z,A,B,C,b,c,D,E,F,G,H,I,J,K,L,M,N,P,Q,R,U,V,W,X,Y,Z,a0,a1,a2,a3], S)) := by
 kernel_rfl
theorem zo.r10  : jc Try.prog ⟨false, false, false⟩ (zM Try.prog O) (reg Try.f65 10) (reg Try.f65 10).toList ([x0,x1,x2,x3,x4,x5,x6,x7,x8,x9,a,d,f,g,i,k,l,m,n,o,p,q,r,s,t,u,w,x,y,z,A,B,C,b,c,D,E,F,G,H,I,J,K,L,M,N,P,Q,R,U,V,W,X,Y,Z,a0,a1,a2,a3]) S =
  (zB (zS Try.prog false 25 x8 S) (fun v1 S1 => zB (jy Try.prog 26 1 [(0, v1)] S1) (fun v2 S2 => zB (wz Try.prog 26 26 x7 v2 S2) (fun v3 S3 => some ([x0,x1,x2,x3,x4,x5,x6,v3,x8,x9,a,d,f,g,i,k,l,m,n,o,p,q,r,s,t,u,w,x,y,z,A,B,C,b,c,D,E,F,G,H,I,J,K,L,dem x7,v1,v2,dem v3,R,U,V,W,X,Y,Z,a0,a1,a2,a3], S3)) ()) ()) ()) := by
 kernel_rfl
theorem zo.r11  : jc Try.prog ⟨false, false, false⟩ (zM Try.prog O) (reg Try.f65 11) (reg Try.f65 11).toList ([x0,x1,x2,x3,x4,x5,x6,x7,x8,x9,a,d,f,g,i,k,l,m,n,o,p,q,r,s,t,u,w,x,y,z,A,B,C,b,c,D,E,F,G,H,I,J,K,L,M,N,P,Q,R,U,V,W,X,Y,Z,a0,a1,a2,a3]) S =
  ( some ([x0,x1,x2,x3,x4,x9,x6,x7,x8,dem x9,a,d,f,g,i,k,l,m,n,o,p,q,r,s,t,u,w,x,y,z,A,B,C,b,c,D,E,F,G,H,I,J,K,L,M,N,P,Q,dem x9,U,V,W,X,Y,Z,a0,a1,a2,a3], S)) := by
 kernel_rfl
theorem zo.r12  : jc Try.prog ⟨false, false, false⟩ (zM Try.prog O) (reg Try.f65 12) (reg Try.f65 12).toList ([x0,x1,x2,x3,x4,x5,x6,x7,x8,x9,a,d,f,g,i,k,l,m,n,o,p,q,r,s,t,u,w,x,y,z,A,B,C,b,c,D,E,F,G,H,I,J,K,L,M,N,P,Q,R,U,V,W,X,Y,Z,a0,a1,a2,a3]) S =
  (zB (jT Try.prog BinOp.add 3 c (Value.int IntKind.i64 1) S) (fun v0 S1 => some ([x0,x1,x2,x3,x4,x5,x6,x7,x8,x9,a,d,f,g,i,k,l,m,n,o,p,q,r,s,t,u,w,x,y,z,A,B,C,b,dem v0,D,E,F,G,H,I,J,K,L,M,N,P,Q,R,v0,V,W,X,Y,Z,a0,a1,a2,a3], S1)) ()) := by
 kernel_rfl
theorem zo.r13  : jc Try.prog ⟨false, false, false⟩ (zM Try.prog O) (reg Try.f65 13) (reg Try.f65 13).toList ([x0,x1,x2,x3,x4,x5,x6,x7,x8,x9,a,d,f,g,i,k,l,m,n,o,p,q,r,s,t,u,w,x,y,z,A,B,C,b,c,D,E,F,G,H,I,J,K,L,M,N,P,Q,R,U,V,W,X,Y,Z,a0,a1,a2,a3]) S =
  (zB (ZT Try.prog 23 (dem x5) S) (fun v1 S1 => zB (jT Try.prog BinOp.gtr 3 v1 (Value.int IntKind.i64 0) S1) (fun v2 S2 => gdK (dem v2) false (ret x7) S2 (fun v4 S3 => gdK (dem v2) false ((zM Try.prog O) 66 [(dem (dem v4))]) S3 (fun v5 S4 => gdK (dem v2) false (aUn Try.prog UnOp.not v5) S4 (fun v6 S5 => zB (wR (dem v2) (Value.bool true) v6 S5) (fun v7 S6 => some ([x0,x1,x2,x3,x4,x5,x6,x7,x8,x9,a,d,f,g,i,k,l,m,n,o,p,q,r,s,t,u,w,x,y,z,A,B,C,b,c,D,E,F,G,H,I,J,K,L,M,N,P,Q,R,U,dem x5,v1,v2,dem v2,dem v4,v5,v6,v7,a3], S6)) ()) ()) ()) ()) ()) ()) := by
 refine sP Try.f65 13 0 (v := x5) ?_
 refine sD Try.f65 13 1 (fun v1 S1 => ?_)
 refine sD Try.f65 13 2 (fun v2 S2 => ?_)
 refine sP Try.f65 13 3 (v := v2) ?_
 refine sG Try.f65 13 4 (j := 3) (fun v4 S3 => ?_)
 refine sG Try.f65 13 5 (j := 3) (fun v5 S4 => ?_)
 refine sG Try.f65 13 6 (j := 3) (fun v6 S5 => ?_)
 refine sD Try.f65 13 7 (fun v7 S6 => ?_)
 kernel_rfl
theorem zo.r14  : jc Try.prog ⟨false, false, false⟩ (zM Try.prog O) (reg Try.f65 14) (reg Try.f65 14).toList ([x0,x1,x2,x3,x4,x5,x6,x7,x8,x9,a,d,f,g,i,k,l,m,n,o,p,q,r,s,t,u,w,x,y,z,A,B,C,b,c,D,E,F,G,H,I,J,K,L,M,N,P,Q,R,U,V,W,X,Y,Z,a0,a1,a2,a3]) S =
  ( some ([x0,x1,Value.slice none 0 0,Value.int IntKind.i64 61,x4,x5,x6,x7,x8,x9,a,d,f,g,i,k,l,m,n,o,p,q,r,s,t,u,w,x,y,z,A,B,C,b,c,D,E,F,G,H,I,J,K,L,M,N,P,Q,R,U,V,W,X,Y,Z,a0,a1,a2,a3], S)) := by
 kernel_rfl
theorem zo.r15  : jc Try.prog ⟨false, false, false⟩ (zM Try.prog O) (reg Try.f65 15) (reg Try.f65 15).toList ([x0,x1,x2,x3,x4,x5,x6,x7,x8,x9,a,d,f,g,i,k,l,m,n,o,p,q,r,s,t,u,w,x,y,z,A,B,C,b,c,D,E,F,G,H,I,J,K,L,M,N,P,Q,R,U,V,W,X,Y,Z,a0,a1,a2,a3]) S =
  ( some ([x0,x1,x7,Value.int IntKind.i64 0,x4,x5,x6,dem x7,x8,x9,a,d,f,g,i,k,l,m,n,o,p,q,r,s,t,u,w,x,y,z,A,B,C,b,c,D,E,F,G,H,I,J,K,L,M,N,P,Q,R,U,V,W,X,Y,Z,a0,a1,a2,dem x7], S)) := by
 kernel_rfl
theorem zo.rs : type_of% (And.intro @zo.r0 (And.intro @zo.r1 (And.intro @zo.r2 (And.intro @zo.r3 (And.intro @zo.r4 (And.intro @zo.r5 (And.intro @zo.r6 (And.intro @zo.r7 (And.intro @zo.r8 (And.intro @zo.r9 (And.intro @zo.r10 (And.intro @zo.r11 (And.intro @zo.r12 (And.intro @zo.r13 (And.intro @zo.r14 (@zo.r15)))))))))))))))) := And.intro @zo.r0 (And.intro @zo.r1 (And.intro @zo.r2 (And.intro @zo.r3 (And.intro @zo.r4 (And.intro @zo.r5 (And.intro @zo.r6 (And.intro @zo.r7 (And.intro @zo.r8 (And.intro @zo.r9 (And.intro @zo.r10 (And.intro @zo.r11 (And.intro @zo.r12 (And.intro @zo.r13 (And.intro @zo.r14 (@zo.r15)))))))))))))))
theorem zo.runs {x0 : Value} {S S1 : zh} {e : AEx} {T : List Value} (h : zu Try.prog O false zo.code ([x0,undef,undef,undef,undef,undef,undef,undef,undef,undef,undef,undef,undef,undef,undef,undef,undef,undef,undef,undef,undef,undef,undef,undef,undef,undef,undef,undef,undef,undef,undef,undef,undef,undef,undef,undef,undef,undef,undef,undef,undef,undef,undef,undef,undef,undef,undef,undef,undef,undef,undef,undef,undef,undef,undef,undef,undef,undef,undef]) zh.empty = some (e, T, S1)) (he : e = .normal ∨ e = .ret)  (h0 : jC (T.getD 2 undef) = true) (h1 : jC (T.getD 3 undef) = true) (hca : [x0].all (jh 16) = true) (hcv : jh 16 (Value.tuple #[T.getD 2 undef, T.getD 3 undef]) = true) : zM Try.prog O 65 [x0] S = some (Value.tuple #[T.getD 2 undef, T.getD 3 undef], S) :=
 wV rfl rfl Try.func65 (by decide) zo.body (by exact h) he ((yT ((show zD Try.prog T S1 Try.f65.results.toList = zD Try.prog T S1 [(ResultVar.tmp 2), (ResultVar.tmp 3)] from by kernel_rfl).trans (by simp only [zD])) (by kernel_rfl) (by simp only [List.all_cons, List.all_nil, h0, h1, Bool.and_true])).trans rfl) hca hcv
end Go.Proofs.Ytbgcphbbchndkaa
namespace Go.Proofs.Ytbgcphbbchndkaa
open Go.Abs
abbrev slices_Equal.id : FuncId := 60
noncomputable def slices_Equal.jr : Code := (Code.seq (Code.region 4 (reg Try.f60 4) false) (Code.seq (Code.cond (Operand.tmp 14) Code.skip (Code.exit 0)) (Code.seq (Code.block 1 (Code.seq (Code.region 5 (reg Try.f60 5) false) (Code.seq (Code.region 6 (reg Try.f60 6) true) (Code.cond (Operand.tmp 24) (Code.seq (Code.region 7 (reg Try.f60 7) false) Code.ret) Code.skip)))) (Code.region 8 (reg Try.f60 8) false))))
noncomputable def slices_Equal.code : Code := (Code.seq (Code.region 0 (reg Try.f60 0) false) (Code.seq (Code.seq (Code.region 1 (reg Try.f60 1) false) (Code.cond (Operand.tmp 10) (Code.seq (Code.region 2 (reg Try.f60 2) false) Code.ret) Code.skip)) (Code.seq (Code.seq (Code.region 3 (reg Try.f60 3) false) (Code.block 0 (Code.loop slices_Equal.jr))) (Code.seq (Code.region 9 (reg Try.f60 9) false) Code.ret))))
theorem slices_Equal.body : Try.f60.body = some slices_Equal.code := by kernel_rfl
theorem slices_Equal.eta {T : List Value} (h : T.length = 26) : T = [T.getD 0 undef,T.getD 1 undef,T.getD 2 undef,T.getD 3 undef,T.getD 4 undef,T.getD 5 undef,T.getD 6 undef,T.getD 7 undef,T.getD 8 undef,T.getD 9 undef,T.getD 10 undef,T.getD 11 undef,T.getD 12 undef,T.getD 13 undef,T.getD 14 undef,T.getD 15 undef,T.getD 16 undef,T.getD 17 undef,T.getD 18 undef,T.getD 19 undef,T.getD 20 undef,T.getD 21 undef,T.getD 22 undef,T.getD 23 undef,T.getD 24 undef,T.getD 25 undef] := (qH T 26 h).trans (by kernel_rfl)
variable (d u x y D w z A B C f g c b i j k l m n o p q r s t : Value) (S : zh)
theorem slices_Equal.r0  : jc Try.prog ⟨false, false, false⟩ (zM Try.prog O) (reg Try.f60 0) (reg Try.f60 0).toList ([d,u,x,y,D,w,z,A,B,C,f,g,c,b,i,j,k,l,m,n,o,p,q,r,s,t]) S =
  ( some ([d,u,x,y,Value.bool false,w,z,A,B,C,f,g,c,b,i,j,k,l,m,n,o,p,q,r,s,t], S)) := by
 kernel_rfl
theorem slices_Equal.r1  : jc Try.prog ⟨false, false, false⟩ (zM Try.prog O) (reg Try.f60 1) (reg Try.f60 1).toList ([d,u,x,y,D,w,z,A,B,C,f,g,c,b,i,j,k,l,m,n,o,p,q,r,s,t]) S =
  (zB (ZT Try.prog 26 (dem d) S) (fun G E => zB (ZT Try.prog 26 (dem u) E) (fun F H => zB (jT Try.prog BinOp.neq 3 G F H) (fun R I => some ([d,u,x,y,D,w,dem d,G,dem u,F,R,g,c,b,i,j,k,l,m,n,o,p,q,r,s,t], I)) ()) ()) ()) := by
 kernel_rfl
theorem slices_Equal.r2  : jc Try.prog ⟨false, false, false⟩ (zM Try.prog O) (reg Try.f60 2) (reg Try.f60 2).toList ([d,u,x,y,D,w,z,A,B,C,f,g,c,b,i,j,k,l,m,n,o,p,q,r,s,t]) S =
  ( some ([d,u,x,y,Value.bool false,w,z,A,B,C,f,g,c,b,i,j,k,l,m,n,o,p,q,r,s,t], S)) := by
 kernel_rfl
theorem slices_Equal.r3  : jc Try.prog ⟨false, false, false⟩ (zM Try.prog O) (reg Try.f60 3) (reg Try.f60 3).toList ([d,u,x,y,D,w,z,A,B,C,f,g,c,b,i,j,k,l,m,n,o,p,q,r,s,t]) S =
  (zB (ZT Try.prog 26 (dem d) S) (fun G E => some ([d,u,x,y,D,w,z,A,B,C,f,dem d,G,Value.int IntKind.i64 0,i,j,k,l,m,n,o,p,q,r,s,t], E)) ()) := by
 kernel_rfl
theorem slices_Equal.r4  : jc Try.prog ⟨false, false, false⟩ (zM Try.prog O) (reg Try.f60 4) (reg Try.f60 4).toList ([d,u,x,y,D,w,z,A,B,C,f,g,c,b,i,j,k,l,m,n,o,p,q,r,s,t]) S =
  (zB (jT Try.prog BinOp.lss 3 b c S) (fun J E => some ([d,u,x,y,D,w,z,A,B,C,f,g,c,b,J,j,k,l,m,n,o,p,q,r,s,t], E)) ()) := by
 kernel_rfl
theorem slices_Equal.r5  : jc Try.prog ⟨false, false, false⟩ (zM Try.prog O) (reg Try.f60 5) (reg Try.f60 5).toList ([d,u,x,y,D,w,z,A,B,C,f,g,c,b,i,j,k,l,m,n,o,p,q,r,s,t]) S =
  ( some ([d,u,x,y,D,b,z,A,B,C,f,g,c,dem b,i,dem b,k,l,m,n,o,p,q,r,s,t], S)) := by
 kernel_rfl
theorem slices_Equal.d6 : kF Try.prog (reg Try.f60 6) = true := by kernel_rfl
theorem slices_Equal.ff6 : fixed Try.prog (reg Try.f60 6) = false := by kernel_rfl
theorem slices_Equal.k6 : checked Try.prog (reg Try.f60 6) = [] := by kernel_rfl
theorem slices_Equal.g6 : again Try.prog (reg Try.f60 6) = [] := by kernel_rfl
theorem slices_Equal.r6  : zu Try.prog O false (.region 6 (reg Try.f60 6) true) ([d,u,x,y,D,w,z,A,B,C,f,g,c,b,i,j,k,l,m,n,o,p,q,r,s,t]) S =
  WQ (zB (zW Try.prog 26 (dem d) (dem w) S) (fun K E => zB (zS Try.prog false 25 K E) (fun F H => zB (zW Try.prog 26 (dem u) (dem w) H) (fun L I => zB (zS Try.prog false 25 L I) (fun M N => zB (jT Try.prog BinOp.neq 25 F M N) (fun P Q => some ([d,u,x,y,D,w,z,A,B,C,f,g,c,b,i,j,dem d,dem w,K,F,dem u,dem w,L,M,P,t], Q)) ()) ()) ()) ()) ()) := by
 rw [yY slices_Equal.d6 slices_Equal.ff6 slices_Equal.k6 slices_Equal.g6]
 refine congrArg WQ ?_
 refine tP Try.f60 6 0 (v := d) ?_
 refine tP Try.f60 6 1 (v := w) ?_
 refine tD Try.f60 6 2 (fun K E => ?_)
 refine tD Try.f60 6 3 (fun F H => ?_)
 refine tP Try.f60 6 4 (v := u) ?_
 refine tP Try.f60 6 5 (v := w) ?_
 refine tD Try.f60 6 6 (fun L I => ?_)
 refine tD Try.f60 6 7 (fun M N => ?_)
 refine tD Try.f60 6 8 (fun P Q => ?_)
 kernel_rfl
theorem slices_Equal.r7  : jc Try.prog ⟨false, false, false⟩ (zM Try.prog O) (reg Try.f60 7) (reg Try.f60 7).toList ([d,u,x,y,D,w,z,A,B,C,f,g,c,b,i,j,k,l,m,n,o,p,q,r,s,t]) S =
  ( some ([d,u,x,y,Value.bool false,w,z,A,B,C,f,g,c,b,i,j,k,l,m,n,o,p,q,r,s,t], S)) := by
 kernel_rfl
theorem slices_Equal.r8  : jc Try.prog ⟨false, false, false⟩ (zM Try.prog O) (reg Try.f60 8) (reg Try.f60 8).toList ([d,u,x,y,D,w,z,A,B,C,f,g,c,b,i,j,k,l,m,n,o,p,q,r,s,t]) S =
  (zB (jT Try.prog BinOp.add 3 b (Value.int IntKind.i64 1) S) (fun J E => some ([d,u,x,y,D,w,z,A,B,C,f,g,c,dem J,i,j,k,l,m,n,o,p,q,r,s,J], E)) ()) := by
 kernel_rfl
theorem slices_Equal.r9  : jc Try.prog ⟨false, false, false⟩ (zM Try.prog O) (reg Try.f60 9) (reg Try.f60 9).toList ([d,u,x,y,D,w,z,A,B,C,f,g,c,b,i,j,k,l,m,n,o,p,q,r,s,t]) S =
  ( some ([d,u,x,y,Value.bool true,w,z,A,B,C,f,g,c,b,i,j,k,l,m,n,o,p,q,r,s,t], S)) := by
 kernel_rfl
theorem slices_Equal.rs : type_of% (And.intro @slices_Equal.r0 (And.intro @slices_Equal.r1 (And.intro @slices_Equal.r2 (And.intro @slices_Equal.r3 (And.intro @slices_Equal.r4 (And.intro @slices_Equal.r5 (And.intro @slices_Equal.r6 (And.intro @slices_Equal.r7 (And.intro @slices_Equal.r8 (@slices_Equal.r9)))))))))) := And.intro @slices_Equal.r0 (And.intro @slices_Equal.r1 (And.intro @slices_Equal.r2 (And.intro @slices_Equal.r3 (And.intro @slices_Equal.r4 (And.intro @slices_Equal.r5 (And.intro @slices_Equal.r6 (And.intro @slices_Equal.r7 (And.intro @slices_Equal.r8 (@slices_Equal.r9)))))))))
theorem slices_Equal.runs {d u : Value} {S E : zh} {e : AEx} {T : List Value} (h : zu Try.prog O false slices_Equal.code ([d,u,undef,undef,undef,undef,undef,undef,undef,undef,undef,undef,undef,undef,undef,undef,undef,undef,undef,undef,undef,undef,undef,undef,undef,undef]) S = some (e, T, E)) (he : e = .normal ∨ e = .ret) : zM Try.prog O 60 [d, u] S = some (T.getD 4 undef, E) :=
 yI rfl rfl Try.func60 (by decide) slices_Equal.body (by exact h) he (yE (a := T.getD 4 undef) ((show zD Try.prog T E Try.f60.results.toList = zD Try.prog T E [(ResultVar.tmp 4)] from by kernel_rfl).trans (by simp only [zD])) (by kernel_rfl))
end Go.Proofs.Ytbgcphbbchndkaa
namespace Go.Proofs.Ytbgcphbbchndkaa
open Go.Abs
abbrev zN.id : FuncId := 66
noncomputable def zN.jr : Code := (Code.seq (Code.region 3 (reg Try.f66 3) false) (Code.seq (Code.cond (Operand.tmp 10) Code.skip (Code.exit 0)) (Code.seq (Code.block 1 (Code.seq (Code.region 4 (reg Try.f66 4) false) (Code.seq (Code.seq (Code.region 5 (reg Try.f66 5) false) (Code.cond (Operand.tmp 16) (Code.seq (Code.region 6 (reg Try.f66 6) false) Code.ret) Code.skip)) (Code.region 7 (reg Try.f66 7) false)))) (Code.region 8 (reg Try.f66 8) false))))
noncomputable def zN.code : Code := (Code.seq (Code.region 0 (reg Try.f66 0) false) (Code.seq (Code.region 1 (reg Try.f66 1) false) (Code.seq (Code.seq (Code.region 2 (reg Try.f66 2) false) (Code.block 0 (Code.loop zN.jr))) (Code.seq (Code.region 9 (reg Try.f66 9) false) Code.ret))))
theorem zN.body : Try.f66.body = some zN.code := by kernel_rfl
theorem zN.eta {T : List Value} (h : T.length = 24) : T = [T.getD 0 undef,T.getD 1 undef,T.getD 2 undef,T.getD 3 undef,T.getD 4 undef,T.getD 5 undef,T.getD 6 undef,T.getD 7 undef,T.getD 8 undef,T.getD 9 undef,T.getD 10 undef,T.getD 11 undef,T.getD 12 undef,T.getD 13 undef,T.getD 14 undef,T.getD 15 undef,T.getD 16 undef,T.getD 17 undef,T.getD 18 undef,T.getD 19 undef,T.getD 20 undef,T.getD 21 undef,T.getD 22 undef,T.getD 23 undef] := (qH T 24 h).trans (by kernel_rfl)
variable (r v B s w t z x y u b c d f g i j k l m n o p q : Value) (S : zh)
theorem zN.r0  : jc Try.prog ⟨false, false, false⟩ (zM Try.prog O) (reg Try.f66 0) (reg Try.f66 0).toList ([r,v,B,s,w,t,z,x,y,u,b,c,d,f,g,i,j,k,l,m,n,o,p,q]) S =
  ( some ([r,v,Value.bool false,s,w,t,z,x,y,u,b,c,d,f,g,i,j,k,l,m,n,o,p,q], S)) := by
 kernel_rfl
theorem zN.r1  : jc Try.prog ⟨false, false, false⟩ (zM Try.prog O) (reg Try.f66 1) (reg Try.f66 1).toList ([r,v,B,s,w,t,z,x,y,u,b,c,d,f,g,i,j,k,l,m,n,o,p,q]) S =
  (zB (xk Try.prog 100 none S) (fun E A => some ([r,v,B,E,w,t,dem E,x,y,u,b,c,d,f,g,i,j,k,l,m,n,o,p,q], A)) ()) := by
 kernel_rfl
theorem zN.r2  : jc Try.prog ⟨false, false, false⟩ (zM Try.prog O) (reg Try.f66 2) (reg Try.f66 2).toList ([r,v,B,s,w,t,z,x,y,u,b,c,d,f,g,i,j,k,l,m,n,o,p,q]) S =
  (zB (ZT Try.prog 26 (dem r) S) (fun C A => some ([r,v,B,s,w,t,z,dem r,C,Value.int IntKind.i64 0,b,c,d,f,g,i,j,k,l,m,n,o,p,q], A)) ()) := by
 kernel_rfl
theorem zN.r3  : jc Try.prog ⟨false, false, false⟩ (zM Try.prog O) (reg Try.f66 3) (reg Try.f66 3).toList ([r,v,B,s,w,t,z,x,y,u,b,c,d,f,g,i,j,k,l,m,n,o,p,q]) S =
  (zB (jT Try.prog BinOp.lss 3 u y S) (fun E A => some ([r,v,B,s,w,t,z,x,y,u,E,c,d,f,g,i,j,k,l,m,n,o,p,q], A)) ()) := by
 kernel_rfl
theorem zN.r4  : jc Try.prog ⟨false, false, false⟩ (zM Try.prog O) (reg Try.f66 4) (reg Try.f66 4).toList ([r,v,B,s,w,t,z,x,y,u,b,c,d,f,g,i,j,k,l,m,n,o,p,q]) S =
  (zB (zW Try.prog 26 x u S) (fun E A => zB (zS Try.prog false 25 E A) (fun C F => zB (wF Try.prog 25 F) (fun D G => zB (jP Try.prog 25 D (dem C) G) (fun H I => some ([r,v,B,s,w,D,z,x,y,u,b,E,C,f,g,i,j,k,l,m,n,o,p,q], I)) ()) ()) ()) ()) := by
 kernel_rfl
theorem zN.r5  : jc Try.prog ⟨false, false, false⟩ (zM Try.prog O) (reg Try.f66 5) (reg Try.f66 5).toList ([r,v,B,s,w,t,z,x,y,u,b,c,d,f,g,i,j,k,l,m,n,o,p,q]) S =
  (zB (zq Try.prog 25 t 0 S) (fun C A => zB (zS Try.prog false 3 C A) (fun D F => zB (vF Try.prog false 100 (dem s) D false F) (fun H G => some ([r,v,B,s,w,t,z,x,y,u,b,c,d,dem s,C,D,H,k,l,m,n,o,p,q], G)) ()) ()) ()) := by
 kernel_rfl
theorem zN.r6  : jc Try.prog ⟨false, false, false⟩ (zM Try.prog O) (reg Try.f66 6) (reg Try.f66 6).toList ([r,v,B,s,w,t,z,x,y,u,b,c,d,f,g,i,j,k,l,m,n,o,p,q]) S =
  ( some ([r,v,Value.bool false,s,w,t,z,x,y,u,b,c,d,f,g,i,j,k,l,m,n,o,p,q], S)) := by
 kernel_rfl
theorem zN.r7  : jc Try.prog ⟨false, false, false⟩ (zM Try.prog O) (reg Try.f66 7) (reg Try.f66 7).toList ([r,v,B,s,w,t,z,x,y,u,b,c,d,f,g,i,j,k,l,m,n,o,p,q]) S =
  (zB (zq Try.prog 25 t 0 S) (fun C A => zB (zS Try.prog false 3 C A) (fun D F => zB (wZ Try.prog 100 (dem s) D (Value.bool true) F) (fun H G => some ([r,v,B,s,w,t,z,x,y,u,b,c,d,f,g,i,j,dem s,C,D,n,o,p,q], G)) ()) ()) ()) := by
 kernel_rfl
theorem zN.r8  : jc Try.prog ⟨false, false, false⟩ (zM Try.prog O) (reg Try.f66 8) (reg Try.f66 8).toList ([r,v,B,s,w,t,z,x,y,u,b,c,d,f,g,i,j,k,l,m,n,o,p,q]) S =
  (zB (jT Try.prog BinOp.add 3 u (Value.int IntKind.i64 1) S) (fun E A => some ([r,v,B,s,w,t,z,x,y,dem E,b,c,d,f,g,i,j,k,l,m,E,o,p,q], A)) ()) := by
 kernel_rfl
theorem zN.r9  : jc Try.prog ⟨false, false, false⟩ (zM Try.prog O) (reg Try.f66 9) (reg Try.f66 9).toList ([r,v,B,s,w,t,z,x,y,u,b,c,d,f,g,i,j,k,l,m,n,o,p,q]) S =
  (zB (ZT Try.prog 26 (dem r) S) (fun C A => zB (jT Try.prog BinOp.leq 3 C (Value.int IntKind.i64 3) A) (fun D F => some ([r,v,D,s,w,t,z,x,y,u,b,c,d,f,g,i,j,k,l,m,n,dem r,C,dem D], F)) ()) ()) := by
 kernel_rfl
theorem zN.rs : type_of% (And.intro @zN.r0 (And.intro @zN.r1 (And.intro @zN.r2 (And.intro @zN.r3 (And.intro @zN.r4 (And.intro @zN.r5 (And.intro @zN.r6 (And.intro @zN.r7 (And.intro @zN.r8 (@zN.r9)))))))))) := And.intro @zN.r0 (And.intro @zN.r1 (And.intro @zN.r2 (And.intro @zN.r3 (And.intro @zN.r4 (And.intro @zN.r5 (And.intro @zN.r6 (And.intro @zN.r7 (And.intro @zN.r8 (@zN.r9)))))))))
theorem zN.runs {r : Value} {S A : zh} {e : AEx} {T : List Value} (h : zu Try.prog O false zN.code ([r,undef,undef,undef,undef,undef,undef,undef,undef,undef,undef,undef,undef,undef,undef,undef,undef,undef,undef,undef,undef,undef,undef,undef]) zh.empty = some (e, T, A)) (he : e = .normal ∨ e = .ret) (hca : [r].all (jh 16) = true) (hcv : jh 16 (T.getD 2 undef) = true) : zM Try.prog O 66 [r] S = some (T.getD 2 undef, S) :=
 wV rfl rfl Try.func66 (by decide) zN.body (by exact h) he (yE (a := T.getD 2 undef) ((show zD Try.prog T A Try.f66.results.toList = zD Try.prog T A [(ResultVar.tmp 2)] from by kernel_rfl).trans (by simp only [zD])) (by kernel_rfl)) hca hcv
end Go.Proofs.Ytbgcphbbchndkaa
namespace Go.Proofs.Ytbgcphbbchndkaa
open Go.Abs
abbrev zX.id : FuncId := 56
noncomputable def zX.jr : Code := (Code.seq (Code.region 5 (reg Try.f56 5) false) (Code.seq (Code.cond (Operand.tmp 23) Code.skip (Code.exit 0)) (Code.seq (Code.block 1 (Code.seq (Code.region 6 (reg Try.f56 6) false) (Code.seq (Code.region 7 (reg Try.f56 7) false) (Code.seq (Code.seq (Code.region 8 (reg Try.f56 8) false) (Code.cond (Operand.tmp 32) (Code.seq (Code.region 9 (reg Try.f56 9) false) Code.ret) Code.skip)) (Code.region 10 (reg Try.f56 10) false))))) (Code.region 11 (reg Try.f56 11) false))))
noncomputable def zX.code : Code := (Code.seq (Code.region 0 (reg Try.f56 0) false) (Code.seq (Code.seq (Code.region 1 (reg Try.f56 1) false) (Code.cond (Operand.tmp 12) (Code.seq (Code.region 2 (reg Try.f56 2) false) Code.ret) Code.skip)) (Code.seq (Code.region 3 (reg Try.f56 3) false) (Code.seq (Code.seq (Code.region 4 (reg Try.f56 4) false) (Code.block 0 (Code.loop zX.jr))) (Code.seq (Code.region 12 (reg Try.f56 12) false) Code.ret)))))
theorem zX.body : Try.f56.body = some zX.code := by kernel_rfl
theorem zX.eta {T : List Value} (h : T.length = 39) : T = [T.getD 0 undef,T.getD 1 undef,T.getD 2 undef,T.getD 3 undef,T.getD 4 undef,T.getD 5 undef,T.getD 6 undef,T.getD 7 undef,T.getD 8 undef,T.getD 9 undef,T.getD 10 undef,T.getD 11 undef,T.getD 12 undef,T.getD 13 undef,T.getD 14 undef,T.getD 15 undef,T.getD 16 undef,T.getD 17 undef,T.getD 18 undef,T.getD 19 undef,T.getD 20 undef,T.getD 21 undef,T.getD 22 undef,T.getD 23 undef,T.getD 24 undef,T.getD 25 undef,T.getD 26 undef,T.getD 27 undef,T.getD 28 undef,T.getD 29 undef,T.getD 30 undef,T.getD 31 undef,T.getD 32 undef,T.getD 33 undef,T.getD 34 undef,T.getD 35 undef,T.getD 36 undef,T.getD 37 undef,T.getD 38 undef] := (qH T 39 h).trans (by kernel_rfl)
variable (F J N P H M K L I G d f g i j k l m n o b c a p q r s t u v w x y z A B C D E : Value) (S : zh)
theorem zX.r0  : jc Try.prog ⟨false, false, false⟩ (zM Try.prog O) (reg Try.f56 0) (reg Try.f56 0).toList ([F,J,N,P,H,M,K,L,I,G,d,f,g,i,j,k,l,m,n,o,b,c,a,p,q,r,s,t,u,v,w,x,y,z,A,B,C,D,E]) S =
  ( some ([F,J,Value.slice none 0 0,Value.int IntKind.i64 0,H,M,K,L,I,G,d,f,g,i,j,k,l,m,n,o,b,c,a,p,q,r,s,t,u,v,w,x,y,z,A,B,C,D,E], S)) := by
 kernel_rfl
theorem zX.r1  : jc Try.prog ⟨false, false, false⟩ (zM Try.prog O) (reg Try.f56 1) (reg Try.f56 1).toList ([F,J,N,P,H,M,K,L,I,G,d,f,g,i,j,k,l,m,n,o,b,c,a,p,q,r,s,t,u,v,w,x,y,z,A,B,C,D,E]) S =
  (zB ((zM Try.prog O) 66 [(dem (dem F))] S) (fun R Q => zB (aUn Try.prog UnOp.not R Q) (fun U X => some ([F,J,N,P,H,M,K,L,I,G,dem F,R,U,i,j,k,l,m,n,o,b,c,a,p,q,r,s,t,u,v,w,x,y,z,A,B,C,D,E], X)) ()) ()) := by
 kernel_rfl
theorem zX.r2  : jc Try.prog ⟨false, false, false⟩ (zM Try.prog O) (reg Try.f56 2) (reg Try.f56 2).toList ([F,J,N,P,H,M,K,L,I,G,d,f,g,i,j,k,l,m,n,o,b,c,a,p,q,r,s,t,u,v,w,x,y,z,A,B,C,D,E]) S =
  ( some ([F,J,Value.slice none 0 0,Value.int IntKind.i64 61,H,M,K,L,I,G,d,f,g,i,j,k,l,m,n,o,b,c,a,p,q,r,s,t,u,v,w,x,y,z,A,B,C,D,E], S)) := by
 kernel_rfl
theorem zX.r3  : jc Try.prog ⟨false, false, false⟩ (zM Try.prog O) (reg Try.f56 3) (reg Try.f56 3).toList ([F,J,N,P,H,M,K,L,I,G,d,f,g,i,j,k,l,m,n,o,b,c,a,p,q,r,s,t,u,v,w,x,y,z,A,B,C,D,E]) S =
  (zB (ZT Try.prog 26 (dem F) S) (fun R Q => zB (jy Try.prog 57 1 [(0, R)] Q) (fun U X => zB ((zM Try.prog O) 32 [(dem U)] X) (fun W Y => zB (zA W 0 Y) (fun v5 Z => zB (zA (zF 0 W) 1 Z) (fun v6 S5 => some ([F,J,N,P,v5,v6,K,L,I,G,d,f,g,zF 1 (zF 0 W),dem F,R,U,dem W,dem v5,dem v6,b,c,a,p,q,r,s,t,u,v,w,x,y,z,A,B,C,D,E], S5)) ()) ()) ()) ()) ()) := by
 kernel_rfl
theorem zX.r4  : jc Try.prog ⟨false, false, false⟩ (zM Try.prog O) (reg Try.f56 4) (reg Try.f56 4).toList ([F,J,N,P,H,M,K,L,I,G,d,f,g,i,j,k,l,m,n,o,b,c,a,p,q,r,s,t,u,v,w,x,y,z,A,B,C,D,E]) S =
  (zB (ZT Try.prog 26 (dem F) S) (fun R Q => some ([F,J,N,P,H,M,K,L,I,G,d,f,g,i,j,k,l,m,n,o,dem F,R,Value.int IntKind.i64 0,p,q,r,s,t,u,v,w,x,y,z,A,B,C,D,E], Q)) ()) := by
 kernel_rfl
theorem zX.r5  : jc Try.prog ⟨false, false, false⟩ (zM Try.prog O) (reg Try.f56 5) (reg Try.f56 5).toList ([F,J,N,P,H,M,K,L,I,G,d,f,g,i,j,k,l,m,n,o,b,c,a,p,q,r,s,t,u,v,w,x,y,z,A,B,C,D,E]) S =
  (zB (jT Try.prog BinOp.lss 3 a c S) (fun V Q => some ([F,J,N,P,H,M,K,L,I,G,d,f,g,i,j,k,l,m,n,o,b,c,a,V,q,r,s,t,u,v,w,x,y,z,A,B,C,D,E], Q)) ()) := by
 kernel_rfl
theorem zX.r6  : jc Try.prog ⟨false, false, false⟩ (zM Try.prog O) (reg Try.f56 6) (reg Try.f56 6).toList ([F,J,N,P,H,M,K,L,I,G,d,f,g,i,j,k,l,m,n,o,b,c,a,p,q,r,s,t,u,v,w,x,y,z,A,B,C,D,E]) S =
  (zB (zW Try.prog 26 b a S) (fun V Q => zB (zS Try.prog false 25 V Q) (fun R X => zB (wF Try.prog 25 X) (fun U Y => zB (jP Try.prog 25 U (dem R) Y) (fun W Z => some ([F,J,N,P,H,M,K,U,I,G,d,f,g,i,j,k,l,m,n,o,b,c,a,p,V,R,s,t,u,v,w,x,y,z,A,B,C,D,E], Z)) ()) ()) ()) ()) := by
 kernel_rfl
theorem zX.r7  : jc Try.prog ⟨false, false, false⟩ (zM Try.prog O) (reg Try.f56 7) (reg Try.f56 7).toList ([F,J,N,P,H,M,K,L,I,G,d,f,g,i,j,k,l,m,n,o,b,c,a,p,q,r,s,t,u,v,w,x,y,z,A,B,C,D,E]) S =
  (zB (zS Try.prog false 25 L S) (fun V Q => zB ((zM Try.prog O) 33 [(dem V)] Q) (fun R X => zB (zA R 0 X) (fun W Y => zB (zA (zF 0 R) 1 Y) (fun v4 Z => some ([F,J,N,P,H,M,K,L,W,v4,d,f,g,i,j,k,l,m,n,o,b,c,a,p,q,r,zF 1 (zF 0 R),V,dem R,dem W,dem v4,x,y,z,A,B,C,D,E], Z)) ()) ()) ()) ()) := by
 kernel_rfl
theorem zX.r8  : jc Try.prog ⟨false, false, false⟩ (zM Try.prog O) (reg Try.f56 8) (reg Try.f56 8).toList ([F,J,N,P,H,M,K,L,I,G,d,f,g,i,j,k,l,m,n,o,b,c,a,p,q,r,s,t,u,v,w,x,y,z,A,B,C,D,E]) S =
  (zB (jT Try.prog BinOp.neq 31 (dem G) (Value.int IntKind.i64 0) S) (fun R Q => some ([F,J,N,P,H,M,K,L,I,G,d,f,g,i,j,k,l,m,n,o,b,c,a,p,q,r,s,t,u,v,w,dem G,R,z,A,B,C,D,E], Q)) ()) := by
 kernel_rfl
theorem zX.r9  : jc Try.prog ⟨false, false, false⟩ (zM Try.prog O) (reg Try.f56 9) (reg Try.f56 9).toList ([F,J,N,P,H,M,K,L,I,G,d,f,g,i,j,k,l,m,n,o,b,c,a,p,q,r,s,t,u,v,w,x,y,z,A,B,C,D,E]) S =
  ( some ([F,J,Value.slice none 0 0,G,H,M,K,L,I,dem G,d,f,g,i,j,k,l,m,n,o,b,c,a,p,q,r,s,t,u,v,w,x,y,dem G,A,B,C,D,E], S)) := by
 kernel_rfl
theorem zX.r10  : jc Try.prog ⟨false, false, false⟩ (zM Try.prog O) (reg Try.f56 10) (reg Try.f56 10).toList ([F,J,N,P,H,M,K,L,I,G,d,f,g,i,j,k,l,m,n,o,b,c,a,p,q,r,s,t,u,v,w,x,y,z,A,B,C,D,E]) S =
  (zB (wz Try.prog 23 23 H (dem I) S) (fun U Q => some ([F,J,N,P,U,M,K,L,I,G,d,f,g,i,j,k,l,m,n,o,b,c,a,p,q,r,s,t,u,v,w,x,y,z,dem H,dem I,dem U,D,E], Q)) ()) := by
 kernel_rfl
theorem zX.r11  : jc Try.prog ⟨false, false, false⟩ (zM Try.prog O) (reg Try.f56 11) (reg Try.f56 11).toList ([F,J,N,P,H,M,K,L,I,G,d,f,g,i,j,k,l,m,n,o,b,c,a,p,q,r,s,t,u,v,w,x,y,z,A,B,C,D,E]) S =
  (zB (jT Try.prog BinOp.add 3 a (Value.int IntKind.i64 1) S) (fun V Q => some ([F,J,N,P,H,M,K,L,I,G,d,f,g,i,j,k,l,m,n,o,b,c,dem V,p,q,r,s,t,u,v,w,x,y,z,A,B,C,V,E], Q)) ()) := by
 kernel_rfl
theorem zX.r12  : jc Try.prog ⟨false, false, false⟩ (zM Try.prog O) (reg Try.f56 12) (reg Try.f56 12).toList ([F,J,N,P,H,M,K,L,I,G,d,f,g,i,j,k,l,m,n,o,b,c,a,p,q,r,s,t,u,v,w,x,y,z,A,B,C,D,E]) S =
  ( some ([F,J,H,Value.int IntKind.i64 0,dem H,M,K,L,I,G,d,f,g,i,j,k,l,m,n,o,b,c,a,p,q,r,s,t,u,v,w,x,y,z,A,B,C,D,dem H], S)) := by
 kernel_rfl
theorem zX.rs : type_of% (And.intro @zX.r0 (And.intro @zX.r1 (And.intro @zX.r2 (And.intro @zX.r3 (And.intro @zX.r4 (And.intro @zX.r5 (And.intro @zX.r6 (And.intro @zX.r7 (And.intro @zX.r8 (And.intro @zX.r9 (And.intro @zX.r10 (And.intro @zX.r11 (@zX.r12))))))))))))) := And.intro @zX.r0 (And.intro @zX.r1 (And.intro @zX.r2 (And.intro @zX.r3 (And.intro @zX.r4 (And.intro @zX.r5 (And.intro @zX.r6 (And.intro @zX.r7 (And.intro @zX.r8 (And.intro @zX.r9 (And.intro @zX.r10 (And.intro @zX.r11 (@zX.r12))))))))))))
theorem zX.runs {F : Value} {S Q : zh} {e : AEx} {T : List Value} (h : zu Try.prog O false zX.code ([F,undef,undef,undef,undef,undef,undef,undef,undef,undef,undef,undef,undef,undef,undef,undef,undef,undef,undef,undef,undef,undef,undef,undef,undef,undef,undef,undef,undef,undef,undef,undef,undef,undef,undef,undef,undef,undef,undef]) zh.empty = some (e, T, Q)) (he : e = .normal ∨ e = .ret)  (h0 : jC (T.getD 2 undef) = true) (h1 : jC (T.getD 3 undef) = true) (hca : [F].all (jh 16) = true) (hcv : jh 16 (Value.tuple #[T.getD 2 undef, T.getD 3 undef]) = true) : zM Try.prog O 56 [F] S = some (Value.tuple #[T.getD 2 undef, T.getD 3 undef], S) :=
 wV rfl rfl Try.func56 (by decide) zX.body (by exact h) he ((yT ((show zD Try.prog T Q Try.f56.results.toList = zD Try.prog T Q [(ResultVar.tmp 2), (ResultVar.tmp 3)] from by kernel_rfl).trans (by simp only [zD])) (by kernel_rfl) (by simp only [List.all_cons, List.all_nil, h0, h1, Bool.and_true])).trans rfl) hca hcv
end Go.Proofs.Ytbgcphbbchndkaa
namespace Go.Proofs.Ytbgcphbbchndkaa
open Go.Abs
abbrev jZ.id : FuncId := 33
noncomputable def jZ.code : Code := (Code.seq (Code.region 0 (reg Try.f33 0) false) (Code.seq (Code.seq (Code.region 1 (reg Try.f33 1) false) (Code.cond (Operand.tmp 8) (Code.seq (Code.region 2 (reg Try.f33 2) false) Code.ret) Code.skip)) (Code.seq (Code.region 3 (reg Try.f33 3) false) (Code.seq (Code.region 4 (reg Try.f33 4) false) Code.ret))))
theorem jZ.body : Try.f33.body = some jZ.code := by kernel_rfl
variable (a m u v n o p q r s b c d f g i j k l : Value) (S : zh)
theorem jZ.r0  : jc Try.prog ⟨false, false, false⟩ (zM Try.prog O) (reg Try.f33 0) (reg Try.f33 0).toList ([a,m,u,v,n,o,p,q,r,s,b,c,d,f,g,i,j,k,l]) S =
  (zB (Wi (dem a) S) (fun w t => some ([a,w,Value.slice none 0 0,Value.int IntKind.i64 0,n,o,p,q,r,s,b,c,d,f,g,i,j,k,l], t)) ()) := by
 kernel_rfl
theorem jZ.r1  : jc Try.prog ⟨false, false, false⟩ (zM Try.prog O) (reg Try.f33 1) (reg Try.f33 1).toList ([a,m,u,v,n,o,p,q,r,s,b,c,d,f,g,i,j,k,l]) S =
  (zB (zS Try.prog false 25 m S) (fun w t => zB ((zM Try.prog O) 38 [(dem w)] t) (fun x A => zB (aUn Try.prog UnOp.not x A) (fun y B => some ([a,m,u,v,n,o,w,x,y,s,b,c,d,f,g,i,j,k,l], B)) ()) ()) ()) := by
 kernel_rfl
theorem jZ.r2  : jc Try.prog ⟨false, false, false⟩ (zM Try.prog O) (reg Try.f33 2) (reg Try.f33 2).toList ([a,m,u,v,n,o,p,q,r,s,b,c,d,f,g,i,j,k,l]) S =
  ( some ([a,m,Value.slice none 0 0,Value.int IntKind.i64 61,n,o,p,q,r,s,b,c,d,f,g,i,j,k,l], S)) := by
 kernel_rfl
theorem jZ.r3  : jc Try.prog ⟨false, false, false⟩ (zM Try.prog O) (reg Try.f33 3) (reg Try.f33 3).toList ([a,m,u,v,n,o,p,q,r,s,b,c,d,f,g,i,j,k,l]) S =
  (zB (zq Try.prog 25 m 0 S) (fun w t => zB (zS Try.prog false 3 w t) (fun x A => zB (zq Try.prog 25 m 1 A) (fun y B => zB (zS Try.prog false 3 y B) (fun C G => zB (jy Try.prog 57 2 [(0, x), (1, C)] G) (fun D H => zB ((zM Try.prog O) 32 [(dem D)] H) (fun z I => zB (zA z 0 I) (fun E J => zB (zA (zF 0 z) 1 J) (fun F K => some ([a,m,u,v,E,F,p,q,r,zF 1 (zF 0 z),w,x,y,C,D,dem z,dem E,dem F,l], K)) ()) ()) ()) ()) ()) ()) ()) ()) := by
 kernel_rfl
theorem jZ.r4  : jc Try.prog ⟨false, false, false⟩ (zM Try.prog O) (reg Try.f33 4) (reg Try.f33 4).toList ([a,m,u,v,n,o,p,q,r,s,b,c,d,f,g,i,j,k,l]) S =
  ( some ([a,m,n,Value.int IntKind.i64 0,dem n,o,p,q,r,s,b,c,d,f,g,i,j,k,dem n], S)) := by
 kernel_rfl
theorem jZ.rs : type_of% (And.intro @jZ.r0 (And.intro @jZ.r1 (And.intro @jZ.r2 (And.intro @jZ.r3 (@jZ.r4))))) := And.intro @jZ.r0 (And.intro @jZ.r1 (And.intro @jZ.r2 (And.intro @jZ.r3 (@jZ.r4))))
theorem jZ.runs {a : Value} {S t : zh} {e : AEx} {T : List Value} (h : zu Try.prog O false jZ.code ([a,undef,undef,undef,undef,undef,undef,undef,undef,undef,undef,undef,undef,undef,undef,undef,undef,undef,undef]) zh.empty = some (e, T, t)) (he : e = .normal ∨ e = .ret)  (h0 : jC (T.getD 2 undef) = true) (h1 : jC (T.getD 3 undef) = true) (hca : [a].all (jh 16) = true) (hcv : jh 16 (Value.tuple #[T.getD 2 undef, T.getD 3 undef]) = true) : zM Try.prog O 33 [a] S = some (Value.tuple #[T.getD 2 undef, T.getD 3 undef], S) :=
 wV rfl rfl Try.func33 (by decide) jZ.body (by exact h) he ((yT ((show zD Try.prog T t Try.f33.results.toList = zD Try.prog T t [(ResultVar.tmp 2), (ResultVar.tmp 3)] from by kernel_rfl).trans (by simp only [zD])) (by kernel_rfl) (by simp only [List.all_cons, List.all_nil, h0, h1, Bool.and_true])).trans rfl) hca hcv
end Go.Proofs.Ytbgcphbbchndkaa
namespace Go.Proofs.Ytbgcphbbchndkaa
open Go.Abs
abbrev jE.id : FuncId := 64
noncomputable def jE.code : Code := (Code.seq (Code.region 0 (reg Try.f64 0) false) (Code.seq (Code.region 1 (reg Try.f64 1) false) (Code.seq (Code.seq (Code.region 2 (reg Try.f64 2) false) (Code.cond (Operand.tmp 16) (Code.seq (Code.region 3 (reg Try.f64 3) false) Code.ret) Code.skip)) (Code.seq (Code.region 4 (reg Try.f64 4) true) (Code.seq (Code.region 5 (reg Try.f64 5) true) Code.ret)))))
theorem jE.body : Try.f64.body = some jE.code := by kernel_rfl
variable (c E C H I b z D A F d f g i j k l m n o p q r s t u w x y : Value) (S : zh)
theorem jE.r0  : jc Try.prog ⟨false, false, false⟩ (zM Try.prog O) (reg Try.f64 0) (reg Try.f64 0).toList ([c,E,C,H,I,b,z,D,A,F,d,f,g,i,j,k,l,m,n,o,p,q,r,s,t,u,w,x,y]) S =
  (zB (wF Try.prog 25 S) (fun J a => some ([c,E,J,Value.slice none 0 0,Value.bool false,b,z,D,A,F,d,f,g,i,j,k,l,m,n,o,p,q,r,s,t,u,w,x,y], a)) ()) := by
 kernel_rfl
theorem jE.r1  : jc Try.prog ⟨false, false, false⟩ (zM Try.prog O) (reg Try.f64 1) (reg Try.f64 1).toList ([c,E,C,H,I,b,z,D,A,F,d,f,g,i,j,k,l,m,n,o,p,q,r,s,t,u,w,x,y]) S =
  (zB ((zM Try.prog O) 51 [(dem (dem c)), (Value.int IntKind.i64 2)] S) (fun B a => zB (zA B 0 a) (fun N K => zB (zA (zF 0 B) 1 K) (fun G L => zB (zA (zF 1 (zF 0 B)) 2 L) (fun P Q => some ([c,E,C,H,I,N,G,P,A,zF 2 (zF 1 (zF 0 B)),dem c,dem B,dem N,dem G,dem P,k,l,m,n,o,p,q,r,s,t,u,w,x,y], Q)) ()) ()) ()) ()) := by
 kernel_rfl
theorem jE.r2  : jc Try.prog ⟨false, false, false⟩ (zM Try.prog O) (reg Try.f64 2) (reg Try.f64 2).toList ([c,E,C,H,I,b,z,D,A,F,d,f,g,i,j,k,l,m,n,o,p,q,r,s,t,u,w,x,y]) S =
  (zB (jT Try.prog BinOp.neq 31 (dem D) (Value.int IntKind.i64 0) S) (fun B a => some ([c,E,C,H,I,b,z,D,A,F,d,f,g,i,j,dem D,B,m,n,o,p,q,r,s,t,u,w,x,y], a)) ()) := by
 kernel_rfl
theorem jE.r3  : jc Try.prog ⟨false, false, false⟩ (zM Try.prog O) (reg Try.f64 3) (reg Try.f64 3).toList ([c,E,C,H,I,b,z,D,A,F,d,f,g,i,j,k,l,m,n,o,p,q,r,s,t,u,w,x,y]) S =
  (zB (yA Try.prog 25 [] S) (fun J a => zB (jP Try.prog 25 C (dem J) a) (fun B K => some ([c,E,C,Value.slice none 0 0,Value.bool false,b,z,D,A,F,d,f,g,i,j,k,l,J,n,o,p,q,r,s,t,u,w,x,y], K)) ()) ()) := by
 kernel_rfl
theorem jE.d4 : kF Try.prog (reg Try.f64 4) = true := by kernel_rfl
theorem jE.ff4 : fixed Try.prog (reg Try.f64 4) = false := by kernel_rfl
theorem jE.k4 : checked Try.prog (reg Try.f64 4) = [0, 1, 2, 3, 4, 5, 6] := by kernel_rfl
theorem jE.g4 : again Try.prog (reg Try.f64 4) = [(2, 7), (5, 7)] := by kernel_rfl
theorem jE.r4  : zu Try.prog O false (.region 4 (reg Try.f64 4) true) ([c,E,C,H,I,b,z,D,A,F,d,f,g,i,j,k,l,m,n,o,p,q,r,s,t,u,w,x,y]) S =
  WQ (okK b ( zB (zW Try.prog 57 (dem b) (Value.int IntKind.i64 0) S) (fun B a => okK B ( zB (zS Try.prog false 3 B a) (fun M K => okK M ( okK b ( zB (zW Try.prog 57 (dem b) (Value.int IntKind.i64 1) K) (fun G L => okK G ( zB (zS Try.prog false 3 G L) (fun P Q => okK P ( zB (yA Try.prog 25 [(0, (dem M)), (1, (dem P))] Q) (fun R W => okK R ( zB (wF Try.prog 25 W) (fun V U => zB (jP Try.prog 25 V (dem R) U) (fun Y X => ckK (qx B a U && (qx G L U && (true))) (some ([c,E,C,H,I,b,z,D,V,F,d,f,g,i,j,k,l,m,dem b,B,M,dem b,G,P,R,u,w,x,y], X)) ()) ()) ()) ()) ()) ()) ()) ()) ()) ()) ()) ()) ()) ()) ()) := by
 rw [yY jE.d4 jE.ff4 jE.k4 jE.g4]
 refine congrArg WQ ?_
 refine uPC Try.f64 4 0 (v := b) (pe := undef) ?_
 refine uDC Try.f64 4 1 (pe := undef) (fun B a => ?_)
 refine uDC Try.f64 4 2 (pe := B) (fun M K => ?_)
 refine uPC Try.f64 4 3 (v := b) (pe := undef) ?_
 refine uDC Try.f64 4 4 (pe := undef) (fun G L => ?_)
 refine uDC Try.f64 4 5 (pe := G) (fun P Q => ?_)
 refine uDC Try.f64 4 6 (pe := undef) (fun R W => ?_)
 refine uD Try.f64 4 7 (pe := undef) (fun V U => ?_)
 refine uD Try.f64 4 8 (pe := undef) (fun Y X => ?_)
 kernel_rfl
theorem jE.d5 : kF Try.prog (reg Try.f64 5) = true := by kernel_rfl
theorem jE.ff5 : fixed Try.prog (reg Try.f64 5) = false := by kernel_rfl
theorem jE.k5 : checked Try.prog (reg Try.f64 5) = [0, 1, 1] := by kernel_rfl
theorem jE.g5 : again Try.prog (reg Try.f64 5) = [(0, 3)] := by kernel_rfl
theorem jE.r5  : zu Try.prog O false (.region 5 (reg Try.f64 5) true) ([c,E,C,H,I,b,z,D,A,F,d,f,g,i,j,k,l,m,n,o,p,q,r,s,t,u,w,x,y]) S =
  WQ (zB (zS Try.prog false 25 A S) (fun J a => okK J ( okK z ( zB (zS Try.prog false 25 A a) (fun M K => zB ((zM Try.prog O) 38 [(dem M)] K) (fun N L => zB (jP Try.prog 25 C (dem J) L) (fun G Q => ckK (qx A S L && (true)) (some ([c,E,C,z,N,b,dem z,D,A,F,d,f,g,i,j,k,l,m,n,o,p,q,r,s,t,J,dem z,M,dem N], Q)) ()) ()) ()) ()) ()) ()) ()) := by
 rw [yY jE.d5 jE.ff5 jE.k5 jE.g5]
 refine congrArg WQ ?_
 refine uDC Try.f64 5 0 (pe := A) (fun J a => ?_)
 refine uPC Try.f64 5 1 (v := z) (pe := undef) ?_
 refine uD Try.f64 5 2 (pe := A) (fun M K => ?_)
 refine uD Try.f64 5 3 (pe := undef) (fun N L => ?_)
 refine uD Try.f64 5 4 (pe := undef) (fun G Q => ?_)
 refine uP Try.f64 5 5 (v := z) (pe := undef) ?_
 refine uP Try.f64 5 6 (v := N) (pe := undef) ?_
 kernel_rfl
theorem jE.rs : type_of% (And.intro @jE.r0 (And.intro @jE.r1 (And.intro @jE.r2 (And.intro @jE.r3 (And.intro @jE.r4 (@jE.r5)))))) := And.intro @jE.r0 (And.intro @jE.r1 (And.intro @jE.r2 (And.intro @jE.r3 (And.intro @jE.r4 (@jE.r5)))))
theorem jE.runs {c : Value} {S a : zh} {e : AEx} {T : List Value} (h : zu Try.prog O false jE.code ([c,undef,undef,undef,undef,undef,undef,undef,undef,undef,undef,undef,undef,undef,undef,undef,undef,undef,undef,undef,undef,undef,undef,undef,undef,undef,undef,undef,undef]) zh.empty = some (e, T, a)) (he : e = .normal ∨ e = .ret) {w0 : Value} (c0 : zS Try.prog false 25 (T.getD 2 undef) a = some (w0, a)) (h0 : jC (w0) = true) (h1 : jC (T.getD 3 undef) = true) (h2 : jC (T.getD 4 undef) = true) (hca : [c].all (jh 16) = true) (hcv : jh 16 (Value.tuple #[w0, T.getD 3 undef, T.getD 4 undef]) = true) : zM Try.prog O 64 [c] S = some (Value.tuple #[w0, T.getD 3 undef, T.getD 4 undef], S) :=
 wV rfl rfl Try.func64 (by decide) jE.body (by exact h) he ((yT ((show zD Try.prog T a Try.f64.results.toList = zD Try.prog T a [(ResultVar.cell 2 25), (ResultVar.tmp 3), (ResultVar.tmp 4)] from by kernel_rfl).trans (by simp only [zD, c0])) (by kernel_rfl) (by simp only [List.all_cons, List.all_nil, h0, h1, h2, Bool.and_true])).trans rfl) hca hcv
end Go.Proofs.Ytbgcphbbchndkaa
namespace Go.Proofs.Ytbgcphbbchndkaa
open Go.Abs
abbrev wB.id : FuncId := 52
noncomputable def wB.code : Code := (Code.seq (Code.region 0 (reg Try.f52 0) false) (Code.seq (Code.region 1 (reg Try.f52 1) false) (Code.seq (Code.seq (Code.region 2 (reg Try.f52 2) false) (Code.cond (Operand.tmp 19) (Code.seq (Code.region 3 (reg Try.f52 3) false) Code.ret) Code.skip)) (Code.seq (Code.region 4 (reg Try.f52 4) false) Code.ret))))
theorem wB.body : Try.f52.body = some wB.code := by kernel_rfl
variable (a u t C w x s y z A d f g i k l m n o p q r : Value) (S : zh)
theorem wB.r0  : jc Try.prog ⟨false, false, false⟩ (zM Try.prog O) (reg Try.f52 0) (reg Try.f52 0).toList ([a,u,t,C,w,x,s,y,z,A,d,f,g,i,k,l,m,n,o,p,q,r]) S =
  (zB (wF Try.prog 25 S) (fun D b => some ([a,u,D,Value.int IntKind.i64 0,w,x,s,y,z,A,d,f,g,i,k,l,m,n,o,p,q,r], b)) ()) := by
 kernel_rfl
theorem wB.r1  : jc Try.prog ⟨false, false, false⟩ (zM Try.prog O) (reg Try.f52 1) (reg Try.f52 1).toList ([a,u,t,C,w,x,s,y,z,A,d,f,g,i,k,l,m,n,o,p,q,r]) S =
  (zB ((zM Try.prog O) 64 [(dem (dem a))] S) (fun c b => zB (zA c 0 b) (fun E B => zB (zA (zF 0 c) 1 B) (fun F I => zB (zA (zF 1 (zF 0 c)) 2 I) (fun G J => zB (wF Try.prog 25 J) (fun H K => zB (jP Try.prog 25 H (dem E) K) (fun M L => some ([a,u,t,C,H,F,G,zF 2 (zF 1 (zF 0 c)),dem a,dem c,E,dem F,dem G,i,k,l,m,n,o,p,q,r], L)) ()) ()) ()) ()) ()) ()) := by
 kernel_rfl
theorem wB.r2  : jc Try.prog ⟨false, false, false⟩ (zM Try.prog O) (reg Try.f52 2) (reg Try.f52 2).toList ([a,u,t,C,w,x,s,y,z,A,d,f,g,i,k,l,m,n,o,p,q,r]) S =
  (zB (aUn Try.prog UnOp.not (dem s) S) (fun c b => gdK (dem c) false (ret x) b (fun E B => gdK (dem c) false (ZT Try.prog 23 (dem E)) B (fun F I => gdK (dem c) false (jT Try.prog BinOp.gtr 3 F (Value.int IntKind.i64 0)) I (fun G J => zB (wR (dem c) (Value.bool true) G J) (fun H K => some ([a,u,t,C,w,x,s,y,z,A,d,f,g,dem s,c,dem c,dem E,F,G,H,q,r], K)) ()) ()) ()) ()) ()) := by
 refine sP Try.f52 2 0 (v := s) ?_
 refine sD Try.f52 2 1 (fun c b => ?_)
 refine sP Try.f52 2 2 (v := c) ?_
 refine sG Try.f52 2 3 (j := 2) (fun E B => ?_)
 refine sG Try.f52 2 4 (j := 2) (fun F I => ?_)
 refine sG Try.f52 2 5 (j := 2) (fun G J => ?_)
 refine sD Try.f52 2 6 (fun H K => ?_)
 kernel_rfl
theorem wB.r3  : jc Try.prog ⟨false, false, false⟩ (zM Try.prog O) (reg Try.f52 3) (reg Try.f52 3).toList ([a,u,t,C,w,x,s,y,z,A,d,f,g,i,k,l,m,n,o,p,q,r]) S =
  (zB (yA Try.prog 25 [] S) (fun D b => zB (jP Try.prog 25 t (dem D) b) (fun c B => some ([a,u,t,Value.int IntKind.i64 61,w,x,s,y,z,A,d,f,g,i,k,l,m,n,o,p,D,r], B)) ()) ()) := by
 kernel_rfl
theorem wB.r4  : jc Try.prog ⟨false, false, false⟩ (zM Try.prog O) (reg Try.f52 4) (reg Try.f52 4).toList ([a,u,t,C,w,x,s,y,z,A,d,f,g,i,k,l,m,n,o,p,q,r]) S =
  (zB (zS Try.prog false 25 w S) (fun D b => zB (jP Try.prog 25 t (dem D) b) (fun c B => some ([a,u,t,Value.int IntKind.i64 0,w,x,s,y,z,A,d,f,g,i,k,l,m,n,o,p,q,D], B)) ()) ()) := by
 kernel_rfl
theorem wB.rs : type_of% (And.intro @wB.r0 (And.intro @wB.r1 (And.intro @wB.r2 (And.intro @wB.r3 (@wB.r4))))) := And.intro @wB.r0 (And.intro @wB.r1 (And.intro @wB.r2 (And.intro @wB.r3 (@wB.r4))))
theorem wB.runs {a : Value} {S b : zh} {e : AEx} {T : List Value} (h : zu Try.prog O false wB.code ([a,undef,undef,undef,undef,undef,undef,undef,undef,undef,undef,undef,undef,undef,undef,undef,undef,undef,undef,undef,undef,undef]) zh.empty = some (e, T, b)) (he : e = .normal ∨ e = .ret) {w0 : Value} (c0 : zS Try.prog false 25 (T.getD 2 undef) b = some (w0, b)) (h0 : jC (w0) = true) (h1 : jC (T.getD 3 undef) = true) (hca : [a].all (jh 16) = true) (hcv : jh 16 (Value.tuple #[w0, T.getD 3 undef]) = true) : zM Try.prog O 52 [a] S = some (Value.tuple #[w0, T.getD 3 undef], S) :=
 wV rfl rfl Try.func52 (by decide) wB.body (by exact h) he ((yT ((show zD Try.prog T b Try.f52.results.toList = zD Try.prog T b [(ResultVar.cell 2 25), (ResultVar.tmp 3)] from by kernel_rfl).trans (by simp only [zD, c0])) (by kernel_rfl) (by simp only [List.all_cons, List.all_nil, h0, h1, Bool.and_true])).trans rfl) hca hcv
end Go.Proofs.Ytbgcphbbchndkaa
namespace Go.Proofs.Ytbgcphbbchndkaa
open Go.Abs
abbrev wM.id : FuncId := 38
noncomputable def wM.code : Code := (Code.seq (Code.region 0 (reg Try.f38 0) false) (Code.seq (Code.region 1 (reg Try.f38 1) false) Code.ret))
theorem wM.body : Try.f38.body = some wM.code := by kernel_rfl
variable (c i Y J K L M N P Q l m n o p q r s t u w : Value) (S : zh)
theorem wM.r0  : jc Try.prog ⟨false, false, false⟩ (zM Try.prog O) (reg Try.f38 0) (reg Try.f38 0).toList ([c,i,Y,J,K,L,M,N,P,Q,l,m,n,o,p,q,r,s,t,u,w]) S =
  (zB (Wi (dem c) S) (fun x d => some ([c,x,Value.bool false,J,K,L,M,N,P,Q,l,m,n,o,p,q,r,s,t,u,w], d)) ()) := by
 kernel_rfl
theorem wM.r1  : jc Try.prog ⟨false, false, false⟩ (zM Try.prog O) (reg Try.f38 1) (reg Try.f38 1).toList ([c,i,Y,J,K,L,M,N,P,Q,l,m,n,o,p,q,r,s,t,u,w]) S =
  (zB (zq Try.prog 25 i 0 S) (fun x d => zB (zS Try.prog false 3 x d) (fun R Z => zB (jT Try.prog BinOp.geq 3 R (Value.int IntKind.i64 1) Z) (fun f S3 => gdK (dem f) true (zq Try.prog 25 i 0) S3 (fun U S4 => gdK (dem f) true (zS Try.prog false 3 U) S4 (fun V S5 => gdK (dem f) true (jT Try.prog BinOp.leq 3 V (Value.int IntKind.i64 1000000)) S5 (fun W S6 => zB (wR (dem f) W (Value.bool false) S6) (fun g S7 => gdK (dem g) true (zq Try.prog 25 i 1) S7 (fun X S8 => gdK (dem g) true (zS Try.prog false 3 X) S8 (fun y S9 => gdK (dem g) true (jT Try.prog BinOp.geq 3 y (Value.int IntKind.i64 0)) S9 (fun z D => zB (wR (dem g) z (Value.bool false) D) (fun b E => gdK (dem b) true (zq Try.prog 25 i 1) E (fun A F => gdK (dem b) true (zS Try.prog false 3 A) F (fun B G => gdK (dem b) true (jT Try.prog BinOp.leq 3 B (Value.int IntKind.i64 1000)) G (fun C H => zB (wR (dem b) C (Value.bool false) H) (fun k I => some ([c,i,k,x,R,f,dem f,U,V,W,g,dem g,X,y,z,b,dem b,A,B,C,dem k], I)) ()) ()) ()) ()) ()) ()) ()) ()) ()) ()) ()) ()) ()) ()) ()) := by
 refine sD Try.f38 1 0 (fun x d => ?_)
 refine sD Try.f38 1 1 (fun R Z => ?_)
 refine sD Try.f38 1 2 (fun f S3 => ?_)
 refine sP Try.f38 1 3 (v := f) ?_
 refine sG Try.f38 1 4 (j := 3) (fun U S4 => ?_)
 refine sG Try.f38 1 5 (j := 3) (fun V S5 => ?_)
 refine sG Try.f38 1 6 (j := 3) (fun W S6 => ?_)
 refine sD Try.f38 1 7 (fun g S7 => ?_)
 refine sP Try.f38 1 8 (v := g) ?_
 refine sG Try.f38 1 9 (j := 8) (fun X S8 => ?_)
 refine sG Try.f38 1 10 (j := 8) (fun y S9 => ?_)
 refine sG Try.f38 1 11 (j := 8) (fun z D => ?_)
 refine sD Try.f38 1 12 (fun b E => ?_)
 refine sP Try.f38 1 13 (v := b) ?_
 refine sG Try.f38 1 14 (j := 13) (fun A F => ?_)
 refine sG Try.f38 1 15 (j := 13) (fun B G => ?_)
 refine sG Try.f38 1 16 (j := 13) (fun C H => ?_)
 refine sD Try.f38 1 17 (fun k I => ?_)
 refine sP Try.f38 1 18 (v := k) ?_
 kernel_rfl
theorem wM.rs : type_of% (And.intro @wM.r0 (@wM.r1)) := And.intro @wM.r0 (@wM.r1)
theorem wM.runs {c : Value} {S d : zh} {e : AEx} {T : List Value} (h : zu Try.prog O false wM.code ([c,undef,undef,undef,undef,undef,undef,undef,undef,undef,undef,undef,undef,undef,undef,undef,undef,undef,undef,undef,undef]) zh.empty = some (e, T, d)) (he : e = .normal ∨ e = .ret) (hca : [c].all (jh 16) = true) (hcv : jh 16 (T.getD 2 undef) = true) : zM Try.prog O 38 [c] S = some (T.getD 2 undef, S) :=
 wV rfl rfl Try.func38 (by decide) wM.body (by exact h) he (yE (a := T.getD 2 undef) ((show zD Try.prog T d Try.f38.results.toList = zD Try.prog T d [(ResultVar.tmp 2)] from by kernel_rfl).trans (by simp only [zD])) (by kernel_rfl)) hca hcv
end Go.Proofs.Ytbgcphbbchndkaa
namespace Go.Proofs.Ytbgcphbbchndkaa
open Go.Abs
theorem ags {t : TypeId} {a b : List UInt8} {S : zh} : vW Try.prog .eql t (.string ⟨a.toArray⟩) (.string ⟨b.toArray⟩) S = some (.bool (decide (a = b)), S) := by rw [abe]
theorem afQ {a b : Bool} {S : zh} : vW Try.prog .eql 4 (.bool a) (.bool b) S = some (.bool (a == b), S) := by cases a <;> cases b <;> kernel_rfl
end Go.Proofs.Ytbgcphbbchndkaa
namespace Go.Proofs.Ytbgcphbbchndkaa
open Go.Abs
structure TxV where
 id : Int
 fee : Int
 deriving DecidableEq
def fT (t : TxV) : List Value := [.int .i64 t.id, .int .i64 t.fee]
abbrev tv (t : TxV) : Value := .agg [Value.int .i64 t.id, .int .i64 t.fee].toArray
structure TxV.Ok (t : TxV) : Prop where
 id : -9223372036854775808 ≤ t.id ∧ t.id < 9223372036854775808
 fee : -9223372036854775808 ≤ t.fee ∧ t.fee < 9223372036854775808
abbrev tTx : Ty := .pair (.int .i64) (.pair (.int .i64) .unit)
def yC (t : TxV) : Bool := decide (1 ≤ t.id) && decide (t.id ≤ 1000000) && decide (0 ≤ t.fee) && decide (t.fee ≤ 1000)
theorem qK {t : TxV} : yC t = true ↔ 1 ≤ t.id ∧ t.id ≤ 1000000 ∧ 0 ≤ t.fee ∧ t.fee ≤ 1000 := by
 simp [yC, and_assoc]
abbrev mem1 (t : TxV) : zh := zh.empty.push (.cells [Value.int .i64 t.id, .int .i64 t.fee] (.own []) 0)
theorem box1 (t : TxV) : Wi (tv t) zh.empty = some (.pointer (some ⟨0, 0, none⟩), mem1 t) := rfl
theorem JY (t : TxV) : (mem1 t).get 0 = some (.cells [Value.int .i64 t.id, .int .i64 t.fee] (.own []) 0) := rfl
theorem wM.v (t : TxV) (S : zh) : zM Try.prog O wM.id [tv t] S = some (.bool (yC t), S) := by
 obtain ⟨T, hTe⟩ : ∃ T, T = (tv t :: undef :: undef :: undef :: undef :: undef :: undef :: undef :: undef :: undef :: undef :: undef :: undef :: undef :: undef :: undef :: undef :: undef :: undef :: undef :: undef :: []) := ⟨_, rfl⟩
 have hr : zu Try.prog O false wM.code T zh.empty = zu Try.prog O false wM.code T zh.empty := rfl
 have l0 := qc (t := 3) (o := 0 + 0) (JY t) ZV rfl
 have l1 := qc (t := 3) (o := 0 + 1) (JY t) ZV rfl
 by_cases h1 : 1 ≤ t.id <;> by_cases h2 : t.id ≤ 1000000 <;> by_cases h3 : 0 ≤ t.fee <;> by_cases h4 : t.fee ≤ 1000
 all_goals
  conv at hr =>
   rhs
   rw [hTe]
   simp only [wM.code, wM.rs, zSs, reduceIte, Nat.reduceEqDiff, Int.reduceEq, Int.reduceLT, Int.reduceLE, box1, vX, Yi, l0, l1, h1, h2, h3, h4]
  rw [hTe] at hr
  simp only [yC, h1, h2, h3, h4, decide_true, decide_false, Bool.and_true, Bool.and_false, Bool.false_and]
  exact wM.runs hr (.inr rfl) rfl rfl
theorem ais (x : tTx.Val) (hg : tTx.Good x) : ∃ t : TxV, tTx.Ws x = fT t ∧ t.Ok := by
 obtain ⟨a, b, u⟩ := x
 obtain ⟨h1, h2, _⟩ := hg
 exact ⟨⟨a, b⟩, rfl, Z4 h1, Z4 h2⟩
end Go.Proofs.Ytbgcphbbchndkaa
