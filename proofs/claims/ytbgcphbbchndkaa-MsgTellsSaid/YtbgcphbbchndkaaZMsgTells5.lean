/-
The law MsgTells returns true for every input, and leaves it as it was; no condition. Part 5 of 6 of the texts (put together by a program: own names are short, what isn't needed is left out).
-/
import Derived.Test.YtbgcphbbchndkaaZMsgTells4
import Derived.Test.YtbgcphbbchndkaaChecked
import Derived.KernelRfl
set_option linter.unusedVariables false
set_option linter.unusedSimpArgs false
set_option maxRecDepth 100000
namespace Go.Proofs.Ytbgcphbbchndkaa
open Go.Abs
abbrev zQ.id : FuncId := 37
noncomputable def zQ.code : Code := (Code.seq (Code.region 0 (reg Try.f37 0) false) (Code.seq (Code.region 1 (reg Try.f37 1) false) (Code.seq (Code.seq (Code.region 2 (reg Try.f37 2) false) (Code.block 0 (Code.seq (Code.block 6 (Code.seq (Code.block 5 (Code.seq (Code.block 4 (Code.seq (Code.block 3 (Code.seq (Code.block 2 (Code.seq (Code.block 1 (Code.seq (Code.seq (Code.seq (Code.region 3 (reg Try.f37 3) false) (Code.cond (Operand.tmp 11) (Code.exit 1) Code.skip)) (Code.seq (Code.seq (Code.region 4 (reg Try.f37 4) false) (Code.cond (Operand.tmp 13) (Code.exit 2) Code.skip)) (Code.seq (Code.seq (Code.region 5 (reg Try.f37 5) false) (Code.cond (Operand.tmp 15) (Code.exit 3) Code.skip)) (Code.seq (Code.seq (Code.region 6 (reg Try.f37 6) false) (Code.cond (Operand.tmp 17) (Code.exit 4) Code.skip)) (Code.seq (Code.seq (Code.seq (Code.region 7 (reg Try.f37 7) false) (Code.cond (Operand.tmp 19) Code.skip (Code.region 8 (reg Try.f37 8) false))) (Code.cond (Operand.tmp 19) (Code.exit 5) Code.skip)) (Code.seq (Code.region 9 (reg Try.f37 9) false) (Code.cond (Operand.tmp 22) (Code.exit 6) Code.skip))))))) (Code.exit 0))) (Code.seq (Code.region 10 (reg Try.f37 10) false) (Code.exit 0)))) (Code.seq (Code.region 11 (reg Try.f37 11) false) (Code.exit 0)))) (Code.seq (Code.region 12 (reg Try.f37 12) false) (Code.exit 0)))) (Code.region 13 (reg Try.f37 13) false))) (Code.region 14 (reg Try.f37 14) false))) (Code.seq (Code.region 15 (reg Try.f37 15) true) (Code.exit 0))))) (Code.seq (Code.region 16 (reg Try.f37 16) false) Code.ret))))
theorem zQ.body : Try.f37.body = some zQ.code := by kernel_rfl
variable (U P V Q W X Y Z x8 x9 b d f g i j k l m N n o p q r s t u v w x y z A B C D E F G H I J K L M : Value) (S : zk)
theorem zQ.r0  : jE Try.prog ⟨false, false, false⟩ (jf Try.prog O) (reg Try.f37 0) (reg Try.f37 0).toList ([U,P,V,Q,W,X,Y,Z,x8,x9,b,d,f,g,i,j,k,l,m,N,n,o,p,q,r,s,t,u,v,w,x,y,z,A,B,C,D,E,F,G,H,I,J,K,L,M]) S =
  (zM (vV (dem U) S) (fun c R => zM (yM Try.prog 30 R) (fun v1 S2 => some ([U,c,v1,Q,W,X,Y,Z,x8,x9,b,d,f,g,i,j,k,l,m,N,n,o,p,q,r,s,t,u,v,w,x,y,z,A,B,C,D,E,F,G,H,I,J,K,L,M], S2)) ()) ()) := by
 kernel_rfl
theorem zQ.r1  : jE Try.prog ⟨false, false, false⟩ (jf Try.prog O) (reg Try.f37 1) (reg Try.f37 1).toList ([U,P,V,Q,W,X,Y,Z,x8,x9,b,d,f,g,i,j,k,l,m,N,n,o,p,q,r,s,t,u,v,w,x,y,z,A,B,C,D,E,F,G,H,I,J,K,L,M]) S =
  (zM (zo Try.prog 30 P 0 S) (fun c R => zM (zV Try.prog false 3 c R) (fun v1 S2 => zM (zo Try.prog 30 P 1 S2) (fun v2 S3 => zM (zV Try.prog false 3 v2 S3) (fun v3 S4 => zM (kS Try.prog 30 [(0, (dem v1)), (1, (dem v3))] S4) (fun v4 S5 => zM (yM Try.prog 30 S5) (fun v5 S6 => zM (yC Try.prog 30 v5 (dem v4) S6) (fun v6 S7 => some ([U,P,V,v5,c,v1,v2,v3,v4,x9,b,d,f,g,i,j,k,l,m,N,n,o,p,q,r,s,t,u,v,w,x,y,z,A,B,C,D,E,F,G,H,I,J,K,L,M], S7)) ()) ()) ()) ()) ()) ()) ()) := by
 kernel_rfl
theorem zQ.r2  : jE Try.prog ⟨false, false, false⟩ (jf Try.prog O) (reg Try.f37 2) (reg Try.f37 2).toList ([U,P,V,Q,W,X,Y,Z,x8,x9,b,d,f,g,i,j,k,l,m,N,n,o,p,q,r,s,t,u,v,w,x,y,z,A,B,C,D,E,F,G,H,I,J,K,L,M]) S =
  (zM (zo Try.prog 30 P 0 S) (fun c R => zM (zV Try.prog false 3 c R) (fun v1 S2 => some ([U,P,V,Q,W,X,Y,Z,x8,c,v1,d,f,g,i,j,k,l,m,N,n,o,p,q,r,s,t,u,v,w,x,y,z,A,B,C,D,E,F,G,H,I,J,K,L,M], S2)) ()) ()) := by
 kernel_rfl
theorem zQ.r3  : jE Try.prog ⟨false, false, false⟩ (jf Try.prog O) (reg Try.f37 3) (reg Try.f37 3).toList ([U,P,V,Q,W,X,Y,Z,x8,x9,b,d,f,g,i,j,k,l,m,N,n,o,p,q,r,s,t,u,v,w,x,y,z,A,B,C,D,E,F,G,H,I,J,K,L,M]) S =
  (zM (jS Try.prog BinOp.eql 3 b (Value.int IntKind.i64 0) S) (fun c R => some ([U,P,V,Q,W,X,Y,Z,x8,x9,b,c,dem c,g,i,j,k,l,m,N,n,o,p,q,r,s,t,u,v,w,x,y,z,A,B,C,D,E,F,G,H,I,J,K,L,M], R)) ()) := by
 kernel_rfl
theorem zQ.r4  : jE Try.prog ⟨false, false, false⟩ (jf Try.prog O) (reg Try.f37 4) (reg Try.f37 4).toList ([U,P,V,Q,W,X,Y,Z,x8,x9,b,d,f,g,i,j,k,l,m,N,n,o,p,q,r,s,t,u,v,w,x,y,z,A,B,C,D,E,F,G,H,I,J,K,L,M]) S =
  (zM (jS Try.prog BinOp.eql 3 b (Value.int IntKind.i64 1) S) (fun c R => some ([U,P,V,Q,W,X,Y,Z,x8,x9,b,d,f,c,dem c,j,k,l,m,N,n,o,p,q,r,s,t,u,v,w,x,y,z,A,B,C,D,E,F,G,H,I,J,K,L,M], R)) ()) := by
 kernel_rfl
theorem zQ.r5  : jE Try.prog ⟨false, false, false⟩ (jf Try.prog O) (reg Try.f37 5) (reg Try.f37 5).toList ([U,P,V,Q,W,X,Y,Z,x8,x9,b,d,f,g,i,j,k,l,m,N,n,o,p,q,r,s,t,u,v,w,x,y,z,A,B,C,D,E,F,G,H,I,J,K,L,M]) S =
  (zM (jS Try.prog BinOp.eql 3 b (Value.int IntKind.i64 2) S) (fun c R => some ([U,P,V,Q,W,X,Y,Z,x8,x9,b,d,f,g,i,c,dem c,l,m,N,n,o,p,q,r,s,t,u,v,w,x,y,z,A,B,C,D,E,F,G,H,I,J,K,L,M], R)) ()) := by
 kernel_rfl
theorem zQ.r6  : jE Try.prog ⟨false, false, false⟩ (jf Try.prog O) (reg Try.f37 6) (reg Try.f37 6).toList ([U,P,V,Q,W,X,Y,Z,x8,x9,b,d,f,g,i,j,k,l,m,N,n,o,p,q,r,s,t,u,v,w,x,y,z,A,B,C,D,E,F,G,H,I,J,K,L,M]) S =
  (zM (jS Try.prog BinOp.eql 3 b (Value.int IntKind.i64 3) S) (fun c R => some ([U,P,V,Q,W,X,Y,Z,x8,x9,b,d,f,g,i,j,k,c,dem c,N,n,o,p,q,r,s,t,u,v,w,x,y,z,A,B,C,D,E,F,G,H,I,J,K,L,M], R)) ()) := by
 kernel_rfl
theorem zQ.r7  : jE Try.prog ⟨false, false, false⟩ (jf Try.prog O) (reg Try.f37 7) (reg Try.f37 7).toList ([U,P,V,Q,W,X,Y,Z,x8,x9,b,d,f,g,i,j,k,l,m,N,n,o,p,q,r,s,t,u,v,w,x,y,z,A,B,C,D,E,F,G,H,I,J,K,L,M]) S =
  (zM (jS Try.prog BinOp.eql 3 b (Value.int IntKind.i64 4) S) (fun c R => some ([U,P,V,Q,W,X,Y,Z,x8,x9,b,d,f,g,i,j,k,l,m,c,dem c,o,p,q,r,s,t,u,v,w,x,y,z,A,B,C,D,E,F,G,H,I,J,K,L,M], R)) ()) := by
 kernel_rfl
theorem zQ.r8  : jE Try.prog ⟨false, false, false⟩ (jf Try.prog O) (reg Try.f37 8) (reg Try.f37 8).toList ([U,P,V,Q,W,X,Y,Z,x8,x9,b,d,f,g,i,j,k,l,m,N,n,o,p,q,r,s,t,u,v,w,x,y,z,A,B,C,D,E,F,G,H,I,J,K,L,M]) S =
  (zM (jS Try.prog BinOp.eql 3 b (Value.int IntKind.i64 5) S) (fun c R => some ([U,P,V,Q,W,X,Y,Z,x8,x9,b,d,f,g,i,j,k,l,m,c,n,dem c,p,q,r,s,t,u,v,w,x,y,z,A,B,C,D,E,F,G,H,I,J,K,L,M], R)) ()) := by
 kernel_rfl
theorem zQ.r9  : jE Try.prog ⟨false, false, false⟩ (jf Try.prog O) (reg Try.f37 9) (reg Try.f37 9).toList ([U,P,V,Q,W,X,Y,Z,x8,x9,b,d,f,g,i,j,k,l,m,N,n,o,p,q,r,s,t,u,v,w,x,y,z,A,B,C,D,E,F,G,H,I,J,K,L,M]) S =
  (zM (jS Try.prog BinOp.eql 3 b (Value.int IntKind.i64 6) S) (fun c R => some ([U,P,V,Q,W,X,Y,Z,x8,x9,b,d,f,g,i,j,k,l,m,N,n,o,c,dem c,r,s,t,u,v,w,x,y,z,A,B,C,D,E,F,G,H,I,J,K,L,M], R)) ()) := by
 kernel_rfl
theorem zQ.r10  : jE Try.prog ⟨false, false, false⟩ (jf Try.prog O) (reg Try.f37 10) (reg Try.f37 10).toList ([U,P,V,Q,W,X,Y,Z,x8,x9,b,d,f,g,i,j,k,l,m,N,n,o,p,q,r,s,t,u,v,w,x,y,z,A,B,C,D,E,F,G,H,I,J,K,L,M]) S =
  (zM (zo Try.prog 30 P 6 S) (fun c R => zM (zV Try.prog false 25 c R) (fun v1 S2 => zM (zo Try.prog 30 Q 6 S2) (fun v2 S3 => zM (yC Try.prog 25 v2 (dem v1) S3) (fun v3 S4 => some ([U,P,V,Q,W,X,Y,Z,x8,x9,b,d,f,g,i,j,k,l,m,N,n,o,p,q,c,v1,v2,u,v,w,x,y,z,A,B,C,D,E,F,G,H,I,J,K,L,M], S4)) ()) ()) ()) ()) := by
 kernel_rfl
theorem zQ.r11  : jE Try.prog ⟨false, false, false⟩ (jf Try.prog O) (reg Try.f37 11) (reg Try.f37 11).toList ([U,P,V,Q,W,X,Y,Z,x8,x9,b,d,f,g,i,j,k,l,m,N,n,o,p,q,r,s,t,u,v,w,x,y,z,A,B,C,D,E,F,G,H,I,J,K,L,M]) S =
  (zM (zo Try.prog 30 P 7 S) (fun c R => zM (zV Try.prog false 28 c R) (fun v1 S2 => zM (zo Try.prog 30 Q 7 S2) (fun v2 S3 => zM (yC Try.prog 28 v2 (dem v1) S3) (fun v3 S4 => some ([U,P,V,Q,W,X,Y,Z,x8,x9,b,d,f,g,i,j,k,l,m,N,n,o,p,q,r,s,t,c,v1,v2,x,y,z,A,B,C,D,E,F,G,H,I,J,K,L,M], S4)) ()) ()) ()) ()) := by
 kernel_rfl
theorem zQ.r12  : jE Try.prog ⟨false, false, false⟩ (jf Try.prog O) (reg Try.f37 12) (reg Try.f37 12).toList ([U,P,V,Q,W,X,Y,Z,x8,x9,b,d,f,g,i,j,k,l,m,N,n,o,p,q,r,s,t,u,v,w,x,y,z,A,B,C,D,E,F,G,H,I,J,K,L,M]) S =
  (zM (zo Try.prog 30 P 4 S) (fun c R => zM (zV Try.prog false 3 c R) (fun v1 S2 => zM (zo Try.prog 30 Q 4 S2) (fun v2 S3 => zM (yC Try.prog 3 v2 (dem v1) S3) (fun v3 S4 => some ([U,P,V,Q,W,X,Y,Z,x8,x9,b,d,f,g,i,j,k,l,m,N,n,o,p,q,r,s,t,u,v,w,c,v1,v2,A,B,C,D,E,F,G,H,I,J,K,L,M], S4)) ()) ()) ()) ()) := by
 kernel_rfl
theorem zQ.r13  : jE Try.prog ⟨false, false, false⟩ (jf Try.prog O) (reg Try.f37 13) (reg Try.f37 13).toList ([U,P,V,Q,W,X,Y,Z,x8,x9,b,d,f,g,i,j,k,l,m,N,n,o,p,q,r,s,t,u,v,w,x,y,z,A,B,C,D,E,F,G,H,I,J,K,L,M]) S =
  (zM (zo Try.prog 30 P 5 S) (fun c R => zM (zV Try.prog false 3 c R) (fun v1 S2 => zM (zo Try.prog 30 Q 5 S2) (fun v2 S3 => zM (yC Try.prog 3 v2 (dem v1) S3) (fun v3 S4 => some ([U,P,V,Q,W,X,Y,Z,x8,x9,b,d,f,g,i,j,k,l,m,N,n,o,p,q,r,s,t,u,v,w,x,y,z,c,v1,v2,D,E,F,G,H,I,J,K,L,M], S4)) ()) ()) ()) ()) := by
 kernel_rfl
theorem zQ.r14  : jE Try.prog ⟨false, false, false⟩ (jf Try.prog O) (reg Try.f37 14) (reg Try.f37 14).toList ([U,P,V,Q,W,X,Y,Z,x8,x9,b,d,f,g,i,j,k,l,m,N,n,o,p,q,r,s,t,u,v,w,x,y,z,A,B,C,D,E,F,G,H,I,J,K,L,M]) S =
  (zM (zo Try.prog 30 P 3 S) (fun c R => zM (zV Try.prog false 3 c R) (fun v1 S2 => zM (zo Try.prog 30 Q 3 S2) (fun v2 S3 => zM (yC Try.prog 3 v2 (dem v1) S3) (fun v3 S4 => some ([U,P,V,Q,W,X,Y,Z,x8,x9,b,d,f,g,i,j,k,l,m,N,n,o,p,q,r,s,t,u,v,w,x,y,z,A,B,C,c,v1,v2,G,H,I,J,K,L,M], S4)) ()) ()) ()) ()) := by
 kernel_rfl
theorem zQ.d15 : vN Try.prog (reg Try.f37 15) = true := by kernel_rfl
theorem zQ.ah7 : fixed Try.prog (reg Try.f37 15) = false := by kernel_rfl
theorem zQ.k15 : checked Try.prog (reg Try.f37 15) = [2, 3] := by kernel_rfl
theorem zQ.g15 : again Try.prog (reg Try.f37 15) = [(3, 5)] := by kernel_rfl
theorem zQ.r15  : zG Try.prog O false (.region 15 (reg Try.f37 15) true) ([U,P,V,Q,W,X,Y,Z,x8,x9,b,d,f,g,i,j,k,l,m,N,n,o,p,q,r,s,t,u,v,w,x,y,z,A,B,C,D,E,F,G,H,I,J,K,L,M]) S =
  XY (zM (zo Try.prog 30 P 2 S) (fun c R => zM (zV Try.prog false 3 c R) (fun v1 S2 => zM (zo Try.prog 30 P 4 S2) (fun v2 S3 => okK v2 ( zM (zV Try.prog false 3 v2 S3) (fun v3 S4 => okK v3 ( zM (zo Try.prog 30 Q 2 S4) (fun v4 S5 => zM (yC Try.prog 3 v4 (dem v1) S5) (fun v5 S6 => zM (zo Try.prog 30 Q 4 S6) (fun v6 S7 => zM (yC Try.prog 3 v6 (dem v3) S7) (fun v7 S8 => ckK (kP v2 S3 S6 && (true)) (some ([U,P,V,Q,W,X,Y,Z,x8,x9,b,d,f,g,i,j,k,l,m,N,n,o,p,q,r,s,t,u,v,w,x,y,z,A,B,C,D,E,F,c,v1,v2,v3,v4,v6,M], S8)) ()) ()) ()) ()) ()) ()) ()) ()) ()) ()) ()) := by
 rw [kZ zQ.d15 zQ.ah7 zQ.k15 zQ.g15]
 refine congrArg XY ?_
 refine uD Try.f37 15 0 (pe := undef) (fun c R => ?_)
 refine uD Try.f37 15 1 (pe := c) (fun v1 S2 => ?_)
 refine uDC Try.f37 15 2 (pe := undef) (fun v2 S3 => ?_)
 refine uDC Try.f37 15 3 (pe := v2) (fun v3 S4 => ?_)
 refine uD Try.f37 15 4 (pe := undef) (fun v4 S5 => ?_)
 refine uD Try.f37 15 5 (pe := undef) (fun v5 S6 => ?_)
 refine uD Try.f37 15 6 (pe := undef) (fun v6 S7 => ?_)
 refine uD Try.f37 15 7 (pe := undef) (fun v7 S8 => ?_)
 kernel_rfl
theorem zQ.r16  : jE Try.prog ⟨false, false, false⟩ (jf Try.prog O) (reg Try.f37 16) (reg Try.f37 16).toList ([U,P,V,Q,W,X,Y,Z,x8,x9,b,d,f,g,i,j,k,l,m,N,n,o,p,q,r,s,t,u,v,w,x,y,z,A,B,C,D,E,F,G,H,I,J,K,L,M]) S =
  (zM (zV Try.prog false 30 Q S) (fun c R => zM (yC Try.prog 30 V (dem c) R) (fun v1 S2 => some ([U,P,V,Q,W,X,Y,Z,x8,x9,b,d,f,g,i,j,k,l,m,N,n,o,p,q,r,s,t,u,v,w,x,y,z,A,B,C,D,E,F,G,H,I,J,K,L,c], S2)) ()) ()) := by
 kernel_rfl
theorem zQ.rs : type_of% (And.intro @zQ.r0 (And.intro @zQ.r1 (And.intro @zQ.r2 (And.intro @zQ.r3 (And.intro @zQ.r4 (And.intro @zQ.r5 (And.intro @zQ.r6 (And.intro @zQ.r7 (And.intro @zQ.r8 (And.intro @zQ.r9 (And.intro @zQ.r10 (And.intro @zQ.r11 (And.intro @zQ.r12 (And.intro @zQ.r13 (And.intro @zQ.r14 (And.intro @zQ.r15 (@zQ.r16))))))))))))))))) := And.intro @zQ.r0 (And.intro @zQ.r1 (And.intro @zQ.r2 (And.intro @zQ.r3 (And.intro @zQ.r4 (And.intro @zQ.r5 (And.intro @zQ.r6 (And.intro @zQ.r7 (And.intro @zQ.r8 (And.intro @zQ.r9 (And.intro @zQ.r10 (And.intro @zQ.r11 (And.intro @zQ.r12 (And.intro @zQ.r13 (And.intro @zQ.r14 (And.intro @zQ.r15 (@zQ.r16))))))))))))))))
theorem zQ.runs {U : Value} {S R : zk} {e : AEx} {T : List Value} (h : zG Try.prog O false zQ.code ([U,undef,undef,undef,undef,undef,undef,undef,undef,undef,undef,undef,undef,undef,undef,undef,undef,undef,undef,undef,undef,undef,undef,undef,undef,undef,undef,undef,undef,undef,undef,undef,undef,undef,undef,undef,undef,undef,undef,undef,undef,undef,undef,undef,undef,undef]) zk.empty = some (e, T, R)) (he : e = .normal ∨ e = .ret) {w0 : Value} (c0 : zV Try.prog false 30 (T.getD 2 undef) R = some (w0, R)) (hca : [U].all (jB 16) = true) (hcv : jB 16 (w0) = true) : jf Try.prog O 37 [U] S = some (w0, S) :=
 yc rfl rfl Try.func37 (by decide) zQ.body (by exact h) he (yg (a := w0) ((show zO Try.prog T R Try.f37.results.toList = zO Try.prog T R [(ResultVar.cell 2 30)] from by kernel_rfl).trans (by simp only [zO, c0])) (by kernel_rfl)) hca hcv
end Go.Proofs.Ytbgcphbbchndkaa
namespace Go.Proofs.Ytbgcphbbchndkaa
open Go.Abs
abbrev jM.id : FuncId := 15
noncomputable def jM.code : Code := (Code.seq (Code.region 0 (reg Try.f15 0) false) (Code.seq (Code.region 1 (reg Try.f15 1) false) (Code.seq (Code.region 2 (reg Try.f15 2) false) Code.ret)))
theorem jM.body : Try.f15.body = some jM.code := by kernel_rfl
variable (o p l m x4 g x6 x7 x8 x9 z A B C D E F G H I J K L M N P Q R U V W X Y Z a0 a1 a2 a3 a4 a5 a6 a7 a8 a9 b0 b1 b2 b3 b4 b5 b6 b7 b8 b9 c0 c1 c2 c3 c4 c5 c6 : Value) (S : zk)
theorem jM.r0  : jE Try.prog ⟨false, false, false⟩ (jf Try.prog O) (reg Try.f15 0) (reg Try.f15 0).toList ([o,p,l,m,x4,g,x6,x7,x8,x9,z,A,B,C,D,E,F,G,H,I,J,K,L,M,N,P,Q,R,U,V,W,X,Y,Z,a0,a1,a2,a3,a4,a5,a6,a7,a8,a9,b0,b1,b2,b3,b4,b5,b6,b7,b8,b9,c0,c1,c2,c3,c4,c5,c6]) S =
  (zM (vV (dem o) S) (fun v0 q => zM (vV (dem p) q) (fun v1 S2 => some ([o,p,v0,v1,Value.bool false,g,x6,x7,x8,x9,z,A,B,C,D,E,F,G,H,I,J,K,L,M,N,P,Q,R,U,V,W,X,Y,Z,a0,a1,a2,a3,a4,a5,a6,a7,a8,a9,b0,b1,b2,b3,b4,b5,b6,b7,b8,b9,c0,c1,c2,c3,c4,c5,c6], S2)) ()) ()) := by
 kernel_rfl
theorem jM.r1  : jE Try.prog ⟨false, false, false⟩ (jf Try.prog O) (reg Try.f15 1) (reg Try.f15 1).toList ([o,p,l,m,x4,g,x6,x7,x8,x9,z,A,B,C,D,E,F,G,H,I,J,K,L,M,N,P,Q,R,U,V,W,X,Y,Z,a0,a1,a2,a3,a4,a5,a6,a7,a8,a9,b0,b1,b2,b3,b4,b5,b6,b7,b8,b9,c0,c1,c2,c3,c4,c5,c6]) S =
  (zM (zo Try.prog 30 l 0 S) (fun v0 q => zM (zV Try.prog false 3 v0 q) (fun v1 S2 => zM (zo Try.prog 30 m 0 S2) (fun v2 S3 => zM (zV Try.prog false 3 v2 S3) (fun v3 S4 => zM (jS Try.prog BinOp.eql 3 v1 v3 S4) (fun i S5 => gdK (dem i) true (zo Try.prog 30 l 1) S5 (fun v6 S6 => gdK (dem i) true (zV Try.prog false 3 v6) S6 (fun k S7 => gdK (dem i) true (zo Try.prog 30 m 1) S7 (fun v8 S8 => gdK (dem i) true (zV Try.prog false 3 v8) S8 (fun v9 S9 => gdK (dem i) true (jS Try.prog BinOp.eql 3 k v9) S9 (fun r c7 => zM (wH (dem i) r (Value.bool false) c7) (fun b c8 => gdK (dem b) true (zo Try.prog 30 l 2) c8 (fun s c9 => gdK (dem b) true (zV Try.prog false 3 s) c9 (fun c d0 => gdK (dem b) true (zo Try.prog 30 m 2) d0 (fun f2 d1 => gdK (dem b) true (zV Try.prog false 3 f2) d1 (fun t d2 => gdK (dem b) true (jS Try.prog BinOp.eql 3 c t) d2 (fun u d3 => zM (wH (dem b) u (Value.bool false) d3) (fun d d4 => gdK (dem d) true (zo Try.prog 30 l 3) d4 (fun w d5 => gdK (dem d) true (zV Try.prog false 3 w) d5 (fun f d6 => gdK (dem d) true (zo Try.prog 30 m 3) d6 (fun f3 d7 => gdK (dem d) true (zV Try.prog false 3 f3) d7 (fun x d8 => gdK (dem d) true (jS Try.prog BinOp.eql 3 f x) d8 (fun y d9 => zM (wH (dem d) y (Value.bool false) d9) (fun n f0 => some ([o,p,l,m,x4,n,v0,v1,v2,v3,i,dem i,v6,k,v8,v9,r,b,dem b,s,c,f2,t,u,d,dem d,w,f,f3,x,y,dem n,Y,Z,a0,a1,a2,a3,a4,a5,a6,a7,a8,a9,b0,b1,b2,b3,b4,b5,b6,b7,b8,b9,c0,c1,c2,c3,c4,c5,c6], f0)) ()) ()) ()) ()) ()) ()) ()) ()) ()) ()) ()) ()) ()) ()) ()) ()) ()) ()) ()) ()) ()) ()) ()) := by
 refine sD Try.f15 1 0 (fun v0 q => ?_)
 refine sD Try.f15 1 1 (fun v1 S2 => ?_)
 refine sD Try.f15 1 2 (fun v2 S3 => ?_)
 refine sD Try.f15 1 3 (fun v3 S4 => ?_)
 refine sD Try.f15 1 4 (fun i S5 => ?_)
 refine sP Try.f15 1 5 (v := i) ?_
 refine sG Try.f15 1 6 (j := 5) (fun v6 S6 => ?_)
 refine sG Try.f15 1 7 (j := 5) (fun k S7 => ?_)
 refine sG Try.f15 1 8 (j := 5) (fun v8 S8 => ?_)
 refine sG Try.f15 1 9 (j := 5) (fun v9 S9 => ?_)
 refine sG Try.f15 1 10 (j := 5) (fun r c7 => ?_)
 refine sD Try.f15 1 11 (fun b c8 => ?_)
 refine sP Try.f15 1 12 (v := b) ?_
 refine sG Try.f15 1 13 (j := 12) (fun s c9 => ?_)
 refine sG Try.f15 1 14 (j := 12) (fun c d0 => ?_)
 refine sG Try.f15 1 15 (j := 12) (fun f2 d1 => ?_)
 refine sG Try.f15 1 16 (j := 12) (fun t d2 => ?_)
 refine sG Try.f15 1 17 (j := 12) (fun u d3 => ?_)
 refine sD Try.f15 1 18 (fun d d4 => ?_)
 refine sP Try.f15 1 19 (v := d) ?_
 refine sG Try.f15 1 20 (j := 19) (fun w d5 => ?_)
 refine sG Try.f15 1 21 (j := 19) (fun f d6 => ?_)
 refine sG Try.f15 1 22 (j := 19) (fun f3 d7 => ?_)
 refine sG Try.f15 1 23 (j := 19) (fun x d8 => ?_)
 refine sG Try.f15 1 24 (j := 19) (fun y d9 => ?_)
 refine sD Try.f15 1 25 (fun n f0 => ?_)
 refine sP Try.f15 1 26 (v := n) ?_
 kernel_rfl
theorem jM.r2  : jE Try.prog ⟨false, false, false⟩ (jf Try.prog O) (reg Try.f15 2) (reg Try.f15 2).toList ([o,p,l,m,x4,g,x6,x7,x8,x9,z,A,B,C,D,E,F,G,H,I,J,K,L,M,N,P,Q,R,U,V,W,X,Y,Z,a0,a1,a2,a3,a4,a5,a6,a7,a8,a9,b0,b1,b2,b3,b4,b5,b6,b7,b8,b9,c0,c1,c2,c3,c4,c5,c6]) S =
  (gdK (dem g) true (zo Try.prog 30 l 4) S (fun v2 q => gdK (dem g) true (zV Try.prog false 3 v2) q (fun v3 S2 => gdK (dem g) true (zo Try.prog 30 m 4) S2 (fun i S3 => gdK (dem g) true (zV Try.prog false 3 i) S3 (fun v5 S4 => gdK (dem g) true (jS Try.prog BinOp.eql 3 v3 v5) S4 (fun v6 S5 => zM (wH (dem g) v6 (Value.bool false) S5) (fun k S6 => gdK (dem k) true (zo Try.prog 30 l 5) S6 (fun v9 S7 => gdK (dem k) true (zV Try.prog false 3 v9) S7 (fun r S8 => gdK (dem k) true (zo Try.prog 30 m 5) S8 (fun b S9 => gdK (dem k) true (zV Try.prog false 3 b) S9 (fun f4 c7 => gdK (dem k) true (jS Try.prog BinOp.eql 3 r f4) c7 (fun s c8 => zM (wH (dem k) s (Value.bool false) c8) (fun c c9 => gdK (dem c) true (zo Try.prog 30 l 6) c9 (fun t d0 => gdK (dem c) true (zV Try.prog false 25 t) d0 (fun u d1 => gdK (dem c) true (zo Try.prog 30 m 6) d1 (fun d d2 => gdK (dem c) true (zV Try.prog false 25 d) d2 (fun f5 d3 => gdK (dem c) true (jS Try.prog BinOp.eql 25 u f5) d3 (fun w d4 => zM (wH (dem c) w (Value.bool false) d4) (fun f d5 => gdK (dem f) true (zo Try.prog 30 l 7) d5 (fun x d6 => gdK (dem f) true (zV Try.prog false 28 x) d6 (fun y d7 => gdK (dem f) true (zo Try.prog 30 m 7) d7 (fun n d8 => gdK (dem f) true (zV Try.prog false 28 n) d8 (fun f6 d9 => gdK (dem f) true ((jf Try.prog O) 41 [(dem y), (dem f6)]) d9 (fun f7 f0 => zM (wH (dem f) f7 (Value.bool false) f0) (fun f1 f8 => some ([o,p,l,m,f1,dem g,x6,x7,x8,x9,z,A,B,C,D,E,F,G,H,I,J,K,L,M,N,P,Q,R,U,V,W,X,g,dem g,v2,v3,i,v5,v6,k,dem k,v9,r,b,f4,s,c,dem c,t,u,d,f5,w,f,dem f,x,y,n,f6,f7,dem f1], f8)) ()) ()) ()) ()) ()) ()) ()) ()) ()) ()) ()) ()) ()) ()) ()) ()) ()) ()) ()) ()) ()) ()) ()) ()) := by
 refine sP Try.f15 2 0 (v := g) ?_
 refine sP Try.f15 2 1 (v := g) ?_
 refine sG Try.f15 2 2 (j := 1) (fun v2 q => ?_)
 refine sG Try.f15 2 3 (j := 1) (fun v3 S2 => ?_)
 refine sG Try.f15 2 4 (j := 1) (fun i S3 => ?_)
 refine sG Try.f15 2 5 (j := 1) (fun v5 S4 => ?_)
 refine sG Try.f15 2 6 (j := 1) (fun v6 S5 => ?_)
 refine sD Try.f15 2 7 (fun k S6 => ?_)
 refine sP Try.f15 2 8 (v := k) ?_
 refine sG Try.f15 2 9 (j := 8) (fun v9 S7 => ?_)
 refine sG Try.f15 2 10 (j := 8) (fun r S8 => ?_)
 refine sG Try.f15 2 11 (j := 8) (fun b S9 => ?_)
 refine sG Try.f15 2 12 (j := 8) (fun f4 c7 => ?_)
 refine sG Try.f15 2 13 (j := 8) (fun s c8 => ?_)
 refine sD Try.f15 2 14 (fun c c9 => ?_)
 refine sP Try.f15 2 15 (v := c) ?_
 refine sG Try.f15 2 16 (j := 15) (fun t d0 => ?_)
 refine sG Try.f15 2 17 (j := 15) (fun u d1 => ?_)
 refine sG Try.f15 2 18 (j := 15) (fun d d2 => ?_)
 refine sG Try.f15 2 19 (j := 15) (fun f5 d3 => ?_)
 refine sG Try.f15 2 20 (j := 15) (fun w d4 => ?_)
 refine sD Try.f15 2 21 (fun f d5 => ?_)
 refine sP Try.f15 2 22 (v := f) ?_
 refine sG Try.f15 2 23 (j := 22) (fun x d6 => ?_)
 refine sG Try.f15 2 24 (j := 22) (fun y d7 => ?_)
 refine sG Try.f15 2 25 (j := 22) (fun n d8 => ?_)
 refine sG Try.f15 2 26 (j := 22) (fun f6 d9 => ?_)
 refine sG Try.f15 2 27 (j := 22) (fun f7 f0 => ?_)
 refine sD Try.f15 2 28 (fun f1 f8 => ?_)
 refine sP Try.f15 2 29 (v := f1) ?_
 kernel_rfl
theorem jM.rs : type_of% (And.intro @jM.r0 (And.intro @jM.r1 (@jM.r2))) := And.intro @jM.r0 (And.intro @jM.r1 (@jM.r2))
theorem jM.runs {o p : Value} {S q : zk} {e : AEx} {T : List Value} (h : zG Try.prog O false jM.code ([o,p,undef,undef,undef,undef,undef,undef,undef,undef,undef,undef,undef,undef,undef,undef,undef,undef,undef,undef,undef,undef,undef,undef,undef,undef,undef,undef,undef,undef,undef,undef,undef,undef,undef,undef,undef,undef,undef,undef,undef,undef,undef,undef,undef,undef,undef,undef,undef,undef,undef,undef,undef,undef,undef,undef,undef,undef,undef,undef,undef]) zk.empty = some (e, T, q)) (he : e = .normal ∨ e = .ret) (hca : [o, p].all (jB 16) = true) (hcv : jB 16 (T.getD 4 undef) = true) : jf Try.prog O 15 [o, p] S = some (T.getD 4 undef, S) :=
 yc rfl rfl Try.func15 (by decide) jM.body (by exact h) he (yg (a := T.getD 4 undef) ((show zO Try.prog T q Try.f15.results.toList = zO Try.prog T q [(ResultVar.tmp 4)] from by kernel_rfl).trans (by simp only [zO])) (by kernel_rfl)) hca hcv
end Go.Proofs.Ytbgcphbbchndkaa
namespace Go.Proofs.Ytbgcphbbchndkaa
open Go.Abs
abbrev jA.id : FuncId := 40
noncomputable def jA.code : Code := (Code.seq (Code.region 0 (reg Try.f40 0) false) (Code.seq (Code.region 1 (reg Try.f40 1) false) (Code.seq (Code.region 2 (reg Try.f40 2) false) Code.ret)))
theorem jA.body : Try.f40.body = some jA.code := by kernel_rfl
variable (c f x2 L M N P Q R U k l m n o p q r s t u w x y z A B C D : Value) (S : zk)
theorem jA.r0  : jE Try.prog ⟨false, false, false⟩ (jf Try.prog O) (reg Try.f40 0) (reg Try.f40 0).toList ([c,f,x2,L,M,N,P,Q,R,U,k,l,m,n,o,p,q,r,s,t,u,w,x,y,z,A,B,C,D]) S =
  (zM (vV (dem c) S) (fun i d => some ([c,i,Value.bool false,L,M,N,P,Q,R,U,k,l,m,n,o,p,q,r,s,t,u,w,x,y,z,A,B,C,D], d)) ()) := by
 kernel_rfl
theorem jA.r1  : jE Try.prog ⟨false, false, false⟩ (jf Try.prog O) (reg Try.f40 1) (reg Try.f40 1).toList ([c,f,x2,L,M,N,P,Q,R,U,k,l,m,n,o,p,q,r,s,t,u,w,x,y,z,A,B,C,D]) S =
  (zM (zo Try.prog 30 f 0 S) (fun i d => zM (zV Try.prog false 3 i d) (fun G V => zM (jS Try.prog BinOp.eql 3 G (Value.int IntKind.i64 4) V) (fun b W => gdK (dem b) false (zo Try.prog 30 f 0) W (fun H X => gdK (dem b) false (zV Try.prog false 3 H) X (fun I Y => gdK (dem b) false (jS Try.prog BinOp.eql 3 I (Value.int IntKind.i64 5)) Y (fun J Z => zM (wH (dem b) (Value.bool true) J Z) (fun E S7 => some ([c,f,x2,E,i,G,b,dem b,H,I,J,dem E,m,n,o,p,q,r,s,t,u,w,x,y,z,A,B,C,D], S7)) ()) ()) ()) ()) ()) ()) ()) := by
 refine sD Try.f40 1 0 (fun i d => ?_)
 refine sD Try.f40 1 1 (fun G V => ?_)
 refine sD Try.f40 1 2 (fun b W => ?_)
 refine sP Try.f40 1 3 (v := b) ?_
 refine sG Try.f40 1 4 (j := 3) (fun H X => ?_)
 refine sG Try.f40 1 5 (j := 3) (fun I Y => ?_)
 refine sG Try.f40 1 6 (j := 3) (fun J Z => ?_)
 refine sD Try.f40 1 7 (fun E S7 => ?_)
 refine sP Try.f40 1 8 (v := E) ?_
 kernel_rfl
theorem jA.r2  : jE Try.prog ⟨false, false, false⟩ (jf Try.prog O) (reg Try.f40 2) (reg Try.f40 2).toList ([c,f,x2,L,M,N,P,Q,R,U,k,l,m,n,o,p,q,r,s,t,u,w,x,y,z,A,B,C,D]) S =
  (zM (zo Try.prog 30 f 4 S) (fun i d => zM (zV Try.prog false 3 i d) (fun G V => zM (jS Try.prog BinOp.eql 3 G (Value.int IntKind.i64 0) V) (fun b W => gdK (dem b) false (zo Try.prog 30 f 4) W (fun H X => gdK (dem b) false (zV Try.prog false 3 H) X (fun I Y => gdK (dem b) false ((jf Try.prog O) 59 [(dem I)]) Y (fun J Z => gdK (dem b) false (jS Try.prog BinOp.gtr 3 J (Value.int IntKind.i64 0)) Z (fun E S7 => zM (wH (dem b) (Value.bool true) E S7) (fun F S8 => gdK (dem F) false (ret L) S8 (fun a0 S9 => gdK (dem F) false (ret a0) S9 (fun g a5 => gdK (dem g) true (zo Try.prog 30 f 4) a5 (fun a1 a6 => gdK (dem g) true (zV Try.prog false 3 a1) a6 (fun a2 a7 => gdK (dem g) true (jS Try.prog BinOp.eql 3 a2 (Value.int IntKind.i64 (-1))) a7 (fun a3 a8 => gdK (dem F) false (wH (dem g) a3 (Value.bool false)) a8 (fun a4 a9 => zM (wH (dem F) (Value.bool true) a4 a9) (fun K b0 => some ([c,f,K,dem L,M,N,P,Q,R,U,k,l,i,G,b,dem b,H,I,J,E,F,dem F,a0,dem g,a1,a2,a3,a4,dem K], b0)) ()) ()) ()) ()) ()) ()) ()) ()) ()) ()) ()) ()) ()) ()) ()) := by
 refine sD Try.f40 2 0 (fun i d => ?_)
 refine sD Try.f40 2 1 (fun G V => ?_)
 refine sD Try.f40 2 2 (fun b W => ?_)
 refine sP Try.f40 2 3 (v := b) ?_
 refine sG Try.f40 2 4 (j := 3) (fun H X => ?_)
 refine sG Try.f40 2 5 (j := 3) (fun I Y => ?_)
 refine sG Try.f40 2 6 (j := 3) (fun J Z => ?_)
 refine sG Try.f40 2 7 (j := 3) (fun E S7 => ?_)
 refine sD Try.f40 2 8 (fun F S8 => ?_)
 refine sP Try.f40 2 9 (v := F) ?_
 refine sG Try.f40 2 10 (j := 9) (fun a0 S9 => ?_)
 refine sG Try.f40 2 11 (j := 9) (fun g a5 => ?_)
 refine sG Try.f40 2 12 (j := 11) (fun a1 a6 => ?_)
 refine sG Try.f40 2 13 (j := 11) (fun a2 a7 => ?_)
 refine sG Try.f40 2 14 (j := 11) (fun a3 a8 => ?_)
 refine sG Try.f40 2 15 (j := 9) (fun a4 a9 => ?_)
 refine sD Try.f40 2 16 (fun K b0 => ?_)
 refine sP Try.f40 2 17 (v := K) ?_
 kernel_rfl
theorem jA.rs : type_of% (And.intro @jA.r0 (And.intro @jA.r1 (@jA.r2))) := And.intro @jA.r0 (And.intro @jA.r1 (@jA.r2))
theorem jA.runs {c : Value} {S d : zk} {e : AEx} {T : List Value} (h : zG Try.prog O false jA.code ([c,undef,undef,undef,undef,undef,undef,undef,undef,undef,undef,undef,undef,undef,undef,undef,undef,undef,undef,undef,undef,undef,undef,undef,undef,undef,undef,undef,undef]) zk.empty = some (e, T, d)) (he : e = .normal ∨ e = .ret) (hca : [c].all (jB 16) = true) (hcv : jB 16 (T.getD 2 undef) = true) : jf Try.prog O 40 [c] S = some (T.getD 2 undef, S) :=
 yc rfl rfl Try.func40 (by decide) jA.body (by exact h) he (yg (a := T.getD 2 undef) ((show zO Try.prog T d Try.f40.results.toList = zO Try.prog T d [(ResultVar.tmp 2)] from by kernel_rfl).trans (by simp only [zO])) (by kernel_rfl)) hca hcv
end Go.Proofs.Ytbgcphbbchndkaa
namespace Go.Proofs.Ytbgcphbbchndkaa
open Go.Abs
abbrev zI.id : FuncId := 12
noncomputable def zI.code : Code := (Code.seq (Code.region 0 (reg Try.f12 0) false) (Code.seq (Code.seq (Code.region 1 (reg Try.f12 1) false) (Code.cond (Operand.tmp 44) (Code.seq (Code.region 2 (reg Try.f12 2) false) Code.ret) Code.skip)) (Code.seq (Code.region 3 (reg Try.f12 3) false) Code.ret)))
theorem zI.body : Try.f12.body = some zI.code := by kernel_rfl
variable (l m i k x4 x5 x6 x7 x8 x9 n o p q r s t u w x y z A B C D E F G H I J K L M N P Q R U V W X Y Z a0 a1 a2 a3 a4 a5 a6 a7 a8 a9 b0 b1 : Value) (S : zk)
theorem zI.r0  : jE Try.prog ⟨false, false, false⟩ (jf Try.prog O) (reg Try.f12 0) (reg Try.f12 0).toList ([l,m,i,k,x4,x5,x6,x7,x8,x9,n,o,p,q,r,s,t,u,w,x,y,z,A,B,C,D,E,F,G,H,I,J,K,L,M,N,P,Q,R,U,V,W,X,Y,Z,a0,a1,a2,a3,a4,a5,a6,a7,a8,a9,b0,b1]) S =
  (zM (vV (dem l) S) (fun v0 S1 => zM (vV (dem m) S1) (fun v1 S2 => some ([l,m,v0,v1,Value.bool false,x5,x6,x7,x8,x9,n,o,p,q,r,s,t,u,w,x,y,z,A,B,C,D,E,F,G,H,I,J,K,L,M,N,P,Q,R,U,V,W,X,Y,Z,a0,a1,a2,a3,a4,a5,a6,a7,a8,a9,b0,b1], S2)) ()) ()) := by
 kernel_rfl
theorem zI.r1  : jE Try.prog ⟨false, false, false⟩ (jf Try.prog O) (reg Try.f12 1) (reg Try.f12 1).toList ([l,m,i,k,x4,x5,x6,x7,x8,x9,n,o,p,q,r,s,t,u,w,x,y,z,A,B,C,D,E,F,G,H,I,J,K,L,M,N,P,Q,R,U,V,W,X,Y,Z,a0,a1,a2,a3,a4,a5,a6,a7,a8,a9,b0,b1]) S =
  (zM (zo Try.prog 30 i 0 S) (fun v0 S1 => zM (zV Try.prog false 3 v0 S1) (fun v1 S2 => zM (zo Try.prog 30 k 0 S2) (fun v2 S3 => zM (zV Try.prog false 3 v2 S3) (fun v3 S4 => zM (jS Try.prog BinOp.neq 3 v1 v3 S4) (fun c S5 => gdK (dem c) false (zo Try.prog 30 i 1) S5 (fun v6 S6 => gdK (dem c) false (zV Try.prog false 3 v6) S6 (fun v7 S7 => gdK (dem c) false (zo Try.prog 30 k 1) S7 (fun v8 S8 => gdK (dem c) false (zV Try.prog false 3 v8) S8 (fun v9 S9 => gdK (dem c) false (jS Try.prog BinOp.neq 3 v7 v9) S9 (fun b2 b3 => zM (wH (dem c) (Value.bool true) b2 b3) (fun b b4 => gdK (dem b) false (zo Try.prog 30 i 2) b4 (fun b5 d5 => gdK (dem b) false (zV Try.prog false 3 b5) d5 (fun b6 d6 => gdK (dem b) false (zo Try.prog 30 k 2) d6 (fun b7 d7 => gdK (dem b) false (zV Try.prog false 3 b7) d7 (fun b8 d8 => gdK (dem b) false (jS Try.prog BinOp.neq 3 b6 b8) d8 (fun b9 d9 => zM (wH (dem b) (Value.bool true) b9 d9) (fun d f0 => gdK (dem d) false (zo Try.prog 30 i 3) f0 (fun c0 f1 => gdK (dem d) false (zV Try.prog false 3 c0) f1 (fun c1 f2 => gdK (dem d) false (zo Try.prog 30 k 3) f2 (fun c2 f3 => gdK (dem d) false (zV Try.prog false 3 c2) f3 (fun c3 f4 => gdK (dem d) false (jS Try.prog BinOp.neq 3 c1 c3) f4 (fun c4 f5 => zM (wH (dem d) (Value.bool true) c4 f5) (fun f f6 => gdK (dem f) false (zo Try.prog 30 i 4) f6 (fun c5 f7 => gdK (dem f) false (zV Try.prog false 3 c5) f7 (fun c6 f8 => gdK (dem f) false (zo Try.prog 30 k 4) f8 (fun c7 f9 => gdK (dem f) false (zV Try.prog false 3 c7) f9 (fun c8 g0 => gdK (dem f) false (jS Try.prog BinOp.neq 3 c6 c8) g0 (fun c9 g1 => zM (wH (dem f) (Value.bool true) c9 g1) (fun g g2 => gdK (dem g) false (zo Try.prog 30 i 5) g2 (fun d0 g3 => gdK (dem g) false (zV Try.prog false 3 d0) g3 (fun d1 g4 => gdK (dem g) false (zo Try.prog 30 k 5) g4 (fun d2 g5 => gdK (dem g) false (zV Try.prog false 3 d2) g5 (fun d3 g6 => gdK (dem g) false (jS Try.prog BinOp.neq 3 d1 d3) g6 (fun d4 g7 => zM (wH (dem g) (Value.bool true) d4 g7) (fun g8 g9 => some ([l,m,i,k,x4,v0,v1,v2,v3,c,dem c,v6,v7,v8,v9,b2,b,dem b,b5,b6,b7,b8,b9,d,dem d,c0,c1,c2,c3,c4,f,dem f,c5,c6,c7,c8,c9,g,dem g,d0,d1,d2,d3,d4,g8,a0,a1,a2,a3,a4,a5,a6,a7,a8,a9,b0,b1], g9)) ()) ()) ()) ()) ()) ()) ()) ()) ()) ()) ()) ()) ()) ()) ()) ()) ()) ()) ()) ()) ()) ()) ()) ()) ()) ()) ()) ()) ()) ()) ()) ()) ()) ()) ()) := by
 refine sD Try.f12 1 0 (fun v0 S1 => ?_)
 refine sD Try.f12 1 1 (fun v1 S2 => ?_)
 refine sD Try.f12 1 2 (fun v2 S3 => ?_)
 refine sD Try.f12 1 3 (fun v3 S4 => ?_)
 refine sD Try.f12 1 4 (fun c S5 => ?_)
 refine sP Try.f12 1 5 (v := c) ?_
 refine sG Try.f12 1 6 (j := 5) (fun v6 S6 => ?_)
 refine sG Try.f12 1 7 (j := 5) (fun v7 S7 => ?_)
 refine sG Try.f12 1 8 (j := 5) (fun v8 S8 => ?_)
 refine sG Try.f12 1 9 (j := 5) (fun v9 S9 => ?_)
 refine sG Try.f12 1 10 (j := 5) (fun b2 b3 => ?_)
 refine sD Try.f12 1 11 (fun b b4 => ?_)
 refine sP Try.f12 1 12 (v := b) ?_
 refine sG Try.f12 1 13 (j := 12) (fun b5 d5 => ?_)
 refine sG Try.f12 1 14 (j := 12) (fun b6 d6 => ?_)
 refine sG Try.f12 1 15 (j := 12) (fun b7 d7 => ?_)
 refine sG Try.f12 1 16 (j := 12) (fun b8 d8 => ?_)
 refine sG Try.f12 1 17 (j := 12) (fun b9 d9 => ?_)
 refine sD Try.f12 1 18 (fun d f0 => ?_)
 refine sP Try.f12 1 19 (v := d) ?_
 refine sG Try.f12 1 20 (j := 19) (fun c0 f1 => ?_)
 refine sG Try.f12 1 21 (j := 19) (fun c1 f2 => ?_)
 refine sG Try.f12 1 22 (j := 19) (fun c2 f3 => ?_)
 refine sG Try.f12 1 23 (j := 19) (fun c3 f4 => ?_)
 refine sG Try.f12 1 24 (j := 19) (fun c4 f5 => ?_)
 refine sD Try.f12 1 25 (fun f f6 => ?_)
 refine sP Try.f12 1 26 (v := f) ?_
 refine sG Try.f12 1 27 (j := 26) (fun c5 f7 => ?_)
 refine sG Try.f12 1 28 (j := 26) (fun c6 f8 => ?_)
 refine sG Try.f12 1 29 (j := 26) (fun c7 f9 => ?_)
 refine sG Try.f12 1 30 (j := 26) (fun c8 g0 => ?_)
 refine sG Try.f12 1 31 (j := 26) (fun c9 g1 => ?_)
 refine sD Try.f12 1 32 (fun g g2 => ?_)
 refine sP Try.f12 1 33 (v := g) ?_
 refine sG Try.f12 1 34 (j := 33) (fun d0 g3 => ?_)
 refine sG Try.f12 1 35 (j := 33) (fun d1 g4 => ?_)
 refine sG Try.f12 1 36 (j := 33) (fun d2 g5 => ?_)
 refine sG Try.f12 1 37 (j := 33) (fun d3 g6 => ?_)
 refine sG Try.f12 1 38 (j := 33) (fun d4 g7 => ?_)
 refine sD Try.f12 1 39 (fun g8 g9 => ?_)
 kernel_rfl
theorem zI.r2  : jE Try.prog ⟨false, false, false⟩ (jf Try.prog O) (reg Try.f12 2) (reg Try.f12 2).toList ([l,m,i,k,x4,x5,x6,x7,x8,x9,n,o,p,q,r,s,t,u,w,x,y,z,A,B,C,D,E,F,G,H,I,J,K,L,M,N,P,Q,R,U,V,W,X,Y,Z,a0,a1,a2,a3,a4,a5,a6,a7,a8,a9,b0,b1]) S =
  ( some ([l,m,i,k,Value.bool false,x5,x6,x7,x8,x9,n,o,p,q,r,s,t,u,w,x,y,z,A,B,C,D,E,F,G,H,I,J,K,L,M,N,P,Q,R,U,V,W,X,Y,Z,a0,a1,a2,a3,a4,a5,a6,a7,a8,a9,b0,b1], S)) := by
 kernel_rfl
theorem zI.r3  : jE Try.prog ⟨false, false, false⟩ (jf Try.prog O) (reg Try.f12 3) (reg Try.f12 3).toList ([l,m,i,k,x4,x5,x6,x7,x8,x9,n,o,p,q,r,s,t,u,w,x,y,z,A,B,C,D,E,F,G,H,I,J,K,L,M,N,P,Q,R,U,V,W,X,Y,Z,a0,a1,a2,a3,a4,a5,a6,a7,a8,a9,b0,b1]) S =
  (zM (zo Try.prog 30 i 6 S) (fun v0 S1 => zM (zV Try.prog false 25 v0 S1) (fun v1 S2 => zM (zo Try.prog 30 k 6 S2) (fun v2 S3 => zM (zV Try.prog false 25 v2 S3) (fun v3 S4 => zM (jS Try.prog BinOp.eql 25 v1 v3 S4) (fun c S5 => gdK (dem c) true (zo Try.prog 30 i 7) S5 (fun v6 S6 => gdK (dem c) true (zV Try.prog false 28 v6) S6 (fun v7 S7 => gdK (dem c) true (zo Try.prog 30 k 7) S7 (fun v8 S8 => gdK (dem c) true (zV Try.prog false 28 v8) S8 (fun v9 S9 => gdK (dem c) true ((jf Try.prog O) 31 [(dem v7), (dem v9)]) S9 (fun b2 b3 => zM (wH (dem c) b2 (Value.bool false) b3) (fun b b4 => some ([l,m,i,k,b,x5,x6,x7,x8,x9,n,o,p,q,r,s,t,u,w,x,y,z,A,B,C,D,E,F,G,H,I,J,K,L,M,N,P,Q,R,U,V,W,X,Y,Z,v0,v1,v2,v3,c,dem c,v6,v7,v8,v9,b2,dem b], b4)) ()) ()) ()) ()) ()) ()) ()) ()) ()) ()) ()) := by
 refine sD Try.f12 3 0 (fun v0 S1 => ?_)
 refine sD Try.f12 3 1 (fun v1 S2 => ?_)
 refine sD Try.f12 3 2 (fun v2 S3 => ?_)
 refine sD Try.f12 3 3 (fun v3 S4 => ?_)
 refine sD Try.f12 3 4 (fun c S5 => ?_)
 refine sP Try.f12 3 5 (v := c) ?_
 refine sG Try.f12 3 6 (j := 5) (fun v6 S6 => ?_)
 refine sG Try.f12 3 7 (j := 5) (fun v7 S7 => ?_)
 refine sG Try.f12 3 8 (j := 5) (fun v8 S8 => ?_)
 refine sG Try.f12 3 9 (j := 5) (fun v9 S9 => ?_)
 refine sG Try.f12 3 10 (j := 5) (fun b2 b3 => ?_)
 refine sD Try.f12 3 11 (fun b b4 => ?_)
 refine sP Try.f12 3 12 (v := b) ?_
 kernel_rfl
theorem zI.rs : type_of% (And.intro @zI.r0 (And.intro @zI.r1 (And.intro @zI.r2 (@zI.r3)))) := And.intro @zI.r0 (And.intro @zI.r1 (And.intro @zI.r2 (@zI.r3)))
theorem zI.runs {l m : Value} {S S1 : zk} {e : AEx} {T : List Value} (h : zG Try.prog O false zI.code ([l,m,undef,undef,undef,undef,undef,undef,undef,undef,undef,undef,undef,undef,undef,undef,undef,undef,undef,undef,undef,undef,undef,undef,undef,undef,undef,undef,undef,undef,undef,undef,undef,undef,undef,undef,undef,undef,undef,undef,undef,undef,undef,undef,undef,undef,undef,undef,undef,undef,undef,undef,undef,undef,undef,undef,undef]) zk.empty = some (e, T, S1)) (he : e = .normal ∨ e = .ret) (hca : [l, m].all (jB 16) = true) (hcv : jB 16 (T.getD 4 undef) = true) : jf Try.prog O 12 [l, m] S = some (T.getD 4 undef, S) :=
 yc rfl rfl Try.func12 (by decide) zI.body (by exact h) he (yg (a := T.getD 4 undef) ((show zO Try.prog T S1 Try.f12.results.toList = zO Try.prog T S1 [(ResultVar.tmp 4)] from by kernel_rfl).trans (by simp only [zO])) (by kernel_rfl)) hca hcv
end Go.Proofs.Ytbgcphbbchndkaa
namespace Go.Proofs.Ytbgcphbbchndkaa
open Go.Abs
abbrev qh.id : FuncId := 27
noncomputable def qh.code : Code := (Code.seq (Code.region 0 (reg Try.f27 0) false) (Code.seq (Code.region 1 (reg Try.f27 1) false) Code.ret))
theorem qh.body : Try.f27.body = some qh.code := by kernel_rfl
variable (b d k f g i j : Value) (S : zk)
theorem qh.r0  : jE Try.prog ⟨false, false, false⟩ (jf Try.prog O) (reg Try.f27 0) (reg Try.f27 0).toList ([b,d,k,f,g,i,j]) S =
  ( some ([b,d,Value.int IntKind.u64 0,f,g,i,j], S)) := by
 kernel_rfl
theorem qh.r1  : jE Try.prog ⟨false, false, false⟩ (jf Try.prog O) (reg Try.f27 1) (reg Try.f27 1).toList ([b,d,k,f,g,i,j]) S =
  (zM (qx Try.prog false false 3 42 (dem b) S) (fun l c => zM (jS Try.prog BinOp.add 42 l (Value.int IntKind.u64 1) c) (fun m o => zM (jS Try.prog BinOp.mul 42 m (Value.int IntKind.u64 11400714819323198485) o) (fun n p => some ([b,d,n,dem b,l,m,dem n], p)) ()) ()) ()) := by
 kernel_rfl
theorem qh.rs : type_of% (And.intro @qh.r0 (@qh.r1)) := And.intro @qh.r0 (@qh.r1)
theorem qh.runs {b : Value} {S c : zk} {e : AEx} {T : List Value} (h : zG Try.prog O false qh.code ([b,undef,undef,undef,undef,undef,undef]) S = some (e, T, c)) (he : e = .normal ∨ e = .ret) : jf Try.prog O 27 [b] S = some (T.getD 2 undef, c) :=
 yQ rfl rfl Try.func27 (by decide) qh.body (by exact h) he (yg (a := T.getD 2 undef) ((show zO Try.prog T c Try.f27.results.toList = zO Try.prog T c [(ResultVar.tmp 2)] from by kernel_rfl).trans (by simp only [zO])) (by kernel_rfl))
end Go.Proofs.Ytbgcphbbchndkaa
namespace Go.Proofs.Ytbgcphbbchndkaa
open Go.Abs
abbrev jH.id : FuncId := 36
noncomputable def jH.jT : Code := (Code.seq (Code.region 6 (reg Try.f36 6) false) (Code.seq (Code.cond (Operand.tmp 21) Code.skip (Code.exit 2)) (Code.seq (Code.block 3 (Code.seq (Code.region 7 (reg Try.f36 7) false) (Code.region 8 (reg Try.f36 8) false))) (Code.region 9 (reg Try.f36 9) false))))
noncomputable def jH.Zb : Code := (Code.seq (Code.region 3 (reg Try.f36 3) false) (Code.seq (Code.cond (Operand.tmp 15) Code.skip (Code.exit 0)) (Code.seq (Code.block 1 (Code.seq (Code.region 4 (reg Try.f36 4) false) (Code.seq (Code.region 5 (reg Try.f36 5) false) (Code.block 2 (Code.loop jH.jT))))) (Code.region 10 (reg Try.f36 10) false))))
noncomputable def jH.code : Code := (Code.seq (Code.region 0 (reg Try.f36 0) false) (Code.seq (Code.region 1 (reg Try.f36 1) false) (Code.seq (Code.seq (Code.region 2 (reg Try.f36 2) false) (Code.block 0 (Code.loop jH.Zb))) (Code.seq (Code.region 11 (reg Try.f36 11) false) Code.ret))))
theorem jH.body : Try.f36.body = some jH.code := by kernel_rfl
theorem jH.eta {T : List Value} (h : T.length = 35) : T = [T.getD 0 undef,T.getD 1 undef,T.getD 2 undef,T.getD 3 undef,T.getD 4 undef,T.getD 5 undef,T.getD 6 undef,T.getD 7 undef,T.getD 8 undef,T.getD 9 undef,T.getD 10 undef,T.getD 11 undef,T.getD 12 undef,T.getD 13 undef,T.getD 14 undef,T.getD 15 undef,T.getD 16 undef,T.getD 17 undef,T.getD 18 undef,T.getD 19 undef,T.getD 20 undef,T.getD 21 undef,T.getD 22 undef,T.getD 23 undef,T.getD 24 undef,T.getD 25 undef,T.getD 26 undef,T.getD 27 undef,T.getD 28 undef,T.getD 29 undef,T.getD 30 undef,T.getD 31 undef,T.getD 32 undef,T.getD 33 undef,T.getD 34 undef] := (qN T 35 h).trans (by kernel_rfl)
variable (C D I J M E K G L H j k d f b l m n g i c o p q r s t u v w x y z A B : Value) (S : zk)
theorem jH.r0  : jE Try.prog ⟨false, false, false⟩ (jf Try.prog O) (reg Try.f36 0) (reg Try.f36 0).toList ([C,D,I,J,M,E,K,G,L,H,j,k,d,f,b,l,m,n,g,i,c,o,p,q,r,s,t,u,v,w,x,y,z,A,B]) S =
  ( some ([C,D,I,J,Value.int IntKind.u64 0,E,K,G,L,H,j,k,d,f,b,l,m,n,g,i,c,o,p,q,r,s,t,u,v,w,x,y,z,A,B], S)) := by
 kernel_rfl
theorem jH.r1  : jE Try.prog ⟨false, false, false⟩ (jf Try.prog O) (reg Try.f36 1) (reg Try.f36 1).toList ([C,D,I,J,M,E,K,G,L,H,j,k,d,f,b,l,m,n,g,i,c,o,p,q,r,s,t,u,v,w,x,y,z,A,B]) S =
  (zM (jS Try.prog BinOp.xor 42 (dem C) (Value.int IntKind.u64 14695981039346656037) S) (fun P F => some ([C,D,I,J,M,P,K,G,L,H,dem C,dem P,d,f,b,l,m,n,g,i,c,o,p,q,r,s,t,u,v,w,x,y,z,A,B], F)) ()) := by
 kernel_rfl
theorem jH.r2  : jE Try.prog ⟨false, false, false⟩ (jf Try.prog O) (reg Try.f36 2) (reg Try.f36 2).toList ([C,D,I,J,M,E,K,G,L,H,j,k,d,f,b,l,m,n,g,i,c,o,p,q,r,s,t,u,v,w,x,y,z,A,B]) S =
  (zM (Zw Try.prog 88 (dem D) S) (fun P F => some ([C,D,I,J,M,E,K,G,L,H,j,k,dem D,P,Value.int IntKind.i64 0,l,m,n,g,i,c,o,p,q,r,s,t,u,v,w,x,y,z,A,B], F)) ()) := by
 kernel_rfl
theorem jH.r3  : jE Try.prog ⟨false, false, false⟩ (jf Try.prog O) (reg Try.f36 3) (reg Try.f36 3).toList ([C,D,I,J,M,E,K,G,L,H,j,k,d,f,b,l,m,n,g,i,c,o,p,q,r,s,t,u,v,w,x,y,z,A,B]) S =
  (zM (jS Try.prog BinOp.lss 3 b f S) (fun N F => some ([C,D,I,J,M,E,K,G,L,H,j,k,d,f,b,N,m,n,g,i,c,o,p,q,r,s,t,u,v,w,x,y,z,A,B], F)) ()) := by
 kernel_rfl
theorem jH.r4  : jE Try.prog ⟨false, false, false⟩ (jf Try.prog O) (reg Try.f36 4) (reg Try.f36 4).toList ([C,D,I,J,M,E,K,G,L,H,j,k,d,f,b,l,m,n,g,i,c,o,p,q,r,s,t,u,v,w,x,y,z,A,B]) S =
  (zM (jP Try.prog 88 d b S) (fun N F => zM (zV Try.prog false 23 N F) (fun P Q => some ([C,D,I,J,M,E,K,P,L,H,j,k,d,f,b,l,N,dem P,g,i,c,o,p,q,r,s,t,u,v,w,x,y,z,A,B], Q)) ()) ()) := by
 kernel_rfl
theorem jH.r5  : jE Try.prog ⟨false, false, false⟩ (jf Try.prog O) (reg Try.f36 5) (reg Try.f36 5).toList ([C,D,I,J,M,E,K,G,L,H,j,k,d,f,b,l,m,n,g,i,c,o,p,q,r,s,t,u,v,w,x,y,z,A,B]) S =
  (zM (Zw Try.prog 23 (dem G) S) (fun P F => some ([C,D,I,J,M,E,K,G,L,H,j,k,d,f,b,l,m,n,dem G,P,Value.int IntKind.i64 0,o,p,q,r,s,t,u,v,w,x,y,z,A,B], F)) ()) := by
 kernel_rfl
theorem jH.r6  : jE Try.prog ⟨false, false, false⟩ (jf Try.prog O) (reg Try.f36 6) (reg Try.f36 6).toList ([C,D,I,J,M,E,K,G,L,H,j,k,d,f,b,l,m,n,g,i,c,o,p,q,r,s,t,u,v,w,x,y,z,A,B]) S =
  (zM (jS Try.prog BinOp.lss 3 c i S) (fun N F => some ([C,D,I,J,M,E,K,G,L,H,j,k,d,f,b,l,m,n,g,i,c,N,p,q,r,s,t,u,v,w,x,y,z,A,B], F)) ()) := by
 kernel_rfl
theorem jH.r7  : jE Try.prog ⟨false, false, false⟩ (jf Try.prog O) (reg Try.f36 7) (reg Try.f36 7).toList ([C,D,I,J,M,E,K,G,L,H,j,k,d,f,b,l,m,n,g,i,c,o,p,q,r,s,t,u,v,w,x,y,z,A,B]) S =
  (zM (jP Try.prog 23 g c S) (fun N F => zM (zV Try.prog false 5 N F) (fun P Q => some ([C,D,I,J,M,E,K,G,L,P,j,k,d,f,b,l,m,n,g,i,c,o,N,dem P,r,s,t,u,v,w,x,y,z,A,B], Q)) ()) ()) := by
 kernel_rfl
theorem jH.r8  : jE Try.prog ⟨false, false, false⟩ (jf Try.prog O) (reg Try.f36 8) (reg Try.f36 8).toList ([C,D,I,J,M,E,K,G,L,H,j,k,d,f,b,l,m,n,g,i,c,o,p,q,r,s,t,u,v,w,x,y,z,A,B]) S =
  (zM (qx Try.prog false false 5 42 (dem H) S) (fun R F => zM (jS Try.prog BinOp.xor 42 (dem E) R F) (fun U Q => zM (jS Try.prog BinOp.mul 42 U (Value.int IntKind.u64 1099511628211) Q) (fun V W => some ([C,D,I,J,M,V,K,G,L,H,j,k,d,f,b,l,m,n,g,i,c,o,p,q,dem E,dem H,R,U,dem V,w,x,y,z,A,B], W)) ()) ()) ()) := by
 kernel_rfl
theorem jH.r9  : jE Try.prog ⟨false, false, false⟩ (jf Try.prog O) (reg Try.f36 9) (reg Try.f36 9).toList ([C,D,I,J,M,E,K,G,L,H,j,k,d,f,b,l,m,n,g,i,c,o,p,q,r,s,t,u,v,w,x,y,z,A,B]) S =
  (zM (jS Try.prog BinOp.add 3 c (Value.int IntKind.i64 1) S) (fun N F => some ([C,D,I,J,M,E,K,G,L,H,j,k,d,f,b,l,m,n,g,i,dem N,o,p,q,r,s,t,u,v,N,x,y,z,A,B], F)) ()) := by
 kernel_rfl
theorem jH.r10  : jE Try.prog ⟨false, false, false⟩ (jf Try.prog O) (reg Try.f36 10) (reg Try.f36 10).toList ([C,D,I,J,M,E,K,G,L,H,j,k,d,f,b,l,m,n,g,i,c,o,p,q,r,s,t,u,v,w,x,y,z,A,B]) S =
  (zM (jS Try.prog BinOp.add 3 b (Value.int IntKind.i64 1) S) (fun N F => some ([C,D,I,J,M,E,K,G,L,H,j,k,d,f,dem N,l,m,n,g,i,c,o,p,q,r,s,t,u,v,w,N,y,z,A,B], F)) ()) := by
 kernel_rfl
theorem jH.r11  : jE Try.prog ⟨false, false, false⟩ (jf Try.prog O) (reg Try.f36 11) (reg Try.f36 11).toList ([C,D,I,J,M,E,K,G,L,H,j,k,d,f,b,l,m,n,g,i,c,o,p,q,r,s,t,u,v,w,x,y,z,A,B]) S =
  (zM (jS Try.prog BinOp.shr 42 (dem E) (Value.int IntKind.u64 29) S) (fun R F => zM (jS Try.prog BinOp.xor 42 (dem E) R F) (fun U Q => some ([C,D,I,J,U,E,K,G,L,H,j,k,d,f,b,l,m,n,g,i,c,o,p,q,r,s,t,u,v,w,x,dem E,dem E,R,dem U], Q)) ()) ()) := by
 kernel_rfl
theorem jH.rs : type_of% (And.intro @jH.r0 (And.intro @jH.r1 (And.intro @jH.r2 (And.intro @jH.r3 (And.intro @jH.r4 (And.intro @jH.r5 (And.intro @jH.r6 (And.intro @jH.r7 (And.intro @jH.r8 (And.intro @jH.r9 (And.intro @jH.r10 (@jH.r11)))))))))))) := And.intro @jH.r0 (And.intro @jH.r1 (And.intro @jH.r2 (And.intro @jH.r3 (And.intro @jH.r4 (And.intro @jH.r5 (And.intro @jH.r6 (And.intro @jH.r7 (And.intro @jH.r8 (And.intro @jH.r9 (And.intro @jH.r10 (@jH.r11)))))))))))
theorem jH.runs {C D : Value} {S F : zk} {e : AEx} {T : List Value} (h : zG Try.prog O false jH.code ([C,D,undef,undef,undef,undef,undef,undef,undef,undef,undef,undef,undef,undef,undef,undef,undef,undef,undef,undef,undef,undef,undef,undef,undef,undef,undef,undef,undef,undef,undef,undef,undef,undef,undef]) S = some (e, T, F)) (he : e = .normal ∨ e = .ret) : jf Try.prog O 36 [C, D] S = some (T.getD 4 undef, F) :=
 yQ rfl rfl Try.func36 (by decide) jH.body (by exact h) he (yg (a := T.getD 4 undef) ((show zO Try.prog T F Try.f36.results.toList = zO Try.prog T F [(ResultVar.tmp 4)] from by kernel_rfl).trans (by simp only [zO])) (by kernel_rfl))
end Go.Proofs.Ytbgcphbbchndkaa
namespace Go.Proofs.Ytbgcphbbchndkaa
open Go.Abs
abbrev wY.id : FuncId := 23
variable (p q r s t u v w x y a b c d f g i j k l m n o : Value) (S : zk)
end Go.Proofs.Ytbgcphbbchndkaa
namespace Go.Proofs.Ytbgcphbbchndkaa
open Go.Abs
abbrev zD.id : FuncId := 22
noncomputable def zD.jT : Code := (Code.seq (Code.seq (Code.region 3 (reg Try.f22 3) false) (Code.cond (Operand.tmp 12) Code.skip (Code.exit 0))) (Code.seq (Code.block 1 (Code.seq (Code.region 5 (reg Try.f22 5) false) (Code.region 6 (reg Try.f22 6) false))) (Code.region 4 (reg Try.f22 4) false)))
noncomputable def zD.code : Code := (Code.seq (Code.region 0 (reg Try.f22 0) false) (Code.seq (Code.region 1 (reg Try.f22 1) false) (Code.seq (Code.seq (Code.region 2 (reg Try.f22 2) false) (Code.block 0 (Code.loop zD.jT))) (Code.seq (Code.region 7 (reg Try.f22 7) false) Code.ret))))
theorem zD.body : Try.f22.body = some zD.code := by kernel_rfl
theorem zD.eta {T : List Value} (h : T.length = 34) : T = [T.getD 0 undef,T.getD 1 undef,T.getD 2 undef,T.getD 3 undef,T.getD 4 undef,T.getD 5 undef,T.getD 6 undef,T.getD 7 undef,T.getD 8 undef,T.getD 9 undef,T.getD 10 undef,T.getD 11 undef,T.getD 12 undef,T.getD 13 undef,T.getD 14 undef,T.getD 15 undef,T.getD 16 undef,T.getD 17 undef,T.getD 18 undef,T.getD 19 undef,T.getD 20 undef,T.getD 21 undef,T.getD 22 undef,T.getD 23 undef,T.getD 24 undef,T.getD 25 undef,T.getD 26 undef,T.getD 27 undef,T.getD 28 undef,T.getD 29 undef,T.getD 30 undef,T.getD 31 undef,T.getD 32 undef,T.getD 33 undef] := (qN T 34 h).trans (by kernel_rfl)
variable (D c F G L b E I J K d f g i j k l m n o p q r s t u v w x y z A B C : Value) (S : zk)
theorem zD.r0  : jE Try.prog ⟨false, false, false⟩ (jf Try.prog O) (reg Try.f22 0) (reg Try.f22 0).toList ([D,c,F,G,L,b,E,I,J,K,d,f,g,i,j,k,l,m,n,o,p,q,r,s,t,u,v,w,x,y,z,A,B,C]) S =
  ( some ([D,c,F,G,Value.int IntKind.u64 0,b,E,I,J,K,d,f,g,i,j,k,l,m,n,o,p,q,r,s,t,u,v,w,x,y,z,A,B,C], S)) := by
 kernel_rfl
theorem zD.r1  : jE Try.prog ⟨false, false, false⟩ (jf Try.prog O) (reg Try.f22 1) (reg Try.f22 1).toList ([D,c,F,G,L,b,E,I,J,K,d,f,g,i,j,k,l,m,n,o,p,q,r,s,t,u,v,w,x,y,z,A,B,C]) S =
  (zM (jS Try.prog BinOp.xor 42 (dem D) (Value.int IntKind.u64 14695981039346656037) S) (fun N H => some ([D,c,F,G,L,N,E,dem D,dem N,K,d,f,g,i,j,k,l,m,n,o,p,q,r,s,t,u,v,w,x,y,z,A,B,C], H)) ()) := by
 kernel_rfl
theorem zD.r2  : jE Try.prog ⟨false, false, false⟩ (jf Try.prog O) (reg Try.f22 2) (reg Try.f22 2).toList ([D,c,F,G,L,b,E,I,J,K,d,f,g,i,j,k,l,m,n,o,p,q,r,s,t,u,v,w,x,y,z,A,B,C]) S =
  ( some ([D,c,F,G,L,b,Value.int IntKind.i64 0,I,J,K,d,f,g,i,j,k,l,m,n,o,p,q,r,s,t,u,v,w,x,y,z,A,B,C], S)) := by
 kernel_rfl
theorem zD.r3  : jE Try.prog ⟨false, false, false⟩ (jf Try.prog O) (reg Try.f22 3) (reg Try.f22 3).toList ([D,c,F,G,L,b,E,I,J,K,d,f,g,i,j,k,l,m,n,o,p,q,r,s,t,u,v,w,x,y,z,A,B,C]) S =
  (zM (Zw Try.prog 23 (dem c) S) (fun Q H => zM (jS Try.prog BinOp.lss 3 (dem E) Q H) (fun M P => some ([D,c,F,G,L,b,E,I,J,dem E,dem c,Q,M,i,j,k,l,m,n,o,p,q,r,s,t,u,v,w,x,y,z,A,B,C], P)) ()) ()) := by
 kernel_rfl
theorem zD.r5  : jE Try.prog ⟨false, false, false⟩ (jf Try.prog O) (reg Try.f22 5) (reg Try.f22 5).toList ([D,c,F,G,L,b,E,I,J,K,d,f,g,i,j,k,l,m,n,o,p,q,r,s,t,u,v,w,x,y,z,A,B,C]) S =
  (zM (jP Try.prog 23 (dem c) (dem E) S) (fun M H => zM (zV Try.prog false 5 M H) (fun R P => zM (qx Try.prog false false 5 42 R P) (fun X V => zM (jS Try.prog BinOp.xor 42 (dem b) X V) (fun U W => some ([D,c,F,G,L,U,E,I,J,K,d,f,g,i,j,dem b,dem c,dem E,M,R,X,dem U,r,s,t,u,v,w,x,y,z,A,B,C], W)) ()) ()) ()) ()) := by
 kernel_rfl
theorem zD.r6  : jE Try.prog ⟨false, false, false⟩ (jf Try.prog O) (reg Try.f22 6) (reg Try.f22 6).toList ([D,c,F,G,L,b,E,I,J,K,d,f,g,i,j,k,l,m,n,o,p,q,r,s,t,u,v,w,x,y,z,A,B,C]) S =
  (zM (jS Try.prog BinOp.shl 42 (dem b) (Value.int IntKind.u64 40) S) (fun N H => zM (jS Try.prog BinOp.shl 42 (dem b) (Value.int IntKind.u64 8) H) (fun M P => zM (jS Try.prog BinOp.add 42 N M P) (fun R V => zM (jS Try.prog BinOp.mul 42 (dem b) (Value.int IntKind.u64 179) V) (fun U W => zM (jS Try.prog BinOp.add 42 R U W) (fun Y Z => some ([D,c,F,G,L,Y,E,I,J,K,d,f,g,i,j,k,l,m,n,o,p,q,dem b,N,dem b,M,R,dem b,U,dem Y,z,A,B,C], Z)) ()) ()) ()) ()) ()) := by
 kernel_rfl
theorem zD.r4  : jE Try.prog ⟨false, false, false⟩ (jf Try.prog O) (reg Try.f22 4) (reg Try.f22 4).toList ([D,c,F,G,L,b,E,I,J,K,d,f,g,i,j,k,l,m,n,o,p,q,r,s,t,u,v,w,x,y,z,A,B,C]) S =
  (zM (jS Try.prog BinOp.add 3 (dem E) (Value.int IntKind.i64 1) S) (fun N H => some ([D,c,F,G,L,b,N,I,J,K,d,f,g,dem E,dem N,k,l,m,n,o,p,q,r,s,t,u,v,w,x,y,z,A,B,C], H)) ()) := by
 kernel_rfl
theorem zD.r7  : jE Try.prog ⟨false, false, false⟩ (jf Try.prog O) (reg Try.f22 7) (reg Try.f22 7).toList ([D,c,F,G,L,b,E,I,J,K,d,f,g,i,j,k,l,m,n,o,p,q,r,s,t,u,v,w,x,y,z,A,B,C]) S =
  (zM (jS Try.prog BinOp.quo 42 (dem b) (Value.int IntKind.u64 536870912) S) (fun Q H => zM (jS Try.prog BinOp.xor 42 (dem b) Q H) (fun M P => some ([D,c,F,G,M,b,E,I,J,K,d,f,g,i,j,k,l,m,n,o,p,q,r,s,t,u,v,w,x,y,dem b,dem b,Q,dem M], P)) ()) ()) := by
 kernel_rfl
theorem zD.rs : type_of% (And.intro @zD.r0 (And.intro @zD.r1 (And.intro @zD.r2 (And.intro @zD.r3 (And.intro @zD.r5 (And.intro @zD.r6 (And.intro @zD.r4 (@zD.r7)))))))) := And.intro @zD.r0 (And.intro @zD.r1 (And.intro @zD.r2 (And.intro @zD.r3 (And.intro @zD.r5 (And.intro @zD.r6 (And.intro @zD.r4 (@zD.r7)))))))
theorem zD.runs {D c : Value} {S H : zk} {e : AEx} {T : List Value} (h : zG Try.prog O false zD.code ([D,c,undef,undef,undef,undef,undef,undef,undef,undef,undef,undef,undef,undef,undef,undef,undef,undef,undef,undef,undef,undef,undef,undef,undef,undef,undef,undef,undef,undef,undef,undef,undef,undef]) S = some (e, T, H)) (he : e = .normal ∨ e = .ret) : jf Try.prog O 22 [D, c] S = some (T.getD 4 undef, H) :=
 yQ rfl rfl Try.func22 (by decide) zD.body (by exact h) he (yg (a := T.getD 4 undef) ((show zO Try.prog T H Try.f22.results.toList = zO Try.prog T H [(ResultVar.tmp 4)] from by kernel_rfl).trans (by simp only [zO])) (by kernel_rfl))
end Go.Proofs.Ytbgcphbbchndkaa
namespace Go.Proofs.Ytbgcphbbchndkaa
open Go.Abs
abbrev zZ.id : FuncId := 32
noncomputable def zZ.jT : Code := (Code.seq (Code.region 5 (reg Try.f32 5) false) (Code.seq (Code.cond (Operand.tmp 13) Code.skip (Code.exit 0)) (Code.seq (Code.block 1 (Code.seq (Code.region 6 (reg Try.f32 6) false) (Code.seq (Code.seq (Code.region 7 (reg Try.f32 7) false) (Code.cond (Operand.tmp 17) (Code.seq (Code.region 8 (reg Try.f32 8) false) Code.ret) Code.skip)) (Code.region 9 (reg Try.f32 9) false)))) (Code.region 10 (reg Try.f32 10) false))))
noncomputable def zZ.code : Code := (Code.seq (Code.region 0 (reg Try.f32 0) false) (Code.seq (Code.seq (Code.region 1 (reg Try.f32 1) false) (Code.cond (Operand.tmp 9) (Code.seq (Code.region 2 (reg Try.f32 2) false) Code.ret) Code.skip)) (Code.seq (Code.region 3 (reg Try.f32 3) false) (Code.seq (Code.seq (Code.region 4 (reg Try.f32 4) false) (Code.block 0 (Code.loop zZ.jT))) (Code.seq (Code.region 11 (reg Try.f32 11) false) Code.ret)))))
theorem zZ.body : Try.f32.body = some zZ.code := by kernel_rfl
theorem zZ.eta {T : List Value} (h : T.length = 26) : T = [T.getD 0 undef,T.getD 1 undef,T.getD 2 undef,T.getD 3 undef,T.getD 4 undef,T.getD 5 undef,T.getD 6 undef,T.getD 7 undef,T.getD 8 undef,T.getD 9 undef,T.getD 10 undef,T.getD 11 undef,T.getD 12 undef,T.getD 13 undef,T.getD 14 undef,T.getD 15 undef,T.getD 16 undef,T.getD 17 undef,T.getD 18 undef,T.getD 19 undef,T.getD 20 undef,T.getD 21 undef,T.getD 22 undef,T.getD 23 undef,T.getD 24 undef,T.getD 25 undef] := (qN T 26 h).trans (by kernel_rfl)
variable (s v A B u w t x y z b c a d f g i j k l m n o p q r : Value) (S : zk)
theorem zZ.r0  : jE Try.prog ⟨false, false, false⟩ (jf Try.prog O) (reg Try.f32 0) (reg Try.f32 0).toList ([s,v,A,B,u,w,t,x,y,z,b,c,a,d,f,g,i,j,k,l,m,n,o,p,q,r]) S =
  ( some ([s,v,Value.slice none 0 0,Value.int IntKind.i64 0,u,w,t,x,y,z,b,c,a,d,f,g,i,j,k,l,m,n,o,p,q,r], S)) := by
 kernel_rfl
theorem zZ.r1  : jE Try.prog ⟨false, false, false⟩ (jf Try.prog O) (reg Try.f32 1) (reg Try.f32 1).toList ([s,v,A,B,u,w,t,x,y,z,b,c,a,d,f,g,i,j,k,l,m,n,o,p,q,r]) S =
  (zM (Zw Try.prog 57 (dem s) S) (fun D C => zM (jS Try.prog BinOp.gtr 3 D (Value.int IntKind.i64 64) C) (fun G F => some ([s,v,A,B,u,w,t,dem s,D,G,b,c,a,d,f,g,i,j,k,l,m,n,o,p,q,r], F)) ()) ()) := by
 kernel_rfl
theorem zZ.r2  : jE Try.prog ⟨false, false, false⟩ (jf Try.prog O) (reg Try.f32 2) (reg Try.f32 2).toList ([s,v,A,B,u,w,t,x,y,z,b,c,a,d,f,g,i,j,k,l,m,n,o,p,q,r]) S =
  ( some ([s,v,Value.slice none 0 0,Value.int IntKind.i64 11,u,w,t,x,y,z,b,c,a,d,f,g,i,j,k,l,m,n,o,p,q,r], S)) := by
 kernel_rfl
theorem zZ.r3  : jE Try.prog ⟨false, false, false⟩ (jf Try.prog O) (reg Try.f32 3) (reg Try.f32 3).toList ([s,v,A,B,u,w,t,x,y,z,b,c,a,d,f,g,i,j,k,l,m,n,o,p,q,r]) S =
  ( some ([s,v,A,B,Value.slice none 0 0,w,t,x,y,z,b,c,a,d,f,g,i,j,k,l,m,n,o,p,q,r], S)) := by
 kernel_rfl
theorem zZ.r4  : jE Try.prog ⟨false, false, false⟩ (jf Try.prog O) (reg Try.f32 4) (reg Try.f32 4).toList ([s,v,A,B,u,w,t,x,y,z,b,c,a,d,f,g,i,j,k,l,m,n,o,p,q,r]) S =
  (zM (Zw Try.prog 57 (dem s) S) (fun D C => some ([s,v,A,B,u,w,t,x,y,z,dem s,D,Value.int IntKind.i64 0,d,f,g,i,j,k,l,m,n,o,p,q,r], C)) ()) := by
 kernel_rfl
theorem zZ.r5  : jE Try.prog ⟨false, false, false⟩ (jf Try.prog O) (reg Try.f32 5) (reg Try.f32 5).toList ([s,v,A,B,u,w,t,x,y,z,b,c,a,d,f,g,i,j,k,l,m,n,o,p,q,r]) S =
  (zM (jS Try.prog BinOp.lss 3 a c S) (fun E C => some ([s,v,A,B,u,w,t,x,y,z,b,c,a,E,f,g,i,j,k,l,m,n,o,p,q,r], C)) ()) := by
 kernel_rfl
theorem zZ.r6  : jE Try.prog ⟨false, false, false⟩ (jf Try.prog O) (reg Try.f32 6) (reg Try.f32 6).toList ([s,v,A,B,u,w,t,x,y,z,b,c,a,d,f,g,i,j,k,l,m,n,o,p,q,r]) S =
  (zM (jP Try.prog 57 b a S) (fun E C => zM (zV Try.prog false 3 E C) (fun D F => some ([s,v,A,B,u,w,D,x,y,z,b,c,a,d,E,dem D,i,j,k,l,m,n,o,p,q,r], F)) ()) ()) := by
 kernel_rfl
theorem zZ.r7  : jE Try.prog ⟨false, false, false⟩ (jf Try.prog O) (reg Try.f32 7) (reg Try.f32 7).toList ([s,v,A,B,u,w,t,x,y,z,b,c,a,d,f,g,i,j,k,l,m,n,o,p,q,r]) S =
  (zM (jS Try.prog BinOp.lss 3 (dem t) (Value.int IntKind.i64 (-1)) S) (fun D C => some ([s,v,A,B,u,w,t,x,y,z,b,c,a,d,f,g,dem t,D,k,l,m,n,o,p,q,r], C)) ()) := by
 kernel_rfl
theorem zZ.r8  : jE Try.prog ⟨false, false, false⟩ (jf Try.prog O) (reg Try.f32 8) (reg Try.f32 8).toList ([s,v,A,B,u,w,t,x,y,z,b,c,a,d,f,g,i,j,k,l,m,n,o,p,q,r]) S =
  ( some ([s,v,Value.slice none 0 0,Value.int IntKind.i64 11,u,w,t,x,y,z,b,c,a,d,f,g,i,j,k,l,m,n,o,p,q,r], S)) := by
 kernel_rfl
theorem zZ.r9  : jE Try.prog ⟨false, false, false⟩ (jf Try.prog O) (reg Try.f32 9) (reg Try.f32 9).toList ([s,v,A,B,u,w,t,x,y,z,b,c,a,d,f,g,i,j,k,l,m,n,o,p,q,r]) S =
  (zM (qx Try.prog false false 3 42 (dem t) S) (fun G C => zM (jS Try.prog BinOp.add 42 G (Value.int IntKind.u64 1) C) (fun H F => zM ((jf Try.prog O) 35 [(dem H)] F) (fun I K => zM (wU Try.prog 23 23 u I K) (fun J L => some ([s,v,A,B,J,w,t,x,y,z,b,c,a,d,f,g,i,j,dem u,dem t,G,H,I,dem J,q,r], L)) ()) ()) ()) ()) := by
 kernel_rfl
theorem zZ.r10  : jE Try.prog ⟨false, false, false⟩ (jf Try.prog O) (reg Try.f32 10) (reg Try.f32 10).toList ([s,v,A,B,u,w,t,x,y,z,b,c,a,d,f,g,i,j,k,l,m,n,o,p,q,r]) S =
  (zM (jS Try.prog BinOp.add 3 a (Value.int IntKind.i64 1) S) (fun E C => some ([s,v,A,B,u,w,t,x,y,z,b,c,dem E,d,f,g,i,j,k,l,m,n,o,p,E,r], C)) ()) := by
 kernel_rfl
theorem zZ.r11  : jE Try.prog ⟨false, false, false⟩ (jf Try.prog O) (reg Try.f32 11) (reg Try.f32 11).toList ([s,v,A,B,u,w,t,x,y,z,b,c,a,d,f,g,i,j,k,l,m,n,o,p,q,r]) S =
  ( some ([s,v,u,Value.int IntKind.i64 0,dem u,w,t,x,y,z,b,c,a,d,f,g,i,j,k,l,m,n,o,p,q,dem u], S)) := by
 kernel_rfl
theorem zZ.rs : type_of% (And.intro @zZ.r0 (And.intro @zZ.r1 (And.intro @zZ.r2 (And.intro @zZ.r3 (And.intro @zZ.r4 (And.intro @zZ.r5 (And.intro @zZ.r6 (And.intro @zZ.r7 (And.intro @zZ.r8 (And.intro @zZ.r9 (And.intro @zZ.r10 (@zZ.r11)))))))))))) := And.intro @zZ.r0 (And.intro @zZ.r1 (And.intro @zZ.r2 (And.intro @zZ.r3 (And.intro @zZ.r4 (And.intro @zZ.r5 (And.intro @zZ.r6 (And.intro @zZ.r7 (And.intro @zZ.r8 (And.intro @zZ.r9 (And.intro @zZ.r10 (@zZ.r11)))))))))))
theorem zZ.runs {s : Value} {S C : zk} {e : AEx} {T : List Value} (h : zG Try.prog O false zZ.code ([s,undef,undef,undef,undef,undef,undef,undef,undef,undef,undef,undef,undef,undef,undef,undef,undef,undef,undef,undef,undef,undef,undef,undef,undef,undef]) S = some (e, T, C)) (he : e = .normal ∨ e = .ret)  (h0 : wI (T.getD 2 undef) = true) (h1 : wI (T.getD 3 undef) = true) : jf Try.prog O 32 [s] S = some (Value.tuple #[T.getD 2 undef, T.getD 3 undef], C) :=
 yQ rfl rfl Try.func32 (by decide) zZ.body (by exact h) he ((qM ((show zO Try.prog T C Try.f32.results.toList = zO Try.prog T C [(ResultVar.tmp 2), (ResultVar.tmp 3)] from by kernel_rfl).trans (by simp only [zO])) (by kernel_rfl) (by simp only [List.all_cons, List.all_nil, h0, h1, Bool.and_true])).trans rfl)
end Go.Proofs.Ytbgcphbbchndkaa
namespace Go.Proofs.Ytbgcphbbchndkaa
open Go.Abs
abbrev zu.id : FuncId := 42
noncomputable def zu.jT : Code := (Code.seq (Code.region 5 (reg Try.f42 5) false) (Code.seq (Code.cond (Operand.tmp 14) Code.skip (Code.exit 0)) (Code.seq (Code.block 1 (Code.seq (Code.region 6 (reg Try.f42 6) false) (Code.seq (Code.seq (Code.region 7 (reg Try.f42 7) false) (Code.cond (Operand.tmp 18) (Code.seq (Code.region 8 (reg Try.f42 8) false) Code.ret) Code.skip)) (Code.region 9 (reg Try.f42 9) false)))) (Code.region 10 (reg Try.f42 10) false))))
noncomputable def zu.code : Code := (Code.seq (Code.region 0 (reg Try.f42 0) false) (Code.seq (Code.seq (Code.region 1 (reg Try.f42 1) false) (Code.cond (Operand.tmp 9) (Code.seq (Code.region 2 (reg Try.f42 2) false) Code.ret) Code.skip)) (Code.seq (Code.region 3 (reg Try.f42 3) false) (Code.seq (Code.seq (Code.region 4 (reg Try.f42 4) false) (Code.block 0 (Code.loop zu.jT))) (Code.seq (Code.region 11 (reg Try.f42 11) false) Code.ret)))))
theorem zu.body : Try.f42.body = some zu.code := by kernel_rfl
theorem zu.eta {T : List Value} (h : T.length = 27) : T = [T.getD 0 undef,T.getD 1 undef,T.getD 2 undef,T.getD 3 undef,T.getD 4 undef,T.getD 5 undef,T.getD 6 undef,T.getD 7 undef,T.getD 8 undef,T.getD 9 undef,T.getD 10 undef,T.getD 11 undef,T.getD 12 undef,T.getD 13 undef,T.getD 14 undef,T.getD 15 undef,T.getD 16 undef,T.getD 17 undef,T.getD 18 undef,T.getD 19 undef,T.getD 20 undef,T.getD 21 undef,T.getD 22 undef,T.getD 23 undef,T.getD 24 undef,T.getD 25 undef,T.getD 26 undef] := (qN T 27 h).trans (by kernel_rfl)
variable (t w B C v x u y z A d b c a f g i j k l m n o p q r s : Value) (S : zk)
theorem zu.r0  : jE Try.prog ⟨false, false, false⟩ (jf Try.prog O) (reg Try.f42 0) (reg Try.f42 0).toList ([t,w,B,C,v,x,u,y,z,A,d,b,c,a,f,g,i,j,k,l,m,n,o,p,q,r,s]) S =
  ( some ([t,w,Value.slice none 0 0,Value.int IntKind.i64 0,v,x,u,y,z,A,d,b,c,a,f,g,i,j,k,l,m,n,o,p,q,r,s], S)) := by
 kernel_rfl
theorem zu.r1  : jE Try.prog ⟨false, false, false⟩ (jf Try.prog O) (reg Try.f42 1) (reg Try.f42 1).toList ([t,w,B,C,v,x,u,y,z,A,d,b,c,a,f,g,i,j,k,l,m,n,o,p,q,r,s]) S =
  (zM (Zw Try.prog 57 (dem t) S) (fun F D => zM (jS Try.prog BinOp.gtr 3 F (Value.int IntKind.i64 64) D) (fun H G => some ([t,w,B,C,v,x,u,dem t,F,H,d,b,c,a,f,g,i,j,k,l,m,n,o,p,q,r,s], G)) ()) ()) := by
 kernel_rfl
theorem zu.r2  : jE Try.prog ⟨false, false, false⟩ (jf Try.prog O) (reg Try.f42 2) (reg Try.f42 2).toList ([t,w,B,C,v,x,u,y,z,A,d,b,c,a,f,g,i,j,k,l,m,n,o,p,q,r,s]) S =
  ( some ([t,w,Value.slice none 0 0,Value.int IntKind.i64 11,v,x,u,y,z,A,d,b,c,a,f,g,i,j,k,l,m,n,o,p,q,r,s], S)) := by
 kernel_rfl
theorem zu.r3  : jE Try.prog ⟨false, false, false⟩ (jf Try.prog O) (reg Try.f42 3) (reg Try.f42 3).toList ([t,w,B,C,v,x,u,y,z,A,d,b,c,a,f,g,i,j,k,l,m,n,o,p,q,r,s]) S =
  (zM (jJ Try.prog 23 0 [] S) (fun E D => some ([t,w,B,C,E,x,u,y,z,A,dem E,b,c,a,f,g,i,j,k,l,m,n,o,p,q,r,s], D)) ()) := by
 kernel_rfl
theorem zu.r4  : jE Try.prog ⟨false, false, false⟩ (jf Try.prog O) (reg Try.f42 4) (reg Try.f42 4).toList ([t,w,B,C,v,x,u,y,z,A,d,b,c,a,f,g,i,j,k,l,m,n,o,p,q,r,s]) S =
  (zM (Zw Try.prog 57 (dem t) S) (fun F D => some ([t,w,B,C,v,x,u,y,z,A,d,dem t,F,Value.int IntKind.i64 0,f,g,i,j,k,l,m,n,o,p,q,r,s], D)) ()) := by
 kernel_rfl
theorem zu.r5  : jE Try.prog ⟨false, false, false⟩ (jf Try.prog O) (reg Try.f42 5) (reg Try.f42 5).toList ([t,w,B,C,v,x,u,y,z,A,d,b,c,a,f,g,i,j,k,l,m,n,o,p,q,r,s]) S =
  (zM (jS Try.prog BinOp.lss 3 a c S) (fun E D => some ([t,w,B,C,v,x,u,y,z,A,d,b,c,a,E,g,i,j,k,l,m,n,o,p,q,r,s], D)) ()) := by
 kernel_rfl
theorem zu.r6  : jE Try.prog ⟨false, false, false⟩ (jf Try.prog O) (reg Try.f42 6) (reg Try.f42 6).toList ([t,w,B,C,v,x,u,y,z,A,d,b,c,a,f,g,i,j,k,l,m,n,o,p,q,r,s]) S =
  (zM (jP Try.prog 57 b a S) (fun E D => zM (zV Try.prog false 3 E D) (fun F G => some ([t,w,B,C,v,x,F,y,z,A,d,b,c,a,f,E,dem F,j,k,l,m,n,o,p,q,r,s], G)) ()) ()) := by
 kernel_rfl
theorem zu.r7  : jE Try.prog ⟨false, false, false⟩ (jf Try.prog O) (reg Try.f42 7) (reg Try.f42 7).toList ([t,w,B,C,v,x,u,y,z,A,d,b,c,a,f,g,i,j,k,l,m,n,o,p,q,r,s]) S =
  (zM (jS Try.prog BinOp.lss 3 (dem u) (Value.int IntKind.i64 (-1)) S) (fun F D => some ([t,w,B,C,v,x,u,y,z,A,d,b,c,a,f,g,i,dem u,F,l,m,n,o,p,q,r,s], D)) ()) := by
 kernel_rfl
theorem zu.r8  : jE Try.prog ⟨false, false, false⟩ (jf Try.prog O) (reg Try.f42 8) (reg Try.f42 8).toList ([t,w,B,C,v,x,u,y,z,A,d,b,c,a,f,g,i,j,k,l,m,n,o,p,q,r,s]) S =
  ( some ([t,w,Value.slice none 0 0,Value.int IntKind.i64 11,v,x,u,y,z,A,d,b,c,a,f,g,i,j,k,l,m,n,o,p,q,r,s], S)) := by
 kernel_rfl
theorem zu.r9  : jE Try.prog ⟨false, false, false⟩ (jf Try.prog O) (reg Try.f42 9) (reg Try.f42 9).toList ([t,w,B,C,v,x,u,y,z,A,d,b,c,a,f,g,i,j,k,l,m,n,o,p,q,r,s]) S =
  (zM (qx Try.prog false false 3 42 (dem u) S) (fun H D => zM (jS Try.prog BinOp.add 42 H (Value.int IntKind.u64 1) D) (fun I G => zM ((jf Try.prog O) 17 [(dem I)] G) (fun J L => zM (wU Try.prog 23 23 v J L) (fun K M => some ([t,w,B,C,K,x,u,y,z,A,d,b,c,a,f,g,i,j,k,dem v,dem u,H,I,J,dem K,r,s], M)) ()) ()) ()) ()) := by
 kernel_rfl
theorem zu.r10  : jE Try.prog ⟨false, false, false⟩ (jf Try.prog O) (reg Try.f42 10) (reg Try.f42 10).toList ([t,w,B,C,v,x,u,y,z,A,d,b,c,a,f,g,i,j,k,l,m,n,o,p,q,r,s]) S =
  (zM (jS Try.prog BinOp.add 3 a (Value.int IntKind.i64 1) S) (fun E D => some ([t,w,B,C,v,x,u,y,z,A,d,b,c,dem E,f,g,i,j,k,l,m,n,o,p,q,E,s], D)) ()) := by
 kernel_rfl
theorem zu.r11  : jE Try.prog ⟨false, false, false⟩ (jf Try.prog O) (reg Try.f42 11) (reg Try.f42 11).toList ([t,w,B,C,v,x,u,y,z,A,d,b,c,a,f,g,i,j,k,l,m,n,o,p,q,r,s]) S =
  ( some ([t,w,v,Value.int IntKind.i64 0,dem v,x,u,y,z,A,d,b,c,a,f,g,i,j,k,l,m,n,o,p,q,r,dem v], S)) := by
 kernel_rfl
theorem zu.rs : type_of% (And.intro @zu.r0 (And.intro @zu.r1 (And.intro @zu.r2 (And.intro @zu.r3 (And.intro @zu.r4 (And.intro @zu.r5 (And.intro @zu.r6 (And.intro @zu.r7 (And.intro @zu.r8 (And.intro @zu.r9 (And.intro @zu.r10 (@zu.r11)))))))))))) := And.intro @zu.r0 (And.intro @zu.r1 (And.intro @zu.r2 (And.intro @zu.r3 (And.intro @zu.r4 (And.intro @zu.r5 (And.intro @zu.r6 (And.intro @zu.r7 (And.intro @zu.r8 (And.intro @zu.r9 (And.intro @zu.r10 (@zu.r11)))))))))))
theorem zu.runs {t : Value} {S D : zk} {e : AEx} {T : List Value} (h : zG Try.prog O false zu.code ([t,undef,undef,undef,undef,undef,undef,undef,undef,undef,undef,undef,undef,undef,undef,undef,undef,undef,undef,undef,undef,undef,undef,undef,undef,undef,undef]) S = some (e, T, D)) (he : e = .normal ∨ e = .ret)  (h0 : wI (T.getD 2 undef) = true) (h1 : wI (T.getD 3 undef) = true) : jf Try.prog O 42 [t] S = some (Value.tuple #[T.getD 2 undef, T.getD 3 undef], D) :=
 yQ rfl rfl Try.func42 (by decide) zu.body (by exact h) he ((qM ((show zO Try.prog T D Try.f42.results.toList = zO Try.prog T D [(ResultVar.tmp 2), (ResultVar.tmp 3)] from by kernel_rfl).trans (by simp only [zO])) (by kernel_rfl) (by simp only [List.all_cons, List.all_nil, h0, h1, Bool.and_true])).trans rfl)
end Go.Proofs.Ytbgcphbbchndkaa
namespace Go.Proofs.Ytbgcphbbchndkaa
open Go.Abs
abbrev jX.id : FuncId := 35
noncomputable def jX.jT : Code := (Code.seq (Code.seq (Code.region 2 (reg Try.f35 2) false) (Code.cond (Operand.tmp 5) Code.skip (Code.exit 0))) (Code.block 1 (Code.seq (Code.region 3 (reg Try.f35 3) false) (Code.region 4 (reg Try.f35 4) false))))
noncomputable def jX.code : Code := (Code.seq (Code.region 0 (reg Try.f35 0) false) (Code.seq (Code.region 1 (reg Try.f35 1) false) (Code.seq (Code.block 0 (Code.loop jX.jT)) (Code.seq (Code.region 5 (reg Try.f35 5) false) Code.ret))))
theorem jX.body : Try.f35.body = some jX.code := by kernel_rfl
theorem jX.eta {T : List Value} (h : T.length = 19) : T = [T.getD 0 undef,T.getD 1 undef,T.getD 2 undef,T.getD 3 undef,T.getD 4 undef,T.getD 5 undef,T.getD 6 undef,T.getD 7 undef,T.getD 8 undef,T.getD 9 undef,T.getD 10 undef,T.getD 11 undef,T.getD 12 undef,T.getD 13 undef,T.getD 14 undef,T.getD 15 undef,T.getD 16 undef,T.getD 17 undef,T.getD 18 undef] := (qN T 19 h).trans (by kernel_rfl)
theorem jX.list {T : List Value} (h : T.length = 19) : ∃ b o v n p q r s t u c d f g i j k l m, T = [b,o,v,n,p,q,r,s,t,u,c,d,f,g,i,j,k,l,m] := ⟨_, _, _, _, _, _, _, _, _, _, _, _, _, _, _, _, _, _, _, jX.eta h⟩
variable (b o v n p q r s t u c d f g i j k l m : Value) (S : zk)
theorem jX.r0  : jE Try.prog ⟨false, false, false⟩ (jf Try.prog O) (reg Try.f35 0) (reg Try.f35 0).toList ([b,o,v,n,p,q,r,s,t,u,c,d,f,g,i,j,k,l,m]) S =
  ( some ([b,o,Value.slice none 0 0,n,p,q,r,s,t,u,c,d,f,g,i,j,k,l,m], S)) := by
 kernel_rfl
theorem jX.r1  : jE Try.prog ⟨false, false, false⟩ (jf Try.prog O) (reg Try.f35 1) (reg Try.f35 1).toList ([b,o,v,n,p,q,r,s,t,u,c,d,f,g,i,j,k,l,m]) S =
  ( some ([b,o,v,Value.slice none 0 0,p,q,r,s,t,u,c,d,f,g,i,j,k,l,m], S)) := by
 kernel_rfl
theorem jX.r2  : jE Try.prog ⟨false, false, false⟩ (jf Try.prog O) (reg Try.f35 2) (reg Try.f35 2).toList ([b,o,v,n,p,q,r,s,t,u,c,d,f,g,i,j,k,l,m]) S =
  (zM (jS Try.prog BinOp.geq 42 (dem b) (Value.int IntKind.u64 128) S) (fun A w => some ([b,o,v,n,dem b,A,r,s,t,u,c,d,f,g,i,j,k,l,m], w)) ()) := by
 kernel_rfl
theorem jX.r3  : jE Try.prog ⟨false, false, false⟩ (jf Try.prog O) (reg Try.f35 3) (reg Try.f35 3).toList ([b,o,v,n,p,q,r,s,t,u,c,d,f,g,i,j,k,l,m]) S =
  (zM (qx Try.prog false false 42 5 (dem b) S) (fun x w => zM (jS Try.prog BinOp.or 5 x (Value.int IntKind.u8 128) w) (fun y B => zM (jJ Try.prog 23 1 [(0, y)] B) (fun z C => zM (wU Try.prog 23 23 n z C) (fun D E => some ([b,o,v,D,p,q,dem n,dem b,x,y,z,dem D,f,g,i,j,k,l,m], E)) ()) ()) ()) ()) := by
 kernel_rfl
theorem jX.r4  : jE Try.prog ⟨false, false, false⟩ (jf Try.prog O) (reg Try.f35 4) (reg Try.f35 4).toList ([b,o,v,n,p,q,r,s,t,u,c,d,f,g,i,j,k,l,m]) S =
  (zM (jS Try.prog BinOp.shr 42 (dem b) (Value.int IntKind.u64 7) S) (fun A w => some ([A,o,v,n,p,q,r,s,t,u,c,d,dem b,dem A,i,j,k,l,m], w)) ()) := by
 kernel_rfl
theorem jX.r5  : jE Try.prog ⟨false, false, false⟩ (jf Try.prog O) (reg Try.f35 5) (reg Try.f35 5).toList ([b,o,v,n,p,q,r,s,t,u,c,d,f,g,i,j,k,l,m]) S =
  (zM (qx Try.prog false false 42 5 (dem b) S) (fun x w => zM (jJ Try.prog 23 1 [(0, x)] w) (fun y B => zM (wU Try.prog 23 23 n y B) (fun z C => some ([b,o,z,dem n,p,q,r,s,t,u,c,d,f,g,dem n,dem b,x,y,dem z], C)) ()) ()) ()) := by
 kernel_rfl
theorem jX.runs {b : Value} {S w : zk} {e : AEx} {T : List Value} (h : zG Try.prog O false jX.code ([b,undef,undef,undef,undef,undef,undef,undef,undef,undef,undef,undef,undef,undef,undef,undef,undef,undef,undef]) S = some (e, T, w)) (he : e = .normal ∨ e = .ret) : jf Try.prog O 35 [b] S = some (T.getD 2 undef, w) :=
 yQ rfl rfl Try.func35 (by decide) jX.body (by exact h) he (yg (a := T.getD 2 undef) ((show zO Try.prog T w Try.f35.results.toList = zO Try.prog T w [(ResultVar.tmp 2)] from by kernel_rfl).trans (by simp only [zO])) (by kernel_rfl))
end Go.Proofs.Ytbgcphbbchndkaa
namespace Go.Proofs.Ytbgcphbbchndkaa
open Go.Abs
abbrev zU.id : FuncId := 17
noncomputable def zU.jT : Code := (Code.block 1 (Code.seq (Code.region 2 (reg Try.f17 2) false) (Code.seq (Code.region 3 (reg Try.f17 3) false) (Code.seq (Code.seq (Code.region 4 (reg Try.f17 4) false) (Code.cond (Operand.tmp 12) (Code.seq (Code.region 5 (reg Try.f17 5) false) Code.ret) Code.skip)) (Code.region 6 (reg Try.f17 6) false)))))
noncomputable def zU.code : Code := (Code.seq (Code.region 0 (reg Try.f17 0) false) (Code.seq (Code.region 1 (reg Try.f17 1) false) (Code.block 0 (Code.loop zU.jT))))
theorem zU.body : Try.f17.body = some zU.code := by kernel_rfl
theorem zU.eta {T : List Value} (h : T.length = 22) : T = [T.getD 0 undef,T.getD 1 undef,T.getD 2 undef,T.getD 3 undef,T.getD 4 undef,T.getD 5 undef,T.getD 6 undef,T.getD 7 undef,T.getD 8 undef,T.getD 9 undef,T.getD 10 undef,T.getD 11 undef,T.getD 12 undef,T.getD 13 undef,T.getD 14 undef,T.getD 15 undef,T.getD 16 undef,T.getD 17 undef,T.getD 18 undef,T.getD 19 undef,T.getD 20 undef,T.getD 21 undef] := (qN T 22 h).trans (by kernel_rfl)
theorem zU.list {T : List Value} (h : T.length = 22) : ∃ b s z r q u v w x y c d f g i j k l m n o p, T = [b,s,z,r,q,u,v,w,x,y,c,d,f,g,i,j,k,l,m,n,o,p] := ⟨_, _, _, _, _, _, _, _, _, _, _, _, _, _, _, _, _, _, _, _, _, _, zU.eta h⟩
variable (b s z r q u v w x y c d f g i j k l m n o p : Value) (S : zk)
theorem zU.r0  : jE Try.prog ⟨false, false, false⟩ (jf Try.prog O) (reg Try.f17 0) (reg Try.f17 0).toList ([b,s,z,r,q,u,v,w,x,y,c,d,f,g,i,j,k,l,m,n,o,p]) S =
  ( some ([b,s,Value.slice none 0 0,r,q,u,v,w,x,y,c,d,f,g,i,j,k,l,m,n,o,p], S)) := by
 kernel_rfl
theorem zU.r1  : jE Try.prog ⟨false, false, false⟩ (jf Try.prog O) (reg Try.f17 1) (reg Try.f17 1).toList ([b,s,z,r,q,u,v,w,x,y,c,d,f,g,i,j,k,l,m,n,o,p]) S =
  (zM (jJ Try.prog 23 0 [] S) (fun E t => some ([b,s,z,E,q,dem E,v,w,x,y,c,d,f,g,i,j,k,l,m,n,o,p], t)) ()) := by
 kernel_rfl
theorem zU.r2  : jE Try.prog ⟨false, false, false⟩ (jf Try.prog O) (reg Try.f17 2) (reg Try.f17 2).toList ([b,s,z,r,q,u,v,w,x,y,c,d,f,g,i,j,k,l,m,n,o,p]) S =
  (zM (jS Try.prog BinOp.rem 42 (dem b) (Value.int IntKind.u64 128) S) (fun B t => zM (qx Try.prog false false 42 5 B t) (fun A C => some ([b,s,z,r,A,u,dem b,B,dem A,y,c,d,f,g,i,j,k,l,m,n,o,p], C)) ()) ()) := by
 kernel_rfl
theorem zU.r3  : jE Try.prog ⟨false, false, false⟩ (jf Try.prog O) (reg Try.f17 3) (reg Try.f17 3).toList ([b,s,z,r,q,u,v,w,x,y,c,d,f,g,i,j,k,l,m,n,o,p]) S =
  (zM (jS Try.prog BinOp.quo 42 (dem b) (Value.int IntKind.u64 128) S) (fun B t => some ([B,s,z,r,q,u,v,w,x,dem b,dem B,d,f,g,i,j,k,l,m,n,o,p], t)) ()) := by
 kernel_rfl
theorem zU.r4  : jE Try.prog ⟨false, false, false⟩ (jf Try.prog O) (reg Try.f17 4) (reg Try.f17 4).toList ([b,s,z,r,q,u,v,w,x,y,c,d,f,g,i,j,k,l,m,n,o,p]) S =
  (zM (jS Try.prog BinOp.eql 42 (dem b) (Value.int IntKind.u64 0) S) (fun B t => some ([b,s,z,r,q,u,v,w,x,y,c,dem b,B,g,i,j,k,l,m,n,o,p], t)) ()) := by
 kernel_rfl
theorem zU.r5  : jE Try.prog ⟨false, false, false⟩ (jf Try.prog O) (reg Try.f17 5) (reg Try.f17 5).toList ([b,s,z,r,q,u,v,w,x,y,c,d,f,g,i,j,k,l,m,n,o,p]) S =
  (zM (jJ Try.prog 23 1 [(0, (dem q))] S) (fun A t => zM (wU Try.prog 23 23 r A t) (fun D C => some ([b,s,D,dem r,q,u,v,w,x,y,c,d,f,dem r,dem q,A,dem D,l,m,n,o,p], C)) ()) ()) := by
 kernel_rfl
theorem zU.r6  : jE Try.prog ⟨false, false, false⟩ (jf Try.prog O) (reg Try.f17 6) (reg Try.f17 6).toList ([b,s,z,r,q,u,v,w,x,y,c,d,f,g,i,j,k,l,m,n,o,p]) S =
  (zM (jS Try.prog BinOp.add 5 (dem q) (Value.int IntKind.u8 128) S) (fun A t => zM (jJ Try.prog 23 1 [(0, A)] t) (fun D C => zM (wU Try.prog 23 23 r D C) (fun F G => some ([b,s,z,F,q,u,v,w,x,y,c,d,f,g,i,j,k,dem r,dem q,A,D,dem F], G)) ()) ()) ()) := by
 kernel_rfl
theorem zU.runs {b : Value} {S t : zk} {e : AEx} {T : List Value} (h : zG Try.prog O false zU.code ([b,undef,undef,undef,undef,undef,undef,undef,undef,undef,undef,undef,undef,undef,undef,undef,undef,undef,undef,undef,undef,undef]) S = some (e, T, t)) (he : e = .normal ∨ e = .ret) : jf Try.prog O 17 [b] S = some (T.getD 2 undef, t) :=
 yQ rfl rfl Try.func17 (by decide) zU.body (by exact h) he (yg (a := T.getD 2 undef) ((show zO Try.prog T t Try.f17.results.toList = zO Try.prog T t [(ResultVar.tmp 2)] from by kernel_rfl).trans (by simp only [zO])) (by kernel_rfl))
end Go.Proofs.Ytbgcphbbchndkaa
namespace Go.Proofs.Ytbgcphbbchndkaa
open Go.Abs
theorem aev : Try.prog.underlying 3 = some (TypeDesc.int IntKind.i64) := by kernel_rfl
theorem aaB : xR Try.prog 3 = some 1 := by kernel_rfl
theorem ahT : bytesOf Try.prog 3 = some 8 := by kernel_rfl
theorem ahM : zeroOf Try.prog 3 = (some (Value.int IntKind.i64 0)) := by kernel_rfl
theorem vO : kG Try.prog 3 = some false := by kernel_rfl
theorem ahf : zeroOf Try.prog 4 = (some (Value.bool false)) := by kernel_rfl
theorem Vx : Try.prog.underlying 5 = some (TypeDesc.int IntKind.u8) := by kernel_rfl
theorem acW : xR Try.prog 5 = some 1 := by kernel_rfl
theorem afR : bytesOf Try.prog 5 = some 1 := by kernel_rfl
theorem agd : zeroOf Try.prog 5 = (some (Value.int IntKind.u8 0)) := by kernel_rfl
theorem afL : kG Try.prog 5 = some false := by kernel_rfl
theorem ad3 : Try.prog.underlying 9 = some TypeDesc.string := by kernel_rfl
theorem ZB : Try.prog.underlying 23 = some (TypeDesc.slice 5) := by kernel_rfl
theorem abP : xR Try.prog 23 = some 1 := by kernel_rfl
theorem adD : kG Try.prog 23 = some false := by kernel_rfl
theorem ad1 : Try.prog.underlying 25 = some (TypeDesc.struct #[{ name := "ID", type := 3, offset := 0, embedded := false, tag := "", pkgPath := "", byteOffset := 0 }, { name := "Fee", type := 3, offset := 1, embedded := false, tag := "", pkgPath := "", byteOffset := 8 }]) := by kernel_rfl
theorem xZ : xR Try.prog 25 = some 2 := by kernel_rfl
theorem aeF : bytesOf Try.prog 25 = some 16 := by kernel_rfl
theorem aed : zeroOf Try.prog 25 = (some (Value.agg #[(Value.int IntKind.i64 0), (Value.int IntKind.i64 0)])) := by kernel_rfl
theorem Qw : kG Try.prog 25 = some true := by kernel_rfl
theorem xI : Try.prog.underlying 26 = some (TypeDesc.slice 25) := by kernel_rfl
theorem abl : xR Try.prog 26 = some 1 := by kernel_rfl
theorem aa7 : kG Try.prog 26 = some false := by kernel_rfl
theorem Za : xR Try.prog 28 = some 5 := by kernel_rfl
theorem Yi : kG Try.prog 28 = some true := by kernel_rfl
theorem Xo : xR Try.prog 30 = some 13 := by kernel_rfl
theorem abL : kG Try.prog 30 = some true := by kernel_rfl
theorem WU : Try.prog.underlying 42 = some (TypeDesc.int IntKind.u64) := by kernel_rfl
theorem Qy : Try.prog.underlying 57 = some (TypeDesc.slice 3) := by kernel_rfl
theorem Vs : Try.prog.underlying 88 = some (TypeDesc.slice 23) := by kernel_rfl
theorem WI : Try.prog.underlying 100 = some (TypeDesc.map 3 4) := by kernel_rfl
theorem qm (q o : Nat) (S : zk) : zo Try.prog 25 (.pointer (some ⟨q, o, none⟩)) 0 S = some (.pointer (some ⟨q, o + 0, none⟩), S) := by kernel_rfl
theorem xM (q o : Nat) (S : zk) : zo Try.prog 25 (.pointer (some ⟨q, o, none⟩)) 1 S = some (.pointer (some ⟨q, o + 1, none⟩), S) := by kernel_rfl
theorem jq (q o : Nat) (S : zk) : zo Try.prog 28 (.pointer (some ⟨q, o, none⟩)) 0 S = some (.pointer (some ⟨q, o + 0, none⟩), S) := by kernel_rfl
theorem jv (q o : Nat) (S : zk) : zo Try.prog 28 (.pointer (some ⟨q, o, none⟩)) 1 S = some (.pointer (some ⟨q, o + 1, none⟩), S) := by kernel_rfl
theorem jr (q o : Nat) (S : zk) : zo Try.prog 28 (.pointer (some ⟨q, o, none⟩)) 2 S = some (.pointer (some ⟨q, o + 2, none⟩), S) := by kernel_rfl
theorem jo (q o : Nat) (S : zk) : zo Try.prog 28 (.pointer (some ⟨q, o, none⟩)) 3 S = some (.pointer (some ⟨q, o + 3, none⟩), S) := by kernel_rfl
theorem jl (q o : Nat) (S : zk) : zo Try.prog 28 (.pointer (some ⟨q, o, none⟩)) 4 S = some (.pointer (some ⟨q, o + 4, none⟩), S) := by kernel_rfl
theorem zy (q o : Nat) (S : zk) : zo Try.prog 30 (.pointer (some ⟨q, o, none⟩)) 0 S = some (.pointer (some ⟨q, o + 0, none⟩), S) := by kernel_rfl
theorem zC (q o : Nat) (S : zk) : zo Try.prog 30 (.pointer (some ⟨q, o, none⟩)) 1 S = some (.pointer (some ⟨q, o + 1, none⟩), S) := by kernel_rfl
theorem zF (q o : Nat) (S : zk) : zo Try.prog 30 (.pointer (some ⟨q, o, none⟩)) 2 S = some (.pointer (some ⟨q, o + 2, none⟩), S) := by kernel_rfl
theorem zH (q o : Nat) (S : zk) : zo Try.prog 30 (.pointer (some ⟨q, o, none⟩)) 3 S = some (.pointer (some ⟨q, o + 3, none⟩), S) := by kernel_rfl
theorem zB (q o : Nat) (S : zk) : zo Try.prog 30 (.pointer (some ⟨q, o, none⟩)) 4 S = some (.pointer (some ⟨q, o + 4, none⟩), S) := by kernel_rfl
theorem zJ (q o : Nat) (S : zk) : zo Try.prog 30 (.pointer (some ⟨q, o, none⟩)) 5 S = some (.pointer (some ⟨q, o + 5, none⟩), S) := by kernel_rfl
theorem zK (q o : Nat) (S : zk) : zo Try.prog 30 (.pointer (some ⟨q, o, none⟩)) 6 S = some (.pointer (some ⟨q, o + 6, none⟩), S) := by kernel_rfl
theorem zL (q o : Nat) (S : zk) : zo Try.prog 30 (.pointer (some ⟨q, o, none⟩)) 7 S = some (.pointer (some ⟨q, o + 8, none⟩), S) := by kernel_rfl
theorem qy {fx : Bool} {x0 x1 : Value} {S : zk} : zV Try.prog fx 25 (EP [x0, x1]) S = some (.agg [x0, x1].toArray, S) := acQ Qw xZ rfl
theorem YC {q : Nat} {x0 x1 : Value} {own : Own} {e : Nat} {S : zk} (h : S.get q = some (.cells [x0, x1] own e)) : zV Try.prog false 25 (.pointer (some ⟨q, 0, none⟩)) S = some (.agg [kC x0, kC x1].toArray, S) := (Jy (o := 0) h Qw xZ (by simp)).trans (by simp)
theorem KW {q : Nat} {x0 x1 x2 x3 x4 : Value} {own : Own} {e : Nat} {S : zk} (h : S.get q = some (.cells [x0, x1, x2, x3, x4] own e)) : zV Try.prog false 28 (.pointer (some ⟨q, 0, none⟩)) S = some (.agg [kC x0, kC x1, kC x2, kC x3, kC x4].toArray, S) := (Jy (o := 0) h Yi Za (by simp)).trans (by simp)
theorem abh {q : Nat} {x0 x1 x2 x3 x4 x5 x6 x7 x8 x9 x10 x11 x12 : Value} {own : Own} {e : Nat} {S : zk} (h : S.get q = some (.cells [x0, x1, x2, x3, x4, x5, x6, x7, x8, x9, x10, x11, x12] own e)) : zV Try.prog false 30 (.pointer (some ⟨q, 0, none⟩)) S = some (.agg [kC x0, kC x1, kC x2, kC x3, kC x4, kC x5, kC x6, kC x7, kC x8, kC x9, kC x10, kC x11, kC x12].toArray, S) := (Jy (o := 0) h abL Xo (by simp)).trans (by simp)
theorem jG  (S : zk) : kS Try.prog 25 [] S = some (.agg [(Value.int IntKind.i64 0), (Value.int IntKind.i64 0)].toArray, S) := by
 kernel_rfl
theorem KZ  (S : zk) : kS Try.prog 28 [] S = some (.agg [(Value.int IntKind.i64 0), (Value.int IntKind.i64 0), (Value.int IntKind.i64 0), (Value.int IntKind.i64 0), (Value.slice none 0 0)].toArray, S) := by
 kernel_rfl
theorem qg {y0 y1 : Value} (h0 : y0.cells = #[y0]) (h1 : y1.cells = #[y1]) (S : zk) : kS Try.prog 30 [(0, y0), (1, y1)] S = some (.agg [y0, y1, (Value.int IntKind.i64 0), (Value.int IntKind.i64 0), (Value.int IntKind.i64 0), (Value.int IntKind.i64 0), (Value.int IntKind.i64 0), (Value.int IntKind.i64 0), (Value.int IntKind.i64 0), (Value.int IntKind.i64 0), (Value.int IntKind.i64 0), (Value.int IntKind.i64 0), (Value.slice none 0 0)].toArray, S) := by
 rw [show kS Try.prog 30 [(0, y0), (1, y1)] S = (match Z5 ([(0, 1), (1, 1), (2, 1), (3, 1), (4, 1), (5, 1), (6, 2), (8, 5)][·]?) [(Value.int IntKind.i64 0), (Value.int IntKind.i64 0), (Value.int IntKind.i64 0), (Value.int IntKind.i64 0), (Value.int IntKind.i64 0), (Value.int IntKind.i64 0), (Value.int IntKind.i64 0), (Value.int IntKind.i64 0), (Value.int IntKind.i64 0), (Value.int IntKind.i64 0), (Value.int IntKind.i64 0), (Value.int IntKind.i64 0), (Value.slice none 0 0)] [(0, y0), (1, y1)] with | some l => some (.agg l.toArray, S) | none => none) from by kernel_rfl]
 simp [Z5, splice, qJ, h0, h1]
@[simp] theorem Zc (k : IntKind) (n : Int) (H : zk) : yV Try.prog 3 42 (.int k n) H = some (.int IntKind.u64 (IntKind.wrap IntKind.u64 n), H) := JV aev WU k n
@[simp] theorem Zz (k : IntKind) (n : Int) (H : zk) : yV Try.prog 5 42 (.int k n) H = some (.int IntKind.u64 (IntKind.wrap IntKind.u64 n), H) := JV Vx WU k n
@[simp] theorem aeA (k : IntKind) (n : Int) (H : zk) : yV Try.prog 42 3 (.int k n) H = some (.int IntKind.i64 (IntKind.wrap IntKind.i64 n), H) := JV WU aev k n
@[simp] theorem xP (k : IntKind) (n : Int) (H : zk) : yV Try.prog 42 5 (.int k n) H = some (.int IntKind.u8 (IntKind.wrap IntKind.u8 n), H) := JV WU Vx k n
theorem ZJ (S : zk) : jJ Try.prog 23 0 [] S = some (sv 2 1 0 [], S) := by kernel_rfl
theorem vw (x0 : Int) (S : zk) : jJ Try.prog 23 1 [(0, .int IntKind.u8 x0)] S = some (sv 2 1 1 [.int IntKind.u8 x0], S) := by kernel_rfl
theorem QU (S : zk) : jJ Try.prog 26 0 [] S = some (sv 2 2 0 [], S) := by kernel_rfl
theorem YU (x0 : Int) (S : zk) : jJ Try.prog 57 1 [(0, .int IntKind.i64 x0)] S = some (sv 2 1 1 [.int IntKind.i64 x0], S) := by kernel_rfl
theorem Wn (x0 x1 : Int) (S : zk) : jJ Try.prog 57 2 [(0, .int IntKind.i64 x0), (1, .int IntKind.i64 x1)] S = some (sv 2 1 2 [.int IntKind.i64 x0, .int IntKind.i64 x1], S) := by kernel_rfl
theorem ab2 {k : Nat} {l : List UInt8} {S : zk} (h : Okl k l) : Zw Try.prog 23 (by_ k l) S = some (goInt l.length, S) := ac9 ZB h
theorem ahl {k : Nat} {l : List UInt8} {S : zk} {ki : IntKind} {i : Int} (h : Okl k l) (h0 : 0 ≤ i) (hi : i < l.length) : jP Try.prog 23 (by_ k l) (.int ki i) S = some (EP [.int .u8 (l[i.toNat]'(by omega)).toNat], S) := afJ ZB acW adr h h0 hi
theorem adJ {fx : Bool} {v : Value} {S : zk} : zV Try.prog fx 5 (EP [v]) S = some (v, S) := Ya afL
theorem qw {k : Nat} {l : List UInt8} {S : zk} {j : Nat} {m : List UInt8} (h : Okl k l) (hk : k ≠ 1) (hm : Okl j m) (hl : l.length + m.length ≤ 140737488355328) : wU Try.prog 23 23 (by_ k l) (by_ j m) S = some (by_ (if k = 0 ∧ m.length = 0 then 0 else 2) (l ++ m), S) := YH ZB acW agd rfl afR (by omega) ZB adr ahv h hk hm (by omega) (by omega)
theorem ahu {k : Nat} {l : List UInt8} {S : zk} (h : Okl k l) : Jl Try.prog 23 9 (by_ k l) S = some (.string ⟨l.toArray⟩, S) := acw ZB Vx ad3 h
theorem aaf {k : Nat} {l : List Int} {S : zk} (h : Okl k l) : Zw Try.prog 57 (iz k l) S = some (goInt l.length, S) := ac9 Qy h
theorem ahm {k : Nat} {l : List Int} {S : zk} {ki : IntKind} {i : Int} (h : Okl k l) (h0 : 0 ≤ i) (hi : i < l.length) : jP Try.prog 57 (iz k l) (.int ki i) S = some (EP [.int .i64 (l[i.toNat]'(by omega))], S) := afJ Qy aaB ae8 h h0 hi
theorem Qs {fx : Bool} {v : Value} {S : zk} : zV Try.prog fx 3 (EP [v]) S = some (v, S) := Ya vO
theorem ado {k : Nat} {l : List Int} {S : zk} {j : Nat} {m : List Int} (h : Okl k l) (hk : k ≠ 1) (hm : Okl j m) (hl : l.length + m.length ≤ 17592186044416) : wU Try.prog 57 57 (iz k l) (iz j m) S = some (iz (if k = 0 ∧ m.length = 0 then 0 else 2) (l ++ m), S) := YH Qy aaB ahM rfl ahT (by omega) Qy ae8 ahy h hk hm (by omega) (by omega)
theorem wk : type_of% (And.intro @Y2 (And.intro @JB (And.intro @Wv (And.intro @Yl (And.intro @Qd (And.intro @Yd (And.intro @YF (And.intro @WV (And.intro @Ws (And.intro @Xv (And.intro @Yj (And.intro @Xr (And.intro @aav (And.intro @JH (And.intro @Y4 (And.intro @YB (And.intro @YZ (And.intro @YG (And.intro @W9 (And.intro @afh (And.intro @ae9 (And.intro @afl (And.intro @afo (And.intro @ae0 (And.intro @Vd (And.intro @Vf (And.intro @acn (And.intro @abQ (And.intro @abO (And.intro @VU (And.intro @WG (And.intro @Xx (And.intro @Bool.and_true (And.intro @Bool.true_and (And.intro @Bool.and_self (And.intro @aac (And.intro @Zd (And.intro @YV (And.intro @XL (And.intro @Ym (And.intro @aeY (And.intro @afm (And.intro @afk (And.intro @afr (And.intro @ahd (And.intro @ahh (And.intro @ag9 (And.intro @ahw (And.intro @ahB (And.intro @afz (And.intro @afn (And.intro @ae1 (And.intro @aeZ (And.intro @afi (And.intro @adl (And.intro @Qj (And.intro @Bool.false_eq_true (And.intro @aau (And.intro @adx (And.intro @Y9 (And.intro @XP (And.intro @XG (And.intro @afF (And.intro @Xe (And.intro @afe (And.intro @Yf (And.intro @acY (And.intro @aag (And.intro @YR (And.intro @acK (And.intro @abK (And.intro @aak (And.intro @YE (And.intro @Xw (And.intro @abH (And.intro @aaw (And.intro @V6 (And.intro @KJ (And.intro @aap (And.intro @Yu (And.intro @Xf (And.intro @KU (And.intro @Qe (And.intro @JE (And.intro @Jd (And.intro @Yp (And.intro @Xc (And.intro @J4 (And.intro @Ql (And.intro @Jg (And.intro @Jf (And.intro @Je (And.intro @Kw (And.intro @QE (And.intro @JM (And.intro @KI (And.intro @KP (And.intro @Q7 (And.intro @QM (And.intro @KN (And.intro @QO (And.intro @acf (And.intro @Bool.not_true (And.intro @Bool.not_false (And.intro @Bool.true_eq_false (And.intro @decide_true (And.intro @decide_false (And.intro @adI (And.intro @ady (And.intro @adh (And.intro @adt (And.intro @acs (And.intro @acI (And.intro @acO (And.intro @adq (And.intro @acz (And.intro @ac3 (And.intro @adu (And.intro @acZ (And.intro @abW (And.intro @adb (@acp)))))))))))))))))))))))))))))))))))))))))))))))))))))))))))))))))))))))))))))))))))))))))))))))))))))))))))))))))))))))))) := And.intro @Y2 (And.intro @JB (And.intro @Wv (And.intro @Yl (And.intro @Qd (And.intro @Yd (And.intro @YF (And.intro @WV (And.intro @Ws (And.intro @Xv (And.intro @Yj (And.intro @Xr (And.intro @aav (And.intro @JH (And.intro @Y4 (And.intro @YB (And.intro @YZ (And.intro @YG (And.intro @W9 (And.intro @afh (And.intro @ae9 (And.intro @afl (And.intro @afo (And.intro @ae0 (And.intro @Vd (And.intro @Vf (And.intro @acn (And.intro @abQ (And.intro @abO (And.intro @VU (And.intro @WG (And.intro @Xx (And.intro @Bool.and_true (And.intro @Bool.true_and (And.intro @Bool.and_self (And.intro @aac (And.intro @Zd (And.intro @YV (And.intro @XL (And.intro @Ym (And.intro @aeY (And.intro @afm (And.intro @afk (And.intro @afr (And.intro @ahd (And.intro @ahh (And.intro @ag9 (And.intro @ahw (And.intro @ahB (And.intro @afz (And.intro @afn (And.intro @ae1 (And.intro @aeZ (And.intro @afi (And.intro @adl (And.intro @Qj (And.intro @Bool.false_eq_true (And.intro @aau (And.intro @adx (And.intro @Y9 (And.intro @XP (And.intro @XG (And.intro @afF (And.intro @Xe (And.intro @afe (And.intro @Yf (And.intro @acY (And.intro @aag (And.intro @YR (And.intro @acK (And.intro @abK (And.intro @aak (And.intro @YE (And.intro @Xw (And.intro @abH (And.intro @aaw (And.intro @V6 (And.intro @KJ (And.intro @aap (And.intro @Yu (And.intro @Xf (And.intro @KU (And.intro @Qe (And.intro @JE (And.intro @Jd (And.intro @Yp (And.intro @Xc (And.intro @J4 (And.intro @Ql (And.intro @Jg (And.intro @Jf (And.intro @Je (And.intro @Kw (And.intro @QE (And.intro @JM (And.intro @KI (And.intro @KP (And.intro @Q7 (And.intro @QM (And.intro @KN (And.intro @QO (And.intro @acf (And.intro @Bool.not_true (And.intro @Bool.not_false (And.intro @Bool.true_eq_false (And.intro @decide_true (And.intro @decide_false (And.intro @adI (And.intro @ady (And.intro @adh (And.intro @adt (And.intro @acs (And.intro @acI (And.intro @acO (And.intro @adq (And.intro @acz (And.intro @ac3 (And.intro @adu (And.intro @acZ (And.intro @abW (And.intro @adb (@acp)))))))))))))))))))))))))))))))))))))))))))))))))))))))))))))))))))))))))))))))))))))))))))))))))))))))))))))))))))))))))
theorem zSs : type_of% (And.intro wk (And.intro (@List.getD_cons_succ Value) (And.intro (@List.getD_cons_zero Value) (And.intro @if_true.{1} (And.intro @if_false.{1} (And.intro (@List.getElem?_cons_succ Value) (And.intro (@List.getElem?_cons_zero Value) (And.intro @Option.map_some.{0,0} @eq_self.{1})))))))) := And.intro wk (And.intro (@List.getD_cons_succ Value) (And.intro (@List.getD_cons_zero Value) (And.intro @if_true.{1} (And.intro @if_false.{1} (And.intro (@List.getElem?_cons_succ Value) (And.intro (@List.getElem?_cons_zero Value) (And.intro @Option.map_some.{0,0} @eq_self.{1})))))))
end Go.Proofs.Ytbgcphbbchndkaa
namespace Go.Proofs.Ytbgcphbbchndkaa
open Go.Abs
def enc (n : Nat) : List UInt8 := if n < 128 then [UInt8.ofNat n] else UInt8.ofNat (n % 128 + 128) :: enc (n / 128)
termination_by n
decreasing_by omega
theorem ZC {n : Nat} (h : n < 128) : enc n = [UInt8.ofNat n] := by rw [enc, if_pos h]
theorem Qv {n : Nat} (h : ¬ n < 128) : enc n = UInt8.ofNat (n % 128 + 128) :: enc (n / 128) := by rw [enc, if_neg h]
theorem wrap_u8 (n : Nat) : IntKind.u8.wrap (n : Int) = ((n % 256 : Nat) : Int) := by
 simp [IntKind.wrap, IntKind.bits, IntKind.signed]
theorem wrap_u64 (n : Nat) : IntKind.u64.wrap (n : Int) = ((n % 2 ^ 64 : Nat) : Int) := by
 simp [IntKind.wrap, IntKind.bits, IntKind.signed]
theorem ahR : ∀ m : Fin 256, orI .u8 (m.val : Int) 128 = ((m.val % 128 + 128 : Nat) : Int) := by decide +kernel
theorem afV (n : Nat) : orI .u8 (IntKind.u8.wrap (n : Int)) 128 = ((UInt8.ofNat (n % 128 + 128)).toNat : Int) := by
 rw [wrap_u8, ahR ⟨n % 256, by omega⟩]
 simp only [UInt8.toNat_ofNat']
 omega
theorem VG {n : Nat} : IntKind.u8.wrap (n : Int) = ((UInt8.ofNat n).toNat : Int) := by
 rw [wrap_u8]
 simp
theorem ah6 (n : Nat) : (n : Int).fdiv (2 ^ min (Int.toNat 7) (IntKind.bits .u64)) = ((n / 128 : Nat) : Int) := by
 have : (2 : Int) ^ min (Int.toNat 7) (IntKind.bits .u64) = 128 := by decide
 rw [this, Int.fdiv_eq_ediv_of_nonneg _ (by omega)]
 omega
theorem agh (k : Nat) : ∀ n, n < 128 ^ (k + 1) → (enc n).length ≤ k + 1 := by
 induction k with
 | zero => intro n h; rw [ZC (by omega)]; simp
 | succ k ih =>
  intro n h
  by_cases hn : n < 128
  ·
   rw [ZC hn]; simp
  ·
   rw [Qv hn]
   have := ih (n / 128) (by rw [Nat.div_lt_iff_lt_mul (by omega)]; exact h)
   simp only [List.length_cons]; omega
theorem xQ {n : Nat} (h : n < 2 ^ 64) : (enc n).length ≤ 10 := agh 9 n (Nat.lt_of_lt_of_le h (by decide))
theorem afG (n : Nat) : (n : Int).tmod 128 = ((n % 128 : Nat) : Int) := by
 rw [Int.tmod_eq_emod_of_nonneg (by omega)]; omega
theorem afO (n : Nat) (h : n < 2 ^ 64) : IntKind.u64.wrap ((n : Int).tdiv 128) = ((n / 128 : Nat) : Int) := by
 rw [Int.tdiv_eq_ediv_of_nonneg (by omega), show (n : Int) / 128 = ((n / 128 : Nat) : Int) by omega, wrap_u64]
 omega
theorem ahF (n : Nat) : IntKind.u8.wrap ((n % 128 : Nat) : Int) = ((UInt8.ofNat (n % 128)).toNat : Int) := VG
theorem agf (n : Nat) : IntKind.u8.wrap (((UInt8.ofNat (n % 128)).toNat : Int) + 128) = ((UInt8.ofNat (n % 128 + 128)).toNat : Int) := by
 have : ((UInt8.ofNat (n % 128)).toNat : Int) + 128 = ((n % 128 + 128 : Nat) : Int) := by simp only [UInt8.toNat_ofNat']; omega
 rw [this]; exact VG
theorem afN : sv 2 1 0 [] = by_ 2 [] := rfl
theorem aeQ (x : UInt8) : sv 2 1 1 [.int .u8 x.toNat] = by_ 2 [x] := rfl
theorem Va {k : Nat} {l : List UInt8} {x : UInt8} {S : zk} (h : Okl k l) (hk : k ≠ 1) (hl : l.length ≤ 140737488355000) : wU Try.prog 23 23 (by_ k l) (by_ 2 [x]) S = some (by_ 2 (l ++ [x]), S) := by
 rw [qw h hk Okl.own (by simp; omega), if_neg (fun h => by have := h.2; simp at this)]
theorem jX.round : ∀ (n : Nat) (l : List UInt8) (k : Nat) {T : List Value} {S : zk} {r : St}, qo (zG Try.prog O false jX.jT) T S = r → T.length = 19 → T.getD 0 undef = .int .u64 n → T.getD 3 undef = by_ k l →
  Okl k l → k ≠ 1 → n * 2 ^ l.length < 2 ^ 64 → ∃ T' l' k' n', r = some (.exit 0, T', S) ∧ T'.length = 19 ∧ T'.getD 0 undef = .int .u64 (n' : Nat) ∧ T'.getD 3 undef = by_ k' l' ∧
   Okl k' l' ∧ k' ≠ 1 ∧ n' < 128 ∧ l' ++ [UInt8.ofNat n'] = l ++ enc n := by
 intro n
 induction n using Nat.strongRecOn with
 | _ n ih =>
  intro l k T S r hL hT h0 h3 hs hk hl
  obtain ⟨x0, x1, x2, x3, x4, x5, x6, x7, x8, x9, x10, x11, x12, x13, x14, x15, x16, x17, x18, hTe⟩ := jX.list hT
  rw [hTe] at h0 h3
  simp only [List.getD_cons_succ, List.getD_cons_zero] at h0 h3
  subst h0 h3
  have hr : zG Try.prog O false jX.jT T S = zG Try.prog O false jX.jT T S := rfl
  by_cases hlt : n < 128
  ·
   have hd : decide ((128 : Int) ≤ (n : Int)) = false := by simp; omega
   conv at hr =>
    rhs
    rw [hTe]
    simp only [jX.jT, zSs, reduceIte, Nat.reduceEqDiff, Int.reduceEq, Int.reduceLT, Int.reduceLE, jX.r2, hd]
   exact ⟨_, l, k, n, hL.symm.trans (wO hr (by simp)), rfl, rfl, rfl, hs, hk, hlt, by rw [ZC hlt]⟩
  ·
   have hd : decide ((128 : Int) ≤ (n : Int)) = true := by simp; omega
   have hll : l.length < 64 := by
    have : 2 ^ l.length < 2 ^ 64 := Nat.lt_of_le_of_lt (Nat.le_mul_of_pos_left _ (by omega)) hl
    exact (Nat.pow_lt_pow_iff_right (by omega)).1 this
   have e1 : ∀ x S, wU Try.prog 23 23 (by_ k l) (by_ 2 [x]) S = some (by_ 2 (l ++ [x]), S) := fun x S => Va hs hk (by omega)
   conv at hr =>
    rhs
    rw [hTe]
    simp only [jX.jT, zSs, reduceIte, Nat.reduceEqDiff, Int.reduceEq, Int.reduceLT, Int.reduceLE, jX.r2, hd, jX.r3, xP, afM, afV, vw, aeQ, e1, jX.r4, VW _ _ _ _ (show (0 : Int) ≤ 7 by omega), ah6]
   have hmul : n / 128 * 2 ^ (l.length + 1) < 2 ^ 64 := by
    refine Nat.lt_of_le_of_lt ?_ hl
    rw [Nat.pow_succ, Nat.mul_comm (2 ^ l.length) 2, ← Nat.mul_assoc]
    exact Nat.mul_le_mul_right _ (by omega)
   obtain ⟨T', l', k', n', g1, g2, g3, g4, g5, g6, g7, g8⟩ := ih (n / 128) (by omega) _ 2 ((yN hr).symm.trans hL) rfl rfl rfl Okl.own (by decide) (by simpa using hmul)
   refine ⟨T', l', k', n', g1, g2, g3, g4, g5, g6, g7, ?_⟩
   rw [g8, Qv hlt, List.append_assoc]; rfl
theorem jX.v (n : Nat) (hn : n < 2 ^ 64) (S : zk) : jf Try.prog O jX.id [.int .u64 n] S = some (by_ 2 (enc n), S) := by
 obtain ⟨T, hTe⟩ : ∃ T, T = (.int .u64 n :: undef :: undef :: undef :: undef :: undef :: undef :: undef :: undef :: undef :: undef :: undef :: undef :: undef :: undef :: undef :: undef :: undef :: undef :: []) := ⟨_, rfl⟩
 have hr : zG Try.prog O false jX.code T S = zG Try.prog O false jX.code T S := rfl
 conv at hr =>
  rhs
  rw [hTe]
  simp only [jX.code, zSs, reduceIte, Nat.reduceEqDiff, Int.reduceEq, Int.reduceLT, Int.reduceLE, jX.r0, jX.r1]
 generalize hL : qo (zG Try.prog O false jX.jT) _ _ = r at hr
 obtain ⟨T', l', k', n', rfl, g2, g3, g4, g5, g6, g7, g8⟩ := jX.round n [] 0 hL rfl rfl rfl Okl.none (by decide) (by simpa using hn)
 obtain ⟨x0, x1, x2, x3, x4, x5, x6, x7, x8, x9, x10, x11, x12, x13, x14, x15, x16, x17, x18, hT'⟩ := jX.list g2
 rw [hT'] at g3 g4
 simp only [List.getD_cons_succ, List.getD_cons_zero] at g3 g4
 subst g3 g4
 have hlen : l'.length + 1 = (enc n).length := by simpa using congrArg List.length g8
 have h10 := xQ hn
 have e1 : ∀ x S, wU Try.prog 23 23 (by_ k' l') (by_ 2 [x]) S = some (by_ 2 (l' ++ [x]), S) := fun x S => Va g5 g6 (by omega)
 conv at hr =>
  rhs
  rw [hT']
  simp only [zSs, reduceIte, Nat.reduceEqDiff, Int.reduceEq, Int.reduceLT, Int.reduceLE, jX.r5, xP, VG, vw, aeQ, e1]
 rw [hTe] at hr
 have := jX.runs hr (.inr rfl)
 rw [List.nil_append] at g8
 rw [← g8]
 exact this
theorem zU.round : ∀ (n : Nat) (l : List UInt8) {T : List Value} {S : zk} {r : St}, qo (zG Try.prog O false zU.jT) T S = r → T.length = 22 → T.getD 0 undef = .int .u64 n → T.getD 3 undef = by_ 2 l →
  n * 2 ^ l.length < 2 ^ 64 → l.length < 64 → ∃ T', r = some (.ret, T', S) ∧ T'.getD 2 undef = by_ 2 (l ++ enc n) := by
 intro n
 induction n using Nat.strongRecOn with
 | _ n ih =>
  intro l T S r hL hT h0 h3 hl hll
  obtain ⟨x0, x1, x2, x3, x4, x5, x6, x7, x8, x9, x10, x11, x12, x13, x14, x15, x16, x17, x18, x19, x20, x21, hTe⟩ := zU.list hT
  rw [hTe] at h0 h3
  simp only [List.getD_cons_succ, List.getD_cons_zero] at h0 h3
  subst h0 h3
  have hn : n < 2 ^ 64 := Nat.lt_of_le_of_lt (Nat.le_mul_of_pos_right _ (by exact Nat.two_pow_pos _)) hl
  have e1 : ∀ x S, wU Try.prog 23 23 (by_ 2 l) (by_ 2 [x]) S = some (by_ 2 (l ++ [x]), S) := fun x S => Va Okl.own (by decide) (by omega)
  have hr : zG Try.prog O false zU.jT T S = zG Try.prog O false zU.jT T S := rfl
  conv at hr =>
   rhs
   rw [hTe]
   simp only [zU.jT, zSs, reduceIte, Nat.reduceEqDiff, Int.reduceEq, Int.reduceLT, Int.reduceLE, zU.r2, zU.r3, zU.r4, JW _ _ _ (show (128 : Int) ≠ 0 by omega), qQ _ _ _ (show (128 : Int) ≠ 0 by omega), afG, afO n hn, xP, ahF]
  by_cases hz : n / 128 = 0
  ·
   have hd : decide (((n / 128 : Nat) : Int) = 0) = true := by simp; omega
   conv at hr =>
    rhs
    simp only [hd, zSs, reduceIte, Nat.reduceEqDiff, Int.reduceEq, Int.reduceLT, Int.reduceLE, zU.r5, vw, aeQ, e1]
   refine ⟨_, hL.symm.trans (wO hr (by simp)), ?_⟩
   rw [ZC (by omega)]
   simp only [List.getD_cons_succ, List.getD_cons_zero]
   rw [show n % 128 = n by omega]
  ·
   have hd : decide (((n / 128 : Nat) : Int) = 0) = false := by simp; omega
   conv at hr =>
    rhs
    simp only [hd, zSs, reduceIte, Nat.reduceEqDiff, Int.reduceEq, Int.reduceLT, Int.reduceLE, zU.r6, agf, vw, aeQ, e1]
   have hmul : n / 128 * 2 ^ (l.length + 1) < 2 ^ 64 := by
    refine Nat.lt_of_le_of_lt ?_ hl
    rw [Nat.pow_succ, Nat.mul_comm (2 ^ l.length) 2, ← Nat.mul_assoc]
    exact Nat.mul_le_mul_right _ (by omega)
   have hl2 : l.length + 1 < 64 := by
    have : 2 ^ (l.length + 1) < 2 ^ 64 := Nat.lt_of_le_of_lt (Nat.le_mul_of_pos_left _ (by omega)) hmul
    exact (Nat.pow_lt_pow_iff_right (by omega)).1 this
   obtain ⟨T', g1, g2⟩ := ih (n / 128) (by omega) _ ((yN hr).symm.trans hL) rfl rfl rfl (by simpa using hmul) (by simpa using hl2)
   refine ⟨T', g1, ?_⟩
   rw [g2, Qv (n := n) (by omega), List.append_assoc]
   rfl
theorem zU.v (n : Nat) (hn : n < 2 ^ 64) (S : zk) : jf Try.prog O zU.id [.int .u64 n] S = some (by_ 2 (enc n), S) := by
 obtain ⟨T, hTe⟩ : ∃ T, T = (.int .u64 n :: undef :: undef :: undef :: undef :: undef :: undef :: undef :: undef :: undef :: undef :: undef :: undef :: undef :: undef :: undef :: undef :: undef :: undef :: undef :: undef :: undef :: []) := ⟨_, rfl⟩
 have hr : zG Try.prog O false zU.code T S = zG Try.prog O false zU.code T S := rfl
 conv at hr =>
  rhs
  rw [hTe]
  simp only [zU.code, zSs, reduceIte, Nat.reduceEqDiff, Int.reduceEq, Int.reduceLT, Int.reduceLE, zU.r0, zU.r1, ZJ, afN]
 generalize hL : qo (zG Try.prog O false zU.jT) _ _ = r at hr
 obtain ⟨T', rfl, g2⟩ := zU.round n [] hL rfl rfl rfl (by simpa using hn) (by simp)
 conv at hr =>
  rhs
  simp only [zSs, reduceIte, Nat.reduceEqDiff, Int.reduceEq, Int.reduceLT, Int.reduceLE]
 rw [hTe] at hr
 have hrun := zU.runs hr (.inr rfl)
 rw [g2] at hrun
 exact hrun
end Go.Proofs.Ytbgcphbbchndkaa
namespace Go.Proofs.Ytbgcphbbchndkaa
open Go.Abs
theorem abV {n : Nat} (h : n < 2 ^ 64) : IntKind.u64.wrap (n : Int) = (n : Int) := by
 rw [wrap_u64, Nat.mod_eq_of_lt h]
end Go.Proofs.Ytbgcphbbchndkaa
namespace Go.Proofs.Ytbgcphbbchndkaa
open Go.Abs
theorem ade (n : Nat) : 0 < (enc n).length := by
 by_cases h : n < 128
 ·
  rw [ZC h]; simp
 ·
  rw [Qv h]; simp
section
variable {k : Nat} {l : List UInt8} {S : zk}
end
end Go.Proofs.Ytbgcphbbchndkaa
namespace Go.Proofs.Ytbgcphbbchndkaa
open Go.Abs
theorem ag3 (x : Int) : sv 2 1 1 [.int .i64 x] = iz 2 [x] := rfl
end Go.Proofs.Ytbgcphbbchndkaa
namespace Go.Abs
open Go.RowKit
theorem agU {b : Nat} {e : Ty} {α : Type} (f : α → List Value) (Q : α → Prop) (h : ∀ x, e.Good x → ∃ y, e.J3 x = f y ∧ Q y) (hf : ∀ y, (f y).length = e.sz) (x : (Ty.slc b e).Val) (hg : (Ty.slc b e).Good x) :
  ∃ k l, Okl k l ∧ k ≠ 2 ∧ (Ty.slc b e).J3 x = [vs f e.sz k l] ∧ l.length * b ≤ 140737488351232 ∧ ∀ y ∈ l, Q y := by
 match x, hg with
 | none, _ => exact ⟨0, [], Okl.none, by decide, rfl, by simp, fun y hy => by cases hy⟩
 | some xs, hg =>
  obtain ⟨h1, h2, h3⟩ := hg
  have key : ∀ xs : List e.Val, (∀ n ∈ xs, e.Good n) → ∃ l : List α, xs.flatMap e.J3 = l.flatMap f ∧ l.length = xs.length ∧ ∀ y ∈ l, Q y := by
   intro xs
   induction xs with
   | nil => intro _; exact ⟨[], rfl, rfl, fun y hy => by cases hy⟩
   | cons n xs ih =>
    intro hn
    obtain ⟨y, hy, hq⟩ := h n (hn n (by simp))
    obtain ⟨l, k1, k2, k3⟩ := ih (fun m hm => hn m (by simp [hm]))
    refine ⟨y :: l, by rw [List.flatMap_cons, List.flatMap_cons, hy, k1], by simp [k2], fun z hz => ?_⟩
    rcases List.mem_cons.1 hz with rfl | hz
    ·
     exact hq
    ·
     exact k3 z hz
  obtain ⟨l, k1, k2, k3⟩ := key xs h3
  refine ⟨1, l, Okl.read, by decide, ?_, by rw [k2]; exact h1, k3⟩
  show [SL 1 e.sz (List.length xs) (List.flatMap e.J3 xs)] = [_]
  unfold vs
  rw [sv1, k1, k2]
theorem abm {cs xs : List Value} (h : cs.length = xs.length) : splice cs 0 xs = xs := by
 unfold splice
 rw [List.take_zero, List.nil_append, Nat.zero_add, ← h, List.drop_length, List.append_nil]
theorem ahk {k e n : Nat} {cs : List Value} : (sv k e n cs).oneCell' = true := by unfold sv; split <;> rfl
theorem acT {α : Type} {f : α → List Value} {e k : Nat} {l : List α} : (vs f e k l).oneCell' = true := ahk
theorem acS {k : IntKind} {n : Int} : (Value.int k n).oneCell' = true := rfl
theorem acG {P : Program} {t : TypeId} {z xs : List Value} {x : Value} (S : zk) (hx : x.cells.toList = xs) (hs : xR P t = some z.length) (hl : xs.length = z.length) (h1 : xs.all (·.oneCell') = true) :
  ∃ S2, yC P t (.pointer (some ⟨S.next, 0, none⟩)) x (S.push (.cells z (.own []) 0)) = some (undef, S2) ∧ S2.get S.next = some (.cells xs (.own []) 0) ∧ Ext S S2 ∧ S.next < S2.next := by
 have hg : (S.push (.cells z (.own []) 0)).get S.next = some (.cells z (.own []) 0) := by rw [zk.wQ, if_pos rfl]
 refine ⟨_, qX hg hs (by rw [← Array.length_toList, hx, hl]) (by rw [hx]; exact h1) (by simp), ?_, (Ext.push S _).set (Nat.le_refl _) _, by simp [zk.kills]⟩
 rw [zk.yj, if_pos rfl, hx, abm hl.symm]
theorem aht (x : Value) (S : zk) : ∃ S2, vV x S = some (.pointer (some ⟨S.next, 0, none⟩), S2) ∧ S2.get S.next = some (.cells x.cells.toList (.own []) 0) ∧ Ext S S2 ∧ S.next < S2.next :=
 ⟨_, rfl, by rw [zk.wQ, if_pos rfl], Ext.push _ _, by simp⟩
end Go.Abs
namespace Go.Proofs.Ytbgcphbbchndkaa
open Go.Abs
structure Tb where
 k : Nat
 b : List UInt8
structure Tb.Ok (t : Tb) : Prop where
 okl : Okl t.k t.b
 ne : t.k ≠ 2
 le : t.b.length ≤ 140737488351232
end Go.Proofs.Ytbgcphbbchndkaa
namespace Go.Proofs.Ytbgcphbbchndkaa
open Go.Abs
def encs (l : List Int) : List UInt8 := l.flatMap fun n => enc (n + 1).toNat
def aa8 (k : Nat) (l : List Int) : Value := if 64 < l.length ∨ ∃ n ∈ l, n < -1 then .tuple #[.slice none 0 0, .int .i64 11] else .tuple #[by_ (if l = [] then k else 2) (encs l), .int .i64 0]
theorem Qg {n : Int} (h : -1 ≤ n) (h2 : n < 9223372036854775808) : IntKind.u64.wrap (IntKind.u64.wrap n + 1) = ((n + 1).toNat : Int) := by
 simp [IntKind.wrap, IntKind.bits, IntKind.signed]
 omega
theorem Zi (a b : List Int) : encs (a ++ b) = encs a ++ encs b := by simp [encs]
theorem aad (n : Int) : encs [n] = enc (n + 1).toNat := by simp [encs]
theorem vG {l : List Int} (h : ∀ n ∈ l, n < 9223372036854775808) : (encs l).length ≤ l.length * 10 := by
 induction l with
 | nil => simp [encs]
 | cons n l ih =>
  have h1 := ih fun m hm => h m (by simp [hm])
  have h2 : (enc (n + 1).toNat).length ≤ 10 := xQ (by have := h n (by simp); omega)
  simp only [encs, List.flatMap_cons, List.length_append, List.length_cons] at *
  omega
theorem zZ.round {k : Nat} {l : List Int} (hv : Okl k l) (hk : k ≠ 2) (h64 : l.length ≤ 64) (hb : ∀ n ∈ l, n < 9223372036854775808) {S : zk} : ∀ (suf pre : List Int) {T : List Value} {r : St}, qo (zG Try.prog O false zZ.jT) T S = r → T.length = 26 →
  T.getD 10 undef = iz k l → T.getD 11 undef = .int .i64 l.length → T.getD 12 undef = .int .i64 pre.length → T.getD 4 undef = by_ (if pre = [] then 0 else 2) (encs pre) → l = pre ++ suf →
  ∃ e T', r = some (e, T', S) ∧ if (∃ n ∈ suf, n < -1) then e = .ret ∧ T'.getD 2 undef = .slice none 0 0 ∧ T'.getD 3 undef = .int .i64 11 else e = .exit 0 ∧ T'.length = 26 ∧ T'.getD 4 undef = by_ (if l = [] then 0 else 2) (encs l) := by
 intro suf
 induction suf with
 | nil =>
  intro pre T r hL hT ha hb hc h4 hl
  have hTe := zZ.eta hT
  rw [ha, hb, hc, h4] at hTe
  have hr : zG Try.prog O false zZ.jT T S = zG Try.prog O false zZ.jT T S := rfl
  have hd : ¬ (pre.length : Int) < (l.length : Int) := by rw [hl]; simp
  conv at hr =>
   rhs
   rw [hTe]
   simp only [zZ.jT, zZ.code, zZ.rs, zSs, reduceIte, Nat.reduceEqDiff, Int.reduceEq, Int.reduceLT, Int.reduceLE, hd]
  refine ⟨_, _, hL.symm.trans (wO hr (by simp)), ?_⟩
  rw [if_neg (by simp)]
  simp only [List.append_nil] at hl
  subst hl
  exact ⟨rfl, rfl, rfl⟩
 | cons n suf ih =>
  intro pre T r hL hT ha hbb hc h4 hl
  have hTe := zZ.eta hT
  rw [ha, hbb, hc, h4] at hTe
  have hr : zG Try.prog O false zZ.jT T S = zG Try.prog O false zZ.jT T S := rfl
  have hll : l.length = pre.length + (suf.length + 1) := by rw [hl]; simp
  have hlt : (pre.length : Int) < (l.length : Int) := by omega
  have e1 : ∀ S, jP Try.prog 57 (iz k l) (.int .i64 pre.length) S = some (EP [.int .i64 n], S) := fun S => by
   rw [ahm hv (by omega) hlt]; rw [XA hl]
  have hn := hb n (by rw [hl]; simp)
  by_cases h1 : n < -1
  ·
   conv at hr =>
    rhs
    rw [hTe]
    simp only [zZ.jT, zZ.code, zZ.rs, zSs, reduceIte, Nat.reduceEqDiff, Int.reduceEq, Int.reduceLT, Int.reduceLE, hlt, e1, Qs, h1]
   refine ⟨_, _, hL.symm.trans (wO hr (by simp)), ?_⟩
   rw [if_pos ⟨n, by simp, h1⟩]
   exact ⟨rfl, rfl, rfl⟩
  ·
   have w1 := Qg (n := n) (by omega) (by omega)
   have hpb : (encs pre).length ≤ pre.length * 10 := vG fun m hm => hb m (by rw [hl]; simp [hm])
   have hp10 : (enc (n + 1).toNat).length ≤ 10 := xQ (by omega)
   have hpp := ade (n + 1).toNat
   have g1 := fun S => jX.v (n + 1).toNat (by omega) S
   have e2 : ∀ S, wU Try.prog 23 23 (by_ (if pre = [] then 0 else 2) (encs pre)) (by_ 2 (enc (n + 1).toNat)) S = some (by_ 2 (encs (pre ++ [n])), S) := fun S => by
    have ok : Okl (if pre = [] then 0 else 2) (encs pre) := ⟨by split <;> omega, fun h => by split at h <;> first | (rename_i hp; subst hp; rfl) | omega⟩
    rw [qw ok (by split <;> omega) Okl.own (by omega), if_neg (fun h => by have := h.2; omega), Zi, aad]
   have wi : IntKind.i64.wrap ((pre.length : Int) + 1) = ((pre ++ [n]).length : Int) := by rw [wrap_i64 (by omega) (by omega)]; simp
   conv at hr =>
    rhs
    rw [hTe]
    simp only [zZ.jT, zZ.code, zZ.rs, zSs, reduceIte, Nat.reduceEqDiff, Int.reduceEq, Int.reduceLT, Int.reduceLE, hlt, e1, Qs, h1, Zc, w1, g1, e2, wi]
   obtain ⟨e, T', g1, g2⟩ := ih (pre ++ [n]) ((yN hr).symm.trans hL) rfl rfl rfl rfl (by rw [if_neg (show ¬ pre ++ [n] = [] by simp)]; rfl) (by simp [hl])
   refine ⟨e, T', g1, ?_⟩
   by_cases h2 : ∃ m ∈ suf, m < -1
   ·
    rw [if_pos h2] at g2
    obtain ⟨m, hm, hm2⟩ := h2
    rw [if_pos ⟨m, by simp [hm], hm2⟩]
    exact g2
   ·
    rw [if_neg h2] at g2
    rw [if_neg (by rintro ⟨m, hm, hm2⟩; rcases List.mem_cons.1 hm with rfl | hm; exact h1 hm2; exact h2 ⟨m, hm, hm2⟩)]
    exact g2
theorem zZ.v {k : Nat} {l : List Int} (hv : Okl k l) (hk : k ≠ 2) (hb : ∀ n ∈ l, n < 9223372036854775808) (S : zk) : jf Try.prog O zZ.id [iz k l] S = some (aa8 0 l, S) := by
 obtain ⟨T, hTe⟩ : ∃ T, T = (iz k l :: undef :: undef :: undef :: undef :: undef :: undef :: undef :: undef :: undef :: undef :: undef :: undef :: undef :: undef :: undef :: undef :: undef :: undef :: undef :: undef :: undef :: undef :: undef :: undef :: undef :: []) := ⟨_, rfl⟩
 have hr : zG Try.prog O false zZ.code T S = zG Try.prog O false zZ.code T S := rfl
 unfold aa8
 by_cases h1 : 64 < l.length
 ·
  have d1 : (64 : Int) < (l.length : Int) := by omega
  conv at hr =>
   rhs
   rw [hTe]
   simp only [zZ.code, zZ.rs, zSs, reduceIte, Nat.reduceEqDiff, Int.reduceEq, Int.reduceLT, Int.reduceLE, if_neg hk, aaf hv, goInt, d1]
  rw [hTe] at hr
  rw [if_pos (.inl h1)]
  exact zZ.runs hr (.inr rfl) (by simp only [List.getD_cons_succ, List.getD_cons_zero, wP, wE, jQ, jY, wC]) (by simp only [List.getD_cons_succ, List.getD_cons_zero, wP, wE, jQ, jY, wC])
 ·
  have d1 : ¬ (64 : Int) < (l.length : Int) := by omega
  conv at hr =>
   rhs
   rw [hTe]
   simp only [zZ.code, zZ.rs, zSs, reduceIte, Nat.reduceEqDiff, Int.reduceEq, Int.reduceLT, Int.reduceLE, if_neg hk, aaf hv, goInt, d1, ZJ, afN]
  generalize hL : qo (zG Try.prog O false zZ.jT) _ _ = r at hr
  obtain ⟨e, T', rfl, g⟩ := zZ.round hv hk (by omega) hb l [] hL rfl rfl rfl rfl rfl rfl
  by_cases h2 : ∃ n ∈ l, n < -1
  ·
   rw [if_pos h2] at g
   obtain ⟨rfl, g2, g3⟩ := g
   conv at hr =>
    rhs
    simp only [zSs, reduceIte, Nat.reduceEqDiff, Int.reduceEq, Int.reduceLT, Int.reduceLE]
   rw [hTe] at hr
   rw [if_pos (.inr h2)]
   have hrun := zZ.runs hr (.inr rfl) (by rw [g2]; rfl) (by rw [g3]; rfl)
   rw [g2, g3] at hrun
   exact hrun
  ·
   rw [if_neg h2] at g
   obtain ⟨rfl, g2, g3⟩ := g
   have hTe' := zZ.eta g2
   rw [g3] at hTe'
   conv at hr =>
    rhs
    rw [hTe']
    simp only [zZ.code, zZ.rs, zSs, reduceIte, Nat.reduceEqDiff, Int.reduceEq, Int.reduceLT, Int.reduceLE]
   rw [hTe] at hr
   rw [if_neg (by rintro (h | h); exact h1 h; exact h2 h)]
   exact zZ.runs hr (.inr rfl) (by simp only [List.getD_cons_succ, List.getD_cons_zero, wP, wE, jQ, jY, wC]) (by simp only [List.getD_cons_succ, List.getD_cons_zero, wP, wE, jQ, jY, wC])
theorem zu.round {k : Nat} {l : List Int} (hv : Okl k l) (hk : k ≠ 2) (h64 : l.length ≤ 64) (hb : ∀ n ∈ l, n < 9223372036854775808) {S : zk} : ∀ (suf pre : List Int) {T : List Value} {r : St}, qo (zG Try.prog O false zu.jT) T S = r → T.length = 27 →
  T.getD 11 undef = iz k l → T.getD 12 undef = .int .i64 l.length → T.getD 13 undef = .int .i64 pre.length → T.getD 4 undef = by_ (if pre = [] then 2 else 2) (encs pre) → l = pre ++ suf →
  ∃ e T', r = some (e, T', S) ∧ if (∃ n ∈ suf, n < -1) then e = .ret ∧ T'.getD 2 undef = .slice none 0 0 ∧ T'.getD 3 undef = .int .i64 11 else e = .exit 0 ∧ T'.length = 27 ∧ T'.getD 4 undef = by_ (if l = [] then 2 else 2) (encs l) := by
 intro suf
 induction suf with
 | nil =>
  intro pre T r hL hT ha hb hc h4 hl
  have hTe := zu.eta hT
  rw [ha, hb, hc, h4] at hTe
  have hr : zG Try.prog O false zu.jT T S = zG Try.prog O false zu.jT T S := rfl
  have hd : ¬ (pre.length : Int) < (l.length : Int) := by rw [hl]; simp
  conv at hr =>
   rhs
   rw [hTe]
   simp only [zu.jT, zu.code, zu.rs, zSs, reduceIte, Nat.reduceEqDiff, Int.reduceEq, Int.reduceLT, Int.reduceLE, hd]
  refine ⟨_, _, hL.symm.trans (wO hr (by simp)), ?_⟩
  rw [if_neg (by simp)]
  simp only [List.append_nil] at hl
  subst hl
  exact ⟨rfl, rfl, rfl⟩
 | cons n suf ih =>
  intro pre T r hL hT ha hbb hc h4 hl
  have hTe := zu.eta hT
  rw [ha, hbb, hc, h4] at hTe
  have hr : zG Try.prog O false zu.jT T S = zG Try.prog O false zu.jT T S := rfl
  have hll : l.length = pre.length + (suf.length + 1) := by rw [hl]; simp
  have hlt : (pre.length : Int) < (l.length : Int) := by omega
  have e1 : ∀ S, jP Try.prog 57 (iz k l) (.int .i64 pre.length) S = some (EP [.int .i64 n], S) := fun S => by
   rw [ahm hv (by omega) hlt]; rw [XA hl]
  have hn := hb n (by rw [hl]; simp)
  by_cases h1 : n < -1
  ·
   conv at hr =>
    rhs
    rw [hTe]
    simp only [zu.jT, zu.code, zu.rs, zSs, reduceIte, Nat.reduceEqDiff, Int.reduceEq, Int.reduceLT, Int.reduceLE, hlt, e1, Qs, h1]
   refine ⟨_, _, hL.symm.trans (wO hr (by simp)), ?_⟩
   rw [if_pos ⟨n, by simp, h1⟩]
   exact ⟨rfl, rfl, rfl⟩
  ·
   have w1 := Qg (n := n) (by omega) (by omega)
   have hpb : (encs pre).length ≤ pre.length * 10 := vG fun m hm => hb m (by rw [hl]; simp [hm])
   have hp10 : (enc (n + 1).toNat).length ≤ 10 := xQ (by omega)
   have hpp := ade (n + 1).toNat
   have g1 := fun S => zU.v (n + 1).toNat (by omega) S
   have e2 : ∀ S, wU Try.prog 23 23 (by_ (if pre = [] then 2 else 2) (encs pre)) (by_ 2 (enc (n + 1).toNat)) S = some (by_ 2 (encs (pre ++ [n])), S) := fun S => by
    have ok : Okl (if pre = [] then 2 else 2) (encs pre) := ⟨by split <;> omega, fun h => by split at h <;> first | (rename_i hp; subst hp; rfl) | omega⟩
    rw [qw ok (by split <;> omega) Okl.own (by omega), if_neg (fun h => by have := h.2; omega), Zi, aad]
   have wi : IntKind.i64.wrap ((pre.length : Int) + 1) = ((pre ++ [n]).length : Int) := by rw [wrap_i64 (by omega) (by omega)]; simp
   conv at hr =>
    rhs
    rw [hTe]
    simp only [zu.jT, zu.code, zu.rs, zSs, reduceIte, Nat.reduceEqDiff, Int.reduceEq, Int.reduceLT, Int.reduceLE, hlt, e1, Qs, h1, Zc, w1, g1, e2, wi]
   obtain ⟨e, T', g1, g2⟩ := ih (pre ++ [n]) ((yN hr).symm.trans hL) rfl rfl rfl rfl (by rw [if_neg (show ¬ pre ++ [n] = [] by simp)]; rfl) (by simp [hl])
   refine ⟨e, T', g1, ?_⟩
   by_cases h2 : ∃ m ∈ suf, m < -1
   ·
    rw [if_pos h2] at g2
    obtain ⟨m, hm, hm2⟩ := h2
    rw [if_pos ⟨m, by simp [hm], hm2⟩]
    exact g2
   ·
    rw [if_neg h2] at g2
    rw [if_neg (by rintro ⟨m, hm, hm2⟩; rcases List.mem_cons.1 hm with rfl | hm; exact h1 hm2; exact h2 ⟨m, hm, hm2⟩)]
    exact g2
theorem zu.v {k : Nat} {l : List Int} (hv : Okl k l) (hk : k ≠ 2) (hb : ∀ n ∈ l, n < 9223372036854775808) (S : zk) : jf Try.prog O zu.id [iz k l] S = some (aa8 2 l, S) := by
 obtain ⟨T, hTe⟩ : ∃ T, T = (iz k l :: undef :: undef :: undef :: undef :: undef :: undef :: undef :: undef :: undef :: undef :: undef :: undef :: undef :: undef :: undef :: undef :: undef :: undef :: undef :: undef :: undef :: undef :: undef :: undef :: undef :: undef :: []) := ⟨_, rfl⟩
 have hr : zG Try.prog O false zu.code T S = zG Try.prog O false zu.code T S := rfl
 unfold aa8
 by_cases h1 : 64 < l.length
 ·
  have d1 : (64 : Int) < (l.length : Int) := by omega
  conv at hr =>
   rhs
   rw [hTe]
   simp only [zu.code, zu.rs, zSs, reduceIte, Nat.reduceEqDiff, Int.reduceEq, Int.reduceLT, Int.reduceLE, if_neg hk, aaf hv, goInt, d1]
  rw [hTe] at hr
  rw [if_pos (.inl h1)]
  exact zu.runs hr (.inr rfl) (by simp only [List.getD_cons_succ, List.getD_cons_zero, wP, wE, jQ, jY, wC]) (by simp only [List.getD_cons_succ, List.getD_cons_zero, wP, wE, jQ, jY, wC])
 ·
  have d1 : ¬ (64 : Int) < (l.length : Int) := by omega
  conv at hr =>
   rhs
   rw [hTe]
   simp only [zu.code, zu.rs, zSs, reduceIte, Nat.reduceEqDiff, Int.reduceEq, Int.reduceLT, Int.reduceLE, if_neg hk, aaf hv, goInt, d1, ZJ, afN]
  generalize hL : qo (zG Try.prog O false zu.jT) _ _ = r at hr
  obtain ⟨e, T', rfl, g⟩ := zu.round hv hk (by omega) hb l [] hL rfl rfl rfl rfl rfl rfl
  by_cases h2 : ∃ n ∈ l, n < -1
  ·
   rw [if_pos h2] at g
   obtain ⟨rfl, g2, g3⟩ := g
   conv at hr =>
    rhs
    simp only [zSs, reduceIte, Nat.reduceEqDiff, Int.reduceEq, Int.reduceLT, Int.reduceLE]
   rw [hTe] at hr
   rw [if_pos (.inr h2)]
   have hrun := zu.runs hr (.inr rfl) (by rw [g2]; rfl) (by rw [g3]; rfl)
   rw [g2, g3] at hrun
   exact hrun
  ·
   rw [if_neg h2] at g
   obtain ⟨rfl, g2, g3⟩ := g
   have hTe' := zu.eta g2
   rw [g3] at hTe'
   conv at hr =>
    rhs
    rw [hTe']
    simp only [zu.code, zu.rs, zSs, reduceIte, Nat.reduceEqDiff, Int.reduceEq, Int.reduceLT, Int.reduceLE]
   rw [hTe] at hr
   rw [if_neg (by rintro (h | h); exact h1 h; exact h2 h)]
   exact zu.runs hr (.inr rfl) (by simp only [List.getD_cons_succ, List.getD_cons_zero, wP, wE, jQ, jY, wC]) (by simp only [List.getD_cons_succ, List.getD_cons_zero, wP, wE, jQ, jY, wC])
end Go.Proofs.Ytbgcphbbchndkaa
namespace Go.Proofs.Ytbgcphbbchndkaa
open Go.Abs
theorem vg {k : Nat} {l : List Int} (h : l.length ≤ 64) (h1 : ∀ n ∈ l, -1 ≤ n) (h0 : l ≠ []) : aa8 k l = .tuple #[by_ 2 (encs l), .int .i64 0] := by
 unfold aa8
 rw [if_neg (by rintro (h2 | ⟨n, h2, h3⟩); { omega }; { have := h1 n h2; omega }), if_neg h0]
end Go.Proofs.Ytbgcphbbchndkaa
namespace Go.Proofs.Ytbgcphbbchndkaa
open Go.Abs
def Wx (n : Int) : Int := IntKind.u64.wrap (IntKind.u64.wrap (IntKind.u64.wrap n + 1) * 11400714819323198485)
def JA (h : Int) (x : UInt8) : Int := IntKind.u64.wrap (aaq .u64 h (x.toNat : Int) * 1099511628211)
def ahK (h : Int) : Int := aaq .u64 h (h.fdiv (2 ^ min (Int.toNat 29) (IntKind.bits .u64)))
def Zr (key : Int) (b : List UInt8) : Int := ahK (b.foldl JA (aaq .u64 key 14695981039346656037))
theorem KY (x : UInt8) : IntKind.u64.wrap (x.toNat : Int) = (x.toNat : Int) := abV (by have := x.toNat_lt; omega)
theorem WT (x : Int) : IntKind.u64.wrap x = x % 18446744073709551616 := rfl
theorem VZ (a b : Int) : 0 ≤ aaq .u64 a b ∧ aaq .u64 a b < 18446744073709551616 := by
 unfold aaq
 have h : ∀ x : Int, 0 ≤ IntKind.u64.wrap x ∧ IntKind.u64.wrap x < 18446744073709551616 := fun x => by rw [WT]; omega
 first | exact h _ | (simp only [IntKind.ofBits, IntKind.signed]; first | exact h _ | omega)
theorem aeN (h : Int) (x : UInt8) : 0 ≤ JA h x ∧ JA h x < 18446744073709551616 := by unfold JA; rw [WT]; omega
theorem qh.v (n : Int) (S : zk) : jf Try.prog O qh.id [.int .i64 n] S = some (.int .u64 (Wx n), S) := by
 obtain ⟨T, hTe⟩ : ∃ T, T = (.int .i64 n :: undef :: undef :: undef :: undef :: undef :: undef :: []) := ⟨_, rfl⟩
 have hr : zG Try.prog O false qh.code T S = zG Try.prog O false qh.code T S := rfl
 conv at hr =>
  rhs
  rw [hTe]
  simp only [qh.code, qh.rs, zSs, reduceIte, Nat.reduceEqDiff, Int.reduceEq, Int.reduceLT, Int.reduceLE, JM, Zc]
 rw [hTe] at hr
 exact qh.runs hr (.inr rfl)
theorem aaz (S : zk) : jf Try.prog O wY.id [.int .i64 0] S = some (.int .u64 (Wx 0), S) := vk (n := 70) (by kernel_rfl)
theorem abb (S : zk) : jf Try.prog O wY.id [.int .i64 1] S = some (.int .u64 (Wx 1), S) := vk (n := 70) (by kernel_rfl)
theorem aaG (S : zk) : jf Try.prog O wY.id [.int .i64 2] S = some (.int .u64 (Wx 2), S) := vk (n := 70) (by kernel_rfl)
theorem aa6 (S : zk) : jf Try.prog O wY.id [.int .i64 3] S = some (.int .u64 (Wx 3), S) := vk (n := 70) (by kernel_rfl)
theorem abg (S : zk) : jf Try.prog O wY.id [.int .i64 4] S = some (.int .u64 (Wx 4), S) := vk (n := 70) (by kernel_rfl)
theorem aaE (S : zk) : jf Try.prog O wY.id [.int .i64 5] S = some (.int .u64 (Wx 5), S) := vk (n := 70) (by kernel_rfl)
theorem aaD (S : zk) : jf Try.prog O wY.id [.int .i64 6] S = some (.int .u64 (Wx 6), S) := vk (n := 70) (by kernel_rfl)
theorem wY.v {n : Int} (h0 : 0 ≤ n) (h6 : n ≤ 6) (S : zk) : jf Try.prog O wY.id [.int .i64 n] S = some (.int .u64 (Wx n), S) := by
 have : n = 0 ∨ n = 1 ∨ n = 2 ∨ n = 3 ∨ n = 4 ∨ n = 5 ∨ n = 6 := by omega
 rcases this with rfl | rfl | rfl | rfl | rfl | rfl | rfl
 ·
  exact aaz S
 ·
  exact abb S
 ·
  exact aaG S
 ·
  exact aa6 S
 ·
  exact abg S
 ·
  exact aaE S
 ·
  exact aaD S
section
variable {l : List UInt8} {k : Nat}
theorem jH.round (hv : Okl k l) (hlen : l.length ≤ 140737488355328) {S : zk} : ∀ (suf pre : List UInt8) (h : Int) {T : List Value} {r : St}, qo (zG Try.prog O false jH.jT) T S = r → T.length = 35 →
  T.getD 5 undef = .int .u64 h → T.getD 18 undef = by_ k l → T.getD 19 undef = .int .i64 l.length → T.getD 20 undef = .int .i64 pre.length → l = pre ++ suf →
  ∃ T', r = some (.exit 2, T', S) ∧ T'.length = 35 ∧ T'.getD 5 undef = .int .u64 (suf.foldl JA h) ∧ T'.getD 12 undef = T.getD 12 undef ∧ T'.getD 13 undef = T.getD 13 undef ∧ T'.getD 14 undef = T.getD 14 undef := by
 intro suf
 induction suf with
 | nil =>
  intro pre h T r hL hT h5 h18 h19 h20 hl
  have hTe := jH.eta hT
  rw [h5, h18, h19, h20] at hTe
  have hr : zG Try.prog O false jH.jT T S = zG Try.prog O false jH.jT T S := rfl
  have d1 : ¬ (pre.length : Int) < (l.length : Int) := by rw [hl]; simp
  conv at hr =>
   rhs
   rw [hTe]
   simp only [jH.jT, jH.code, jH.rs, zSs, reduceIte, Nat.reduceEqDiff, Int.reduceEq, Int.reduceLT, Int.reduceLE, d1]
  exact ⟨_, hL.symm.trans (wO hr (by simp)), rfl, rfl, rfl, rfl, rfl⟩
 | cons x suf ih =>
  intro pre h T r hL hT h5 h18 h19 h20 hl
  have hTe := jH.eta hT
  rw [h5, h18, h19, h20] at hTe
  have hr : zG Try.prog O false jH.jT T S = zG Try.prog O false jH.jT T S := rfl
  have d1 : (pre.length : Int) < (l.length : Int) := by rw [hl]; simp; omega
  have e1 : ∀ S, jP Try.prog 23 (by_ k l) (.int .i64 pre.length) S = some (EP [.int .u8 x.toNat], S) := fun S => by
   rw [ahl hv (by omega) d1]; rw [abS hl]
  have wi : IntKind.i64.wrap ((pre.length : Int) + 1) = ((pre ++ [x]).length : Int) := by rw [wrap_i64 (by omega) (by omega)]; simp
  have em : IntKind.u64.wrap (aaq .u64 h (x.toNat : Int) * 1099511628211) = JA h x := rfl
  conv at hr =>
   rhs
   rw [hTe]
   simp only [jH.jT, jH.code, jH.rs, zSs, reduceIte, Nat.reduceEqDiff, Int.reduceEq, Int.reduceLT, Int.reduceLE, d1, e1, adJ, Zz, KY, ZN, JM, em, wi]
  obtain ⟨T', q1, q2, q3, q4, q5, q6⟩ := ih (pre ++ [x]) (JA h x) ((yN hr).symm.trans hL) rfl rfl rfl rfl rfl (by simp [hl])
  exact ⟨T', q1, q2, q3, q4, q5, q6⟩
theorem ZT (S : zk) : jJ Try.prog 88 1 [(0, by_ 1 l)] S = some (sv 2 1 1 [by_ 1 l], S) := by kernel_rfl
theorem adS (i : Int) (hi : i = 0) (S : zk) : jP Try.prog 88 (sv 1 1 1 [by_ 1 l]) (.int .i64 i) S = some (EP [by_ 1 l], S) := by subst hi; exact JX Vs abP ⟨by decide, fun h => by cases h⟩ (by omega) (by omega)
theorem jH.v (hlen : l.length ≤ 140737488355328) {key : Int} (S : zk) : jf Try.prog O jH.id [.int .u64 key, sv 1 1 1 [by_ 1 l]] S = some (.int .u64 (Zr key l), S) := by
 obtain ⟨T, hTe⟩ : ∃ T, T = (.int .u64 key :: sv 1 1 1 [by_ 1 l] :: undef :: undef :: undef :: undef :: undef :: undef :: undef :: undef :: undef :: undef :: undef :: undef :: undef :: undef :: undef :: undef :: undef :: undef :: undef :: undef :: undef :: undef :: undef :: undef :: undef :: undef :: undef :: undef :: undef :: undef :: undef :: undef :: undef :: []) := ⟨_, rfl⟩
 have hr : zG Try.prog O false jH.code T S = zG Try.prog O false jH.code T S := rfl
 have ln : ∀ S, Zw Try.prog 88 (sv 1 1 1 [by_ 1 l]) S = some (.int .i64 1, S) := fun S => by kernel_rfl
 have lb : ∀ S, Zw Try.prog 23 (by_ 1 l) S = some (.int .i64 l.length, S) := fun S => ab2 Okl.read
 conv at hr =>
  rhs
  rw [hTe]
  simp only [jH.code, jH.rs, zSs, reduceIte, Nat.reduceEqDiff, Int.reduceEq, Int.reduceLT, Int.reduceLE, ZN, ln]
 generalize hL : qo (zG Try.prog O false jH.Zb) _ _ = r at hr
 have key1 : ∃ T', r = some (.exit 0, T', S) ∧ T'.length = 35 ∧ T'.getD 5 undef = .int .u64 (l.foldl JA (aaq .u64 key 14695981039346656037)) := by
  generalize hT0 : (_ :: _ : List Value) = T0 at hL
  have hT0' : T0.length = 35 := by rw [← hT0]; rfl
  have g5 : T0.getD 5 undef = .int .u64 (aaq .u64 key 14695981039346656037) := by rw [← hT0]; rfl
  have g12 : T0.getD 12 undef = sv 1 1 1 [by_ 1 l] := by rw [← hT0]; rfl
  have g13 : T0.getD 13 undef = .int .i64 1 := by rw [← hT0]; rfl
  have g14 : T0.getD 14 undef = .int .i64 0 := by rw [← hT0]; rfl
  have hTe := jH.eta hT0'
  rw [g5, g12, g13, g14] at hTe
  have hr : zG Try.prog O false jH.Zb T0 S = zG Try.prog O false jH.Zb T0 S := rfl
  have z1 : (0 : Int) < 1 := by omega
  conv at hr =>
   rhs
   rw [hTe]
   simp only [jH.Zb, jH.code, jH.rs, zSs, reduceIte, Nat.reduceEqDiff, Int.reduceEq, Int.reduceLT, Int.reduceLE, z1, adS 0 rfl, Ya adD, lb]
  generalize hL1 : qo (zG Try.prog O false jH.jT) _ _ = r1 at hr
  obtain ⟨T1, rfl, q1, q2, q3, q4, q5⟩ := jH.round (Okl.read (l := l)) hlen l [] _ hL1 rfl rfl rfl rfl rfl rfl
  have q3 : T1.getD 12 undef = sv 1 1 1 [by_ 1 l] := q3
  have q4 : T1.getD 13 undef = .int .i64 1 := q4
  have q5 : T1.getD 14 undef = .int .i64 0 := q5
  have hT1 := jH.eta q1
  rw [q2, q3, q4, q5] at hT1
  have w1 : IntKind.i64.wrap (0 + 1) = 1 := by decide
  conv at hr =>
   rhs
   rw [hT1]
   simp only [jH.code, jH.rs, zSs, reduceIte, Nat.reduceEqDiff, Int.reduceEq, Int.reduceLT, Int.reduceLE, w1]
  have hL2 := (yN hr).symm.trans hL
  generalize hT2 : (_ :: _ : List Value) = T2 at hL2
  have hT2' : T2.length = 35 := by rw [← hT2]; rfl
  have f5 : T2.getD 5 undef = .int .u64 (l.foldl JA (aaq .u64 key 14695981039346656037)) := by rw [← hT2]; rfl
  have f13 : T2.getD 13 undef = .int .i64 1 := by rw [← hT2]; rfl
  have f14 : T2.getD 14 undef = .int .i64 1 := by rw [← hT2]; rfl
  have hTe2 := jH.eta hT2'
  rw [f5, f13, f14] at hTe2
  have hr2 : zG Try.prog O false jH.Zb T2 S = zG Try.prog O false jH.Zb T2 S := rfl
  have z2 : ¬ (1 : Int) < 1 := by omega
  conv at hr2 =>
   rhs
   rw [hTe2]
   simp only [jH.Zb, jH.code, jH.rs, zSs, reduceIte, Nat.reduceEqDiff, Int.reduceEq, Int.reduceLT, Int.reduceLE, z2]
  exact ⟨_, hL2.symm.trans (wO hr2 (by simp)), rfl, rfl⟩
 obtain ⟨T', rfl, g1, g2⟩ := key1
 have hT' := jH.eta g1
 rw [g2] at hT'
 conv at hr =>
  rhs
  rw [hT']
  simp only [jH.code, jH.rs, zSs, reduceIte, Nat.reduceEqDiff, Int.reduceEq, Int.reduceLT, Int.reduceLE, ZN, VW _ _ _ _ (show (0 : Int) ≤ 29 by omega)]
 rw [hTe] at hr
 exact jH.runs hr (.inr rfl)
theorem mref (h : Int) : IntKind.u64.wrap (IntKind.u64.wrap (IntKind.u64.wrap (h * 2 ^ (min (Int.toNat 40) (IntKind.bits .u64))) + IntKind.u64.wrap (h * 2 ^ (min (Int.toNat 8) (IntKind.bits .u64)))) + IntKind.u64.wrap (h * 179)) = IntKind.u64.wrap (h * 1099511628211) := by
 have e1 : (2 : Int) ^ (min (Int.toNat 40) (IntKind.bits .u64)) = 1099511627776 := by decide
 have e2 : (2 : Int) ^ (min (Int.toNat 8) (IntKind.bits .u64)) = 256 := by decide
 rw [e1, e2]
 simp only [WT]
 omega
theorem aer {h : Int} (h0 : 0 ≤ h) (h1 : h < 18446744073709551616) : aaq .u64 h (IntKind.u64.wrap (h.tdiv 536870912)) = ahK h := by
 unfold ahK
 congr 1
 have e1 : (2 : Int) ^ (min (Int.toNat 29) (IntKind.bits .u64)) = 536870912 := by decide
 rw [e1, WT, Int.tdiv_eq_ediv_of_nonneg h0, Int.fdiv_eq_ediv_of_nonneg _ (by omega)]
 omega
theorem ads : ∀ (l : List UInt8) (h : Int), 0 ≤ h → h < 18446744073709551616 → 0 ≤ l.foldl JA h ∧ l.foldl JA h < 18446744073709551616
 | [], h, h0, h1 => ⟨h0, h1⟩
 | x :: l, h, h0, h1 => by
  have := aeN h x
  exact ads l _ this.1 this.2
theorem zD.round (hv : Okl k l) (hk : k ≠ 2) (hlen : l.length ≤ 140737488355328) {S : zk} : ∀ (suf pre : List UInt8) (h : Int) {T : List Value} {r : St}, qo (zG Try.prog O false zD.jT) T S = r → T.length = 34 →
  T.getD 1 undef = by_ k l → T.getD 5 undef = .int .u64 h → T.getD 6 undef = .int .i64 pre.length → l = pre ++ suf →
  ∃ T', r = some (.exit 0, T', S) ∧ T'.length = 34 ∧ T'.getD 5 undef = .int .u64 (suf.foldl JA h) := by
 intro suf
 induction suf with
 | nil =>
  intro pre h T r hL hT h1 h5 h6 hl
  have hTe := zD.eta hT
  rw [h1, h5, h6] at hTe
  have hr : zG Try.prog O false zD.jT T S = zG Try.prog O false zD.jT T S := rfl
  have d1 : ¬ (pre.length : Int) < (l.length : Int) := by rw [hl]; simp
  conv at hr =>
   rhs
   rw [hTe]
   simp only [zD.jT, zD.code, zD.rs, zSs, reduceIte, Nat.reduceEqDiff, Int.reduceEq, Int.reduceLT, Int.reduceLE, if_neg hk, ab2 hv, goInt, d1]
  exact ⟨_, hL.symm.trans (wO hr (by simp)), rfl, rfl⟩
 | cons x suf ih =>
  intro pre h T r hL hT h1 h5 h6 hl
  have hTe := zD.eta hT
  rw [h1, h5, h6] at hTe
  have hr : zG Try.prog O false zD.jT T S = zG Try.prog O false zD.jT T S := rfl
  have d1 : (pre.length : Int) < (l.length : Int) := by rw [hl]; simp; omega
  have e1 : ∀ S, jP Try.prog 23 (by_ k l) (.int .i64 pre.length) S = some (EP [.int .u8 x.toNat], S) := fun S => by
   rw [ahl hv (by omega) d1]; rw [abS hl]
  have wi : IntKind.i64.wrap ((pre.length : Int) + 1) = ((pre ++ [x]).length : Int) := by rw [wrap_i64 (by omega) (by omega)]; simp
  have em : IntKind.u64.wrap (aaq .u64 h (x.toNat : Int) * 1099511628211) = JA h x := rfl
  conv at hr =>
   rhs
   rw [hTe]
   simp only [zD.jT, zD.code, zD.rs, zSs, reduceIte, Nat.reduceEqDiff, Int.reduceEq, Int.reduceLT, Int.reduceLE, if_neg hk, ab2 hv, goInt, d1, e1, adJ, Zz, KY, ZN, JM, aan _ _ _ _ (show (0 : Int) ≤ 40 by omega), aan _ _ _ _ (show (0 : Int) ≤ 8 by omega), mref, em, wi]
  obtain ⟨T', q1, q2, q3⟩ := ih (pre ++ [x]) (JA h x) ((yN hr).symm.trans hL) rfl rfl rfl rfl (by simp [hl])
  exact ⟨T', q1, q2, q3⟩
theorem zD.v (hv : Okl k l) (hk : k ≠ 2) (hlen : l.length ≤ 140737488355328) {key : Int} (S : zk) : jf Try.prog O zD.id [.int .u64 key, by_ k l] S = some (.int .u64 (Zr key l), S) := by
 obtain ⟨T, hTe⟩ : ∃ T, T = (.int .u64 key :: by_ k l :: undef :: undef :: undef :: undef :: undef :: undef :: undef :: undef :: undef :: undef :: undef :: undef :: undef :: undef :: undef :: undef :: undef :: undef :: undef :: undef :: undef :: undef :: undef :: undef :: undef :: undef :: undef :: undef :: undef :: undef :: undef :: undef :: []) := ⟨_, rfl⟩
 have hr : zG Try.prog O false zD.code T S = zG Try.prog O false zD.code T S := rfl
 conv at hr =>
  rhs
  rw [hTe]
  simp only [zD.code, zD.rs, zSs, reduceIte, Nat.reduceEqDiff, Int.reduceEq, Int.reduceLT, Int.reduceLE, ZN]
 generalize hL : qo (zG Try.prog O false zD.jT) _ _ = r at hr
 obtain ⟨T', rfl, g1, g2⟩ := zD.round hv hk hlen l [] _ hL rfl rfl rfl rfl rfl
 have hT' := zD.eta g1
 rw [g2] at hT'
 have hx := VZ key 14695981039346656037
 have hi := ads l _ hx.1 hx.2
 have em := aer hi.1 hi.2
 conv at hr =>
  rhs
  rw [hT']
  simp only [zD.code, zD.rs, zSs, reduceIte, Nat.reduceEqDiff, Int.reduceEq, Int.reduceLT, Int.reduceLE, qQ _ _ _ (show (536870912 : Int) ≠ 0 by omega), ZN, em]
 rw [hTe] at hr
 exact zD.runs hr (.inr rfl)
end
end Go.Proofs.Ytbgcphbbchndkaa
namespace Go.Proofs.Ytbgcphbbchndkaa
open Go.Abs
abbrev jO.id : FuncId := 41
noncomputable def jO.code : Code := (Code.seq (Code.region 0 (reg Try.f41 0) false) (Code.seq (Code.region 1 (reg Try.f41 1) false) Code.ret))
theorem jO.body : Try.f41.body = some jO.code := by kernel_rfl
variable (g i k l x4 x5 x6 x7 x8 x9 o p q r s t u w x y z A B C D E F G H I J K L M N P Q R : Value) (S : zk)
theorem jO.r0  : jE Try.prog ⟨false, false, false⟩ (jf Try.prog O) (reg Try.f41 0) (reg Try.f41 0).toList ([g,i,k,l,x4,x5,x6,x7,x8,x9,o,p,q,r,s,t,u,w,x,y,z,A,B,C,D,E,F,G,H,I,J,K,L,M,N,P,Q,R]) S =
  (zM (vV (dem g) S) (fun U m => zM (vV (dem i) m) (fun V S2 => some ([g,i,U,V,Value.bool false,x5,x6,x7,x8,x9,o,p,q,r,s,t,u,w,x,y,z,A,B,C,D,E,F,G,H,I,J,K,L,M,N,P,Q,R], S2)) ()) ()) := by
 kernel_rfl
theorem jO.r1  : jE Try.prog ⟨false, false, false⟩ (jf Try.prog O) (reg Try.f41 1) (reg Try.f41 1).toList ([g,i,k,l,x4,x5,x6,x7,x8,x9,o,p,q,r,s,t,u,w,x,y,z,A,B,C,D,E,F,G,H,I,J,K,L,M,N,P,Q,R]) S =
  (zM (zo Try.prog 28 k 0 S) (fun U m => zM (zV Try.prog false 3 U m) (fun V S2 => zM (zo Try.prog 28 l 0 S2) (fun v2 S3 => zM (zV Try.prog false 3 v2 S3) (fun v3 S4 => zM (jS Try.prog BinOp.eql 3 V v3 S4) (fun f S5 => gdK (dem f) true (zo Try.prog 28 k 1) S5 (fun v6 S6 => gdK (dem f) true (zV Try.prog false 3 v6) S6 (fun v7 S7 => gdK (dem f) true (zo Try.prog 28 l 1) S7 (fun v8 S8 => gdK (dem f) true (zV Try.prog false 3 v8) S8 (fun v9 S9 => gdK (dem f) true (jS Try.prog BinOp.eql 3 v7 v9) S9 (fun W b2 => zM (wH (dem f) W (Value.bool false) b2) (fun b b3 => gdK (dem b) true (zo Try.prog 28 k 2) b3 (fun X b4 => gdK (dem b) true (zV Try.prog false 3 X) b4 (fun Y b5 => gdK (dem b) true (zo Try.prog 28 l 2) b5 (fun Z b6 => gdK (dem b) true (zV Try.prog false 3 Z) b6 (fun a0 b7 => gdK (dem b) true (jS Try.prog BinOp.eql 3 Y a0) b7 (fun a1 b8 => zM (wH (dem b) a1 (Value.bool false) b8) (fun c b9 => gdK (dem c) true (zo Try.prog 28 k 3) b9 (fun a2 c0 => gdK (dem c) true (zV Try.prog false 3 a2) c0 (fun a3 c1 => gdK (dem c) true (zo Try.prog 28 l 3) c1 (fun a4 c2 => gdK (dem c) true (zV Try.prog false 3 a4) c2 (fun a5 c3 => gdK (dem c) true (jS Try.prog BinOp.eql 3 a3 a5) c3 (fun a6 c4 => zM (wH (dem c) a6 (Value.bool false) c4) (fun d c5 => gdK (dem d) true (zo Try.prog 28 k 4) c5 (fun a7 c6 => gdK (dem d) true (zV Try.prog false 26 a7) c6 (fun a8 c7 => gdK (dem d) true (zo Try.prog 28 l 4) c7 (fun a9 c8 => gdK (dem d) true (zV Try.prog false 26 a9) c8 (fun b0 c9 => gdK (dem d) true ((jf Try.prog O) 60 [(dem a8), (dem b0)]) c9 (fun b1 d0 => zM (wH (dem d) b1 (Value.bool false) d0) (fun n d1 => some ([g,i,k,l,n,U,V,v2,v3,f,dem f,v6,v7,v8,v9,W,b,dem b,X,Y,Z,a0,a1,c,dem c,a2,a3,a4,a5,a6,d,dem d,a7,a8,a9,b0,b1,dem n], d1)) ()) ()) ()) ()) ()) ()) ()) ()) ()) ()) ()) ()) ()) ()) ()) ()) ()) ()) ()) ()) ()) ()) ()) ()) ()) ()) ()) ()) ()) := by
 refine sD Try.f41 1 0 (fun U m => ?_)
 refine sD Try.f41 1 1 (fun V S2 => ?_)
 refine sD Try.f41 1 2 (fun v2 S3 => ?_)
 refine sD Try.f41 1 3 (fun v3 S4 => ?_)
 refine sD Try.f41 1 4 (fun f S5 => ?_)
 refine sP Try.f41 1 5 (v := f) ?_
 refine sG Try.f41 1 6 (j := 5) (fun v6 S6 => ?_)
 refine sG Try.f41 1 7 (j := 5) (fun v7 S7 => ?_)
 refine sG Try.f41 1 8 (j := 5) (fun v8 S8 => ?_)
 refine sG Try.f41 1 9 (j := 5) (fun v9 S9 => ?_)
 refine sG Try.f41 1 10 (j := 5) (fun W b2 => ?_)
 refine sD Try.f41 1 11 (fun b b3 => ?_)
 refine sP Try.f41 1 12 (v := b) ?_
 refine sG Try.f41 1 13 (j := 12) (fun X b4 => ?_)
 refine sG Try.f41 1 14 (j := 12) (fun Y b5 => ?_)
 refine sG Try.f41 1 15 (j := 12) (fun Z b6 => ?_)
 refine sG Try.f41 1 16 (j := 12) (fun a0 b7 => ?_)
 refine sG Try.f41 1 17 (j := 12) (fun a1 b8 => ?_)
 refine sD Try.f41 1 18 (fun c b9 => ?_)
 refine sP Try.f41 1 19 (v := c) ?_
 refine sG Try.f41 1 20 (j := 19) (fun a2 c0 => ?_)
 refine sG Try.f41 1 21 (j := 19) (fun a3 c1 => ?_)
 refine sG Try.f41 1 22 (j := 19) (fun a4 c2 => ?_)
 refine sG Try.f41 1 23 (j := 19) (fun a5 c3 => ?_)
 refine sG Try.f41 1 24 (j := 19) (fun a6 c4 => ?_)
 refine sD Try.f41 1 25 (fun d c5 => ?_)
 refine sP Try.f41 1 26 (v := d) ?_
 refine sG Try.f41 1 27 (j := 26) (fun a7 c6 => ?_)
 refine sG Try.f41 1 28 (j := 26) (fun a8 c7 => ?_)
 refine sG Try.f41 1 29 (j := 26) (fun a9 c8 => ?_)
 refine sG Try.f41 1 30 (j := 26) (fun b0 c9 => ?_)
 refine sG Try.f41 1 31 (j := 26) (fun b1 d0 => ?_)
 refine sD Try.f41 1 32 (fun n d1 => ?_)
 refine sP Try.f41 1 33 (v := n) ?_
 kernel_rfl
theorem jO.rs : type_of% (And.intro @jO.r0 (@jO.r1)) := And.intro @jO.r0 (@jO.r1)
theorem jO.runs {g i : Value} {S m : zk} {e : AEx} {T : List Value} (h : zG Try.prog O false jO.code ([g,i,undef,undef,undef,undef,undef,undef,undef,undef,undef,undef,undef,undef,undef,undef,undef,undef,undef,undef,undef,undef,undef,undef,undef,undef,undef,undef,undef,undef,undef,undef,undef,undef,undef,undef,undef,undef]) zk.empty = some (e, T, m)) (he : e = .normal ∨ e = .ret) (hca : [g, i].all (jB 16) = true) (hcv : jB 16 (T.getD 4 undef) = true) : jf Try.prog O 41 [g, i] S = some (T.getD 4 undef, S) :=
 yc rfl rfl Try.func41 (by decide) jO.body (by exact h) he (yg (a := T.getD 4 undef) ((show zO Try.prog T m Try.f41.results.toList = zO Try.prog T m [(ResultVar.tmp 4)] from by kernel_rfl).trans (by simp only [zO])) (by kernel_rfl)) hca hcv
end Go.Proofs.Ytbgcphbbchndkaa
namespace Go.Proofs.Ytbgcphbbchndkaa
open Go.Abs
abbrev zW.id : FuncId := 31
noncomputable def zW.code : Code := (Code.seq (Code.region 0 (reg Try.f31 0) false) (Code.seq (Code.region 1 (reg Try.f31 1) false) Code.ret))
theorem zW.body : Try.f31.body = some zW.code := by kernel_rfl
variable (g i k l x4 x5 x6 x7 x8 x9 o p q r s t u w x y z A B C D E F G H I J K L M N P Q R : Value) (S : zk)
theorem zW.r0  : jE Try.prog ⟨false, false, false⟩ (jf Try.prog O) (reg Try.f31 0) (reg Try.f31 0).toList ([g,i,k,l,x4,x5,x6,x7,x8,x9,o,p,q,r,s,t,u,w,x,y,z,A,B,C,D,E,F,G,H,I,J,K,L,M,N,P,Q,R]) S =
  (zM (vV (dem g) S) (fun U m => zM (vV (dem i) m) (fun V S2 => some ([g,i,U,V,Value.bool false,x5,x6,x7,x8,x9,o,p,q,r,s,t,u,w,x,y,z,A,B,C,D,E,F,G,H,I,J,K,L,M,N,P,Q,R], S2)) ()) ()) := by
 kernel_rfl
theorem zW.r1  : jE Try.prog ⟨false, false, false⟩ (jf Try.prog O) (reg Try.f31 1) (reg Try.f31 1).toList ([g,i,k,l,x4,x5,x6,x7,x8,x9,o,p,q,r,s,t,u,w,x,y,z,A,B,C,D,E,F,G,H,I,J,K,L,M,N,P,Q,R]) S =
  (zM (zo Try.prog 28 k 0 S) (fun U m => zM (zV Try.prog false 3 U m) (fun V S2 => zM (zo Try.prog 28 l 0 S2) (fun v2 S3 => zM (zV Try.prog false 3 v2 S3) (fun v3 S4 => zM (jS Try.prog BinOp.eql 3 V v3 S4) (fun f S5 => gdK (dem f) true (zo Try.prog 28 k 1) S5 (fun v6 S6 => gdK (dem f) true (zV Try.prog false 3 v6) S6 (fun v7 S7 => gdK (dem f) true (zo Try.prog 28 l 1) S7 (fun v8 S8 => gdK (dem f) true (zV Try.prog false 3 v8) S8 (fun v9 S9 => gdK (dem f) true (jS Try.prog BinOp.eql 3 v7 v9) S9 (fun W b2 => zM (wH (dem f) W (Value.bool false) b2) (fun b b3 => gdK (dem b) true (zo Try.prog 28 k 2) b3 (fun X b4 => gdK (dem b) true (zV Try.prog false 3 X) b4 (fun Y b5 => gdK (dem b) true (zo Try.prog 28 l 2) b5 (fun Z b6 => gdK (dem b) true (zV Try.prog false 3 Z) b6 (fun a0 b7 => gdK (dem b) true (jS Try.prog BinOp.eql 3 Y a0) b7 (fun a1 b8 => zM (wH (dem b) a1 (Value.bool false) b8) (fun c b9 => gdK (dem c) true (zo Try.prog 28 k 3) b9 (fun a2 c0 => gdK (dem c) true (zV Try.prog false 3 a2) c0 (fun a3 c1 => gdK (dem c) true (zo Try.prog 28 l 3) c1 (fun a4 c2 => gdK (dem c) true (zV Try.prog false 3 a4) c2 (fun a5 c3 => gdK (dem c) true (jS Try.prog BinOp.eql 3 a3 a5) c3 (fun a6 c4 => zM (wH (dem c) a6 (Value.bool false) c4) (fun d c5 => gdK (dem d) true (zo Try.prog 28 k 4) c5 (fun a7 c6 => gdK (dem d) true (zV Try.prog false 26 a7) c6 (fun a8 c7 => gdK (dem d) true (zo Try.prog 28 l 4) c7 (fun a9 c8 => gdK (dem d) true (zV Try.prog false 26 a9) c8 (fun b0 c9 => gdK (dem d) true ((jf Try.prog O) 55 [(dem a8), (dem b0)]) c9 (fun b1 d0 => zM (wH (dem d) b1 (Value.bool false) d0) (fun n d1 => some ([g,i,k,l,n,U,V,v2,v3,f,dem f,v6,v7,v8,v9,W,b,dem b,X,Y,Z,a0,a1,c,dem c,a2,a3,a4,a5,a6,d,dem d,a7,a8,a9,b0,b1,dem n], d1)) ()) ()) ()) ()) ()) ()) ()) ()) ()) ()) ()) ()) ()) ()) ()) ()) ()) ()) ()) ()) ()) ()) ()) ()) ()) ()) ()) ()) ()) := by
 refine sD Try.f31 1 0 (fun U m => ?_)
 refine sD Try.f31 1 1 (fun V S2 => ?_)
 refine sD Try.f31 1 2 (fun v2 S3 => ?_)
 refine sD Try.f31 1 3 (fun v3 S4 => ?_)
 refine sD Try.f31 1 4 (fun f S5 => ?_)
 refine sP Try.f31 1 5 (v := f) ?_
 refine sG Try.f31 1 6 (j := 5) (fun v6 S6 => ?_)
 refine sG Try.f31 1 7 (j := 5) (fun v7 S7 => ?_)
 refine sG Try.f31 1 8 (j := 5) (fun v8 S8 => ?_)
 refine sG Try.f31 1 9 (j := 5) (fun v9 S9 => ?_)
 refine sG Try.f31 1 10 (j := 5) (fun W b2 => ?_)
 refine sD Try.f31 1 11 (fun b b3 => ?_)
 refine sP Try.f31 1 12 (v := b) ?_
 refine sG Try.f31 1 13 (j := 12) (fun X b4 => ?_)
 refine sG Try.f31 1 14 (j := 12) (fun Y b5 => ?_)
 refine sG Try.f31 1 15 (j := 12) (fun Z b6 => ?_)
 refine sG Try.f31 1 16 (j := 12) (fun a0 b7 => ?_)
 refine sG Try.f31 1 17 (j := 12) (fun a1 b8 => ?_)
 refine sD Try.f31 1 18 (fun c b9 => ?_)
 refine sP Try.f31 1 19 (v := c) ?_
 refine sG Try.f31 1 20 (j := 19) (fun a2 c0 => ?_)
 refine sG Try.f31 1 21 (j := 19) (fun a3 c1 => ?_)
 refine sG Try.f31 1 22 (j := 19) (fun a4 c2 => ?_)
 refine sG Try.f31 1 23 (j := 19) (fun a5 c3 => ?_)
 refine sG Try.f31 1 24 (j := 19) (fun a6 c4 => ?_)
 refine sD Try.f31 1 25 (fun d c5 => ?_)
 refine sP Try.f31 1 26 (v := d) ?_
 refine sG Try.f31 1 27 (j := 26) (fun a7 c6 => ?_)
 refine sG Try.f31 1 28 (j := 26) (fun a8 c7 => ?_)
 refine sG Try.f31 1 29 (j := 26) (fun a9 c8 => ?_)
 refine sG Try.f31 1 30 (j := 26) (fun b0 c9 => ?_)
 refine sG Try.f31 1 31 (j := 26) (fun b1 d0 => ?_)
 refine sD Try.f31 1 32 (fun n d1 => ?_)
 refine sP Try.f31 1 33 (v := n) ?_
 kernel_rfl
theorem zW.rs : type_of% (And.intro @zW.r0 (@zW.r1)) := And.intro @zW.r0 (@zW.r1)
theorem zW.runs {g i : Value} {S m : zk} {e : AEx} {T : List Value} (h : zG Try.prog O false zW.code ([g,i,undef,undef,undef,undef,undef,undef,undef,undef,undef,undef,undef,undef,undef,undef,undef,undef,undef,undef,undef,undef,undef,undef,undef,undef,undef,undef,undef,undef,undef,undef,undef,undef,undef,undef,undef,undef]) zk.empty = some (e, T, m)) (he : e = .normal ∨ e = .ret) (hca : [g, i].all (jB 16) = true) (hcv : jB 16 (T.getD 4 undef) = true) : jf Try.prog O 31 [g, i] S = some (T.getD 4 undef, S) :=
 yc rfl rfl Try.func31 (by decide) zW.body (by exact h) he (yg (a := T.getD 4 undef) ((show zO Try.prog T m Try.f31.results.toList = zO Try.prog T m [(ResultVar.tmp 4)] from by kernel_rfl).trans (by simp only [zO])) (by kernel_rfl)) hca hcv
end Go.Proofs.Ytbgcphbbchndkaa
namespace Go.Proofs.Ytbgcphbbchndkaa
open Go.Abs
abbrev jF.id : FuncId := 34
noncomputable def jF.code : Code := (Code.seq (Code.region 0 (reg Try.f34 0) false) (Code.seq (Code.seq (Code.region 1 (reg Try.f34 1) false) (Code.cond (Operand.tmp 10) (Code.seq (Code.region 2 (reg Try.f34 2) false) Code.ret) Code.skip)) (Code.seq (Code.region 3 (reg Try.f34 3) false) (Code.seq (Code.region 4 (reg Try.f34 4) false) (Code.seq (Code.region 5 (reg Try.f34 5) false) Code.ret)))))
theorem jF.body : Try.f34.body = some jF.code := by kernel_rfl
variable (a b K L B F C G H I c d f g i j k l m n o p q r s t u v w x y z A : Value) (S : zk)
theorem jF.r0  : jE Try.prog ⟨false, false, false⟩ (jf Try.prog O) (reg Try.f34 0) (reg Try.f34 0).toList ([a,b,K,L,B,F,C,G,H,I,c,d,f,g,i,j,k,l,m,n,o,p,q,r,s,t,u,v,w,x,y,z,A]) S =
  (zM (vV (dem a) S) (fun J D => some ([a,J,Value.slice none 0 0,Value.int IntKind.i64 0,B,F,C,G,H,I,c,d,f,g,i,j,k,l,m,n,o,p,q,r,s,t,u,v,w,x,y,z,A], D)) ()) := by
 kernel_rfl
theorem jF.r1  : jE Try.prog ⟨false, false, false⟩ (jf Try.prog O) (reg Try.f34 1) (reg Try.f34 1).toList ([a,b,K,L,B,F,C,G,H,I,c,d,f,g,i,j,k,l,m,n,o,p,q,r,s,t,u,v,w,x,y,z,A]) S =
  (zM (zV Try.prog false 28 b S) (fun J D => zM ((jf Try.prog O) 39 [(dem J)] D) (fun M N => zM (aUn Try.prog UnOp.not M N) (fun E P => some ([a,b,K,L,B,F,C,G,J,M,E,d,f,g,i,j,k,l,m,n,o,p,q,r,s,t,u,v,w,x,y,z,A], P)) ()) ()) ()) := by
 kernel_rfl
theorem jF.r2  : jE Try.prog ⟨false, false, false⟩ (jf Try.prog O) (reg Try.f34 2) (reg Try.f34 2).toList ([a,b,K,L,B,F,C,G,H,I,c,d,f,g,i,j,k,l,m,n,o,p,q,r,s,t,u,v,w,x,y,z,A]) S =
  ( some ([a,b,Value.slice none 0 0,Value.int IntKind.i64 71,B,F,C,G,H,I,c,d,f,g,i,j,k,l,m,n,o,p,q,r,s,t,u,v,w,x,y,z,A], S)) := by
 kernel_rfl
theorem jF.r3  : jE Try.prog ⟨false, false, false⟩ (jf Try.prog O) (reg Try.f34 3) (reg Try.f34 3).toList ([a,b,K,L,B,F,C,G,H,I,c,d,f,g,i,j,k,l,m,n,o,p,q,r,s,t,u,v,w,x,y,z,A]) S =
  (zM (zo Try.prog 28 b 0 S) (fun J D => zM (zV Try.prog false 3 J D) (fun M N => zM (zo Try.prog 28 b 1 N) (fun E P => zM (zV Try.prog false 3 E P) (fun Z X => zM (zo Try.prog 28 b 2 X) (fun Q Y => zM (zV Try.prog false 3 Q Y) (fun R S6 => zM (zo Try.prog 28 b 3 S6) (fun v6 S7 => zM (zV Try.prog false 3 v6 S7) (fun v7 S8 => zM (jJ Try.prog 57 4 [(0, M), (1, Z), (2, R), (3, v7)] S8) (fun v8 S9 => zM ((jf Try.prog O) 32 [(dem v8)] S9) (fun U a0 => zM (zY U 0 a0) (fun V a1 => zM (zY (jk 0 U) 1 a1) (fun W a2 => some ([a,b,K,L,V,W,C,G,H,I,c,jk 1 (jk 0 U),J,M,E,Z,Q,R,v6,v7,v8,dem U,dem V,dem W,s,t,u,v,w,x,y,z,A], a2)) ()) ()) ()) ()) ()) ()) ()) ()) ()) ()) ()) ()) := by
 kernel_rfl
theorem jF.r4  : jE Try.prog ⟨false, false, false⟩ (jf Try.prog O) (reg Try.f34 4) (reg Try.f34 4).toList ([a,b,K,L,B,F,C,G,H,I,c,d,f,g,i,j,k,l,m,n,o,p,q,r,s,t,u,v,w,x,y,z,A]) S =
  (zM (zo Try.prog 28 b 4 S) (fun J D => zM (zV Try.prog false 26 J D) (fun M N => zM ((jf Try.prog O) 56 [(dem M)] N) (fun E P => zM (zY E 0 P) (fun Q X => zM (zY (jk 0 E) 1 X) (fun R Y => some ([a,b,K,L,B,F,Q,R,H,I,c,d,f,g,i,j,k,l,m,n,o,p,q,r,jk 1 (jk 0 E),J,M,dem E,dem Q,dem R,y,z,A], Y)) ()) ()) ()) ()) ()) := by
 kernel_rfl
theorem jF.r5  : jE Try.prog ⟨false, false, false⟩ (jf Try.prog O) (reg Try.f34 5) (reg Try.f34 5).toList ([a,b,K,L,B,F,C,G,H,I,c,d,f,g,i,j,k,l,m,n,o,p,q,r,s,t,u,v,w,x,y,z,A]) S =
  (zM (wU Try.prog 23 23 B (dem C) S) (fun E D => some ([a,b,E,Value.int IntKind.i64 0,dem B,F,C,G,H,I,c,d,f,g,i,j,k,l,m,n,o,p,q,r,s,t,u,v,w,x,dem B,dem C,dem E], D)) ()) := by
 kernel_rfl
theorem jF.rs : type_of% (And.intro @jF.r0 (And.intro @jF.r1 (And.intro @jF.r2 (And.intro @jF.r3 (And.intro @jF.r4 (@jF.r5)))))) := And.intro @jF.r0 (And.intro @jF.r1 (And.intro @jF.r2 (And.intro @jF.r3 (And.intro @jF.r4 (@jF.r5)))))
theorem jF.runs {a : Value} {S D : zk} {e : AEx} {T : List Value} (h : zG Try.prog O false jF.code ([a,undef,undef,undef,undef,undef,undef,undef,undef,undef,undef,undef,undef,undef,undef,undef,undef,undef,undef,undef,undef,undef,undef,undef,undef,undef,undef,undef,undef,undef,undef,undef,undef]) zk.empty = some (e, T, D)) (he : e = .normal ∨ e = .ret)  (h0 : wI (T.getD 2 undef) = true) (h1 : wI (T.getD 3 undef) = true) (hca : [a].all (jB 16) = true) (hcv : jB 16 (Value.tuple #[T.getD 2 undef, T.getD 3 undef]) = true) : jf Try.prog O 34 [a] S = some (Value.tuple #[T.getD 2 undef, T.getD 3 undef], S) :=
 yc rfl rfl Try.func34 (by decide) jF.body (by exact h) he ((qM ((show zO Try.prog T D Try.f34.results.toList = zO Try.prog T D [(ResultVar.tmp 2), (ResultVar.tmp 3)] from by kernel_rfl).trans (by simp only [zO])) (by kernel_rfl) (by simp only [List.all_cons, List.all_nil, h0, h1, Bool.and_true])).trans rfl) hca hcv
end Go.Proofs.Ytbgcphbbchndkaa
namespace Go.Proofs.Ytbgcphbbchndkaa
open Go.Abs
abbrev zT.id : FuncId := 44
noncomputable def zT.code : Code := (Code.seq (Code.region 0 (reg Try.f44 0) false) (Code.seq (Code.seq (Code.region 1 (reg Try.f44 1) false) (Code.cond (Operand.tmp 10) (Code.seq (Code.region 2 (reg Try.f44 2) false) Code.ret) Code.skip)) (Code.seq (Code.region 3 (reg Try.f44 3) false) (Code.seq (Code.region 4 (reg Try.f44 4) false) (Code.seq (Code.region 5 (reg Try.f44 5) false) Code.ret)))))
theorem zT.body : Try.f44.body = some zT.code := by kernel_rfl
variable (a b K L B F C G H I c d f g i j k l m n o p q r s t u v w x y z A : Value) (S : zk)
theorem zT.r0  : jE Try.prog ⟨false, false, false⟩ (jf Try.prog O) (reg Try.f44 0) (reg Try.f44 0).toList ([a,b,K,L,B,F,C,G,H,I,c,d,f,g,i,j,k,l,m,n,o,p,q,r,s,t,u,v,w,x,y,z,A]) S =
  (zM (vV (dem a) S) (fun J D => some ([a,J,Value.slice none 0 0,Value.int IntKind.i64 0,B,F,C,G,H,I,c,d,f,g,i,j,k,l,m,n,o,p,q,r,s,t,u,v,w,x,y,z,A], D)) ()) := by
 kernel_rfl
theorem zT.r1  : jE Try.prog ⟨false, false, false⟩ (jf Try.prog O) (reg Try.f44 1) (reg Try.f44 1).toList ([a,b,K,L,B,F,C,G,H,I,c,d,f,g,i,j,k,l,m,n,o,p,q,r,s,t,u,v,w,x,y,z,A]) S =
  (zM (zV Try.prog false 28 b S) (fun J D => zM ((jf Try.prog O) 47 [(dem J)] D) (fun M N => zM (aUn Try.prog UnOp.not M N) (fun E P => some ([a,b,K,L,B,F,C,G,J,M,E,d,f,g,i,j,k,l,m,n,o,p,q,r,s,t,u,v,w,x,y,z,A], P)) ()) ()) ()) := by
 kernel_rfl
theorem zT.r2  : jE Try.prog ⟨false, false, false⟩ (jf Try.prog O) (reg Try.f44 2) (reg Try.f44 2).toList ([a,b,K,L,B,F,C,G,H,I,c,d,f,g,i,j,k,l,m,n,o,p,q,r,s,t,u,v,w,x,y,z,A]) S =
  ( some ([a,b,Value.slice none 0 0,Value.int IntKind.i64 71,B,F,C,G,H,I,c,d,f,g,i,j,k,l,m,n,o,p,q,r,s,t,u,v,w,x,y,z,A], S)) := by
 kernel_rfl
theorem zT.r3  : jE Try.prog ⟨false, false, false⟩ (jf Try.prog O) (reg Try.f44 3) (reg Try.f44 3).toList ([a,b,K,L,B,F,C,G,H,I,c,d,f,g,i,j,k,l,m,n,o,p,q,r,s,t,u,v,w,x,y,z,A]) S =
  (zM (zo Try.prog 28 b 0 S) (fun J D => zM (zV Try.prog false 3 J D) (fun M N => zM (zo Try.prog 28 b 1 N) (fun E P => zM (zV Try.prog false 3 E P) (fun Z X => zM (zo Try.prog 28 b 2 X) (fun Q Y => zM (zV Try.prog false 3 Q Y) (fun R S6 => zM (zo Try.prog 28 b 3 S6) (fun v6 S7 => zM (zV Try.prog false 3 v6 S7) (fun v7 S8 => zM (jJ Try.prog 57 4 [(0, M), (1, Z), (2, R), (3, v7)] S8) (fun v8 S9 => zM ((jf Try.prog O) 42 [(dem v8)] S9) (fun U a0 => zM (zY U 0 a0) (fun V a1 => zM (zY (jk 0 U) 1 a1) (fun W a2 => some ([a,b,K,L,V,W,C,G,H,I,c,jk 1 (jk 0 U),J,M,E,Z,Q,R,v6,v7,v8,dem U,dem V,dem W,s,t,u,v,w,x,y,z,A], a2)) ()) ()) ()) ()) ()) ()) ()) ()) ()) ()) ()) ()) := by
 kernel_rfl
theorem zT.r4  : jE Try.prog ⟨false, false, false⟩ (jf Try.prog O) (reg Try.f44 4) (reg Try.f44 4).toList ([a,b,K,L,B,F,C,G,H,I,c,d,f,g,i,j,k,l,m,n,o,p,q,r,s,t,u,v,w,x,y,z,A]) S =
  (zM (zo Try.prog 28 b 4 S) (fun J D => zM (zV Try.prog false 26 J D) (fun M N => zM ((jf Try.prog O) 61 [(dem M)] N) (fun E P => zM (zY E 0 P) (fun Q X => zM (zY (jk 0 E) 1 X) (fun R Y => some ([a,b,K,L,B,F,Q,R,H,I,c,d,f,g,i,j,k,l,m,n,o,p,q,r,jk 1 (jk 0 E),J,M,dem E,dem Q,dem R,y,z,A], Y)) ()) ()) ()) ()) ()) := by
 kernel_rfl
theorem zT.r5  : jE Try.prog ⟨false, false, false⟩ (jf Try.prog O) (reg Try.f44 5) (reg Try.f44 5).toList ([a,b,K,L,B,F,C,G,H,I,c,d,f,g,i,j,k,l,m,n,o,p,q,r,s,t,u,v,w,x,y,z,A]) S =
  (zM (wU Try.prog 23 23 B (dem C) S) (fun E D => some ([a,b,E,Value.int IntKind.i64 0,dem B,F,C,G,H,I,c,d,f,g,i,j,k,l,m,n,o,p,q,r,s,t,u,v,w,x,dem B,dem C,dem E], D)) ()) := by
 kernel_rfl
theorem zT.rs : type_of% (And.intro @zT.r0 (And.intro @zT.r1 (And.intro @zT.r2 (And.intro @zT.r3 (And.intro @zT.r4 (@zT.r5)))))) := And.intro @zT.r0 (And.intro @zT.r1 (And.intro @zT.r2 (And.intro @zT.r3 (And.intro @zT.r4 (@zT.r5)))))
theorem zT.runs {a : Value} {S D : zk} {e : AEx} {T : List Value} (h : zG Try.prog O false zT.code ([a,undef,undef,undef,undef,undef,undef,undef,undef,undef,undef,undef,undef,undef,undef,undef,undef,undef,undef,undef,undef,undef,undef,undef,undef,undef,undef,undef,undef,undef,undef,undef,undef]) zk.empty = some (e, T, D)) (he : e = .normal ∨ e = .ret)  (h0 : wI (T.getD 2 undef) = true) (h1 : wI (T.getD 3 undef) = true) (hca : [a].all (jB 16) = true) (hcv : jB 16 (Value.tuple #[T.getD 2 undef, T.getD 3 undef]) = true) : jf Try.prog O 44 [a] S = some (Value.tuple #[T.getD 2 undef, T.getD 3 undef], S) :=
 yc rfl rfl Try.func44 (by decide) zT.body (by exact h) he ((qM ((show zO Try.prog T D Try.f44.results.toList = zO Try.prog T D [(ResultVar.tmp 2), (ResultVar.tmp 3)] from by kernel_rfl).trans (by simp only [zO])) (by kernel_rfl) (by simp only [List.all_cons, List.all_nil, h0, h1, Bool.and_true])).trans rfl) hca hcv
end Go.Proofs.Ytbgcphbbchndkaa
namespace Go.Proofs.Ytbgcphbbchndkaa
open Go.Abs
abbrev jc.id : FuncId := 39
noncomputable def jc.code : Code := (Code.seq (Code.region 0 (reg Try.f39 0) false) (Code.seq (Code.seq (Code.region 1 (reg Try.f39 1) false) (Code.cond (Operand.tmp 20) (Code.seq (Code.region 2 (reg Try.f39 2) false) Code.ret) Code.skip)) (Code.seq (Code.seq (Code.region 3 (reg Try.f39 3) false) (Code.cond (Operand.tmp 37) (Code.seq (Code.region 4 (reg Try.f39 4) false) Code.ret) Code.skip)) (Code.seq (Code.region 5 (reg Try.f39 5) false) (Code.seq (Code.region 6 (reg Try.f39 6) false) Code.ret)))))
theorem jc.body : Try.f39.body = some jc.code := by kernel_rfl
variable (U b x2 X V Y Z x7 x8 x9 c d f g i k l m n o p q r s t u w x y z A B C D E F G H I J K L M N P Q : Value) (S : zk)
theorem jc.r0  : jE Try.prog ⟨false, false, false⟩ (jf Try.prog O) (reg Try.f39 0) (reg Try.f39 0).toList ([U,b,x2,X,V,Y,Z,x7,x8,x9,c,d,f,g,i,k,l,m,n,o,p,q,r,s,t,u,w,x,y,z,A,B,C,D,E,F,G,H,I,J,K,L,M,N,P,Q]) S =
  (zM (vV (dem U) S) (fun v0 W => some ([U,v0,Value.bool false,X,V,Y,Z,x7,x8,x9,c,d,f,g,i,k,l,m,n,o,p,q,r,s,t,u,w,x,y,z,A,B,C,D,E,F,G,H,I,J,K,L,M,N,P,Q], W)) ()) := by
 kernel_rfl
theorem jc.r1  : jE Try.prog ⟨false, false, false⟩ (jf Try.prog O) (reg Try.f39 1) (reg Try.f39 1).toList ([U,b,x2,X,V,Y,Z,x7,x8,x9,c,d,f,g,i,k,l,m,n,o,p,q,r,s,t,u,w,x,y,z,A,B,C,D,E,F,G,H,I,J,K,L,M,N,P,Q]) S =
  (zM (zo Try.prog 28 b 0 S) (fun v0 W => zM (zV Try.prog false 3 v0 W) (fun v1 S2 => zM ((jf Try.prog O) 57 [(dem v1), (Value.int IntKind.i64 1), (Value.int IntKind.i64 4095)] S2) (fun R S3 => zM (aUn Try.prog UnOp.not R S3) (fun v3 S4 => gdK (dem v3) false (zo Try.prog 28 b 1) S4 (fun v5 S5 => gdK (dem v3) false (zV Try.prog false 3 v5) S5 (fun v6 S6 => gdK (dem v3) false ((jf Try.prog O) 57 [(dem v6), (Value.int IntKind.i64 0), (Value.int IntKind.i64 6)]) S6 (fun v7 S7 => gdK (dem v3) false (aUn Try.prog UnOp.not v7) S7 (fun v8 S8 => zM (wH (dem v3) (Value.bool true) v8 S8) (fun v9 S9 => gdK (dem v9) false (zo Try.prog 28 b 2) S9 (fun a0 a5 => gdK (dem v9) false (zV Try.prog false 3 a0) a5 (fun a1 a6 => gdK (dem v9) false ((jf Try.prog O) 57 [(dem a1), (Value.int IntKind.i64 0), (Value.int IntKind.i64 255)]) a6 (fun a2 a7 => gdK (dem v9) false (aUn Try.prog UnOp.not a2) a7 (fun a3 a8 => zM (wH (dem v9) (Value.bool true) a3 a8) (fun a4 a9 => some ([U,b,x2,X,V,v0,v1,R,v3,dem v3,v5,v6,v7,v8,v9,dem v9,a0,a1,a2,a3,a4,q,r,s,t,u,w,x,y,z,A,B,C,D,E,F,G,H,I,J,K,L,M,N,P,Q], a9)) ()) ()) ()) ()) ()) ()) ()) ()) ()) ()) ()) ()) ()) ()) := by
 refine sD Try.f39 1 0 (fun v0 W => ?_)
 refine sD Try.f39 1 1 (fun v1 S2 => ?_)
 refine sD Try.f39 1 2 (fun R S3 => ?_)
 refine sD Try.f39 1 3 (fun v3 S4 => ?_)
 refine sP Try.f39 1 4 (v := v3) ?_
 refine sG Try.f39 1 5 (j := 4) (fun v5 S5 => ?_)
 refine sG Try.f39 1 6 (j := 4) (fun v6 S6 => ?_)
 refine sG Try.f39 1 7 (j := 4) (fun v7 S7 => ?_)
 refine sG Try.f39 1 8 (j := 4) (fun v8 S8 => ?_)
 refine sD Try.f39 1 9 (fun v9 S9 => ?_)
 refine sP Try.f39 1 10 (v := v9) ?_
 refine sG Try.f39 1 11 (j := 10) (fun a0 a5 => ?_)
 refine sG Try.f39 1 12 (j := 10) (fun a1 a6 => ?_)
 refine sG Try.f39 1 13 (j := 10) (fun a2 a7 => ?_)
 refine sG Try.f39 1 14 (j := 10) (fun a3 a8 => ?_)
 refine sD Try.f39 1 15 (fun a4 a9 => ?_)
 kernel_rfl
theorem jc.r2  : jE Try.prog ⟨false, false, false⟩ (jf Try.prog O) (reg Try.f39 2) (reg Try.f39 2).toList ([U,b,x2,X,V,Y,Z,x7,x8,x9,c,d,f,g,i,k,l,m,n,o,p,q,r,s,t,u,w,x,y,z,A,B,C,D,E,F,G,H,I,J,K,L,M,N,P,Q]) S =
  ( some ([U,b,Value.bool false,X,V,Y,Z,x7,x8,x9,c,d,f,g,i,k,l,m,n,o,p,q,r,s,t,u,w,x,y,z,A,B,C,D,E,F,G,H,I,J,K,L,M,N,P,Q], S)) := by
 kernel_rfl
theorem jc.r3  : jE Try.prog ⟨false, false, false⟩ (jf Try.prog O) (reg Try.f39 3) (reg Try.f39 3).toList ([U,b,x2,X,V,Y,Z,x7,x8,x9,c,d,f,g,i,k,l,m,n,o,p,q,r,s,t,u,w,x,y,z,A,B,C,D,E,F,G,H,I,J,K,L,M,N,P,Q]) S =
  (zM (zo Try.prog 28 b 3 S) (fun v0 W => zM (zV Try.prog false 3 v0 W) (fun v1 S2 => zM (jS Try.prog BinOp.neq 3 v1 (Value.int IntKind.i64 0) S2) (fun R S3 => gdK (dem R) true (zo Try.prog 28 b 3) S3 (fun v4 S4 => gdK (dem R) true (zV Try.prog false 3 v4) S4 (fun v5 S5 => gdK (dem R) true ((jf Try.prog O) 58 [(dem v5)]) S5 (fun v6 S6 => gdK (dem R) true (aUn Try.prog UnOp.not v6) S6 (fun v7 S7 => gdK (dem R) true (ret v7) S7 (fun v8 S8 => gdK (dem v8) false (zo Try.prog 28 b 3) S8 (fun v9 S9 => gdK (dem v8) false (zV Try.prog false 3 v9) S9 (fun b0 a5 => gdK (dem v8) false (jS Try.prog BinOp.quo 3 b0 (Value.int IntKind.i64 65536)) a5 (fun a0 a6 => gdK (dem v8) false (zo Try.prog 28 b 0) a6 (fun a1 a7 => gdK (dem v8) false (zV Try.prog false 3 a1) a7 (fun a2 a8 => gdK (dem v8) false (jS Try.prog BinOp.geq 3 a0 a2) a8 (fun a3 a9 => gdK (dem R) true (wH (dem v8) (Value.bool true) a3) a9 (fun a4 b1 => zM (wH (dem R) a4 (Value.bool false) b1) (fun b2 b3 => some ([U,b,x2,X,V,Y,Z,x7,x8,x9,c,d,f,g,i,k,l,m,n,o,p,v0,v1,R,dem R,v4,v5,v6,v7,dem v8,v9,b0,a0,a1,a2,a3,a4,b2,I,J,K,L,M,N,P,Q], b3)) ()) ()) ()) ()) ()) ()) ()) ()) ()) ()) ()) ()) ()) ()) ()) ()) := by
 refine sD Try.f39 3 0 (fun v0 W => ?_)
 refine sD Try.f39 3 1 (fun v1 S2 => ?_)
 refine sD Try.f39 3 2 (fun R S3 => ?_)
 refine sP Try.f39 3 3 (v := R) ?_
 refine sG Try.f39 3 4 (j := 3) (fun v4 S4 => ?_)
 refine sG Try.f39 3 5 (j := 3) (fun v5 S5 => ?_)
 refine sG Try.f39 3 6 (j := 3) (fun v6 S6 => ?_)
 refine sG Try.f39 3 7 (j := 3) (fun v7 S7 => ?_)
 refine sG Try.f39 3 8 (j := 3) (fun v8 S8 => ?_)
 refine sG Try.f39 3 9 (j := 8) (fun v9 S9 => ?_)
 refine sG Try.f39 3 10 (j := 8) (fun b0 a5 => ?_)
 refine sG Try.f39 3 11 (j := 8) (fun a0 a6 => ?_)
 refine sG Try.f39 3 12 (j := 8) (fun a1 a7 => ?_)
 refine sG Try.f39 3 13 (j := 8) (fun a2 a8 => ?_)
 refine sG Try.f39 3 14 (j := 8) (fun a3 a9 => ?_)
 refine sG Try.f39 3 15 (j := 3) (fun a4 b1 => ?_)
 refine sD Try.f39 3 16 (fun b2 b3 => ?_)
 kernel_rfl
theorem jc.r4  : jE Try.prog ⟨false, false, false⟩ (jf Try.prog O) (reg Try.f39 4) (reg Try.f39 4).toList ([U,b,x2,X,V,Y,Z,x7,x8,x9,c,d,f,g,i,k,l,m,n,o,p,q,r,s,t,u,w,x,y,z,A,B,C,D,E,F,G,H,I,J,K,L,M,N,P,Q]) S =
  ( some ([U,b,Value.bool false,X,V,Y,Z,x7,x8,x9,c,d,f,g,i,k,l,m,n,o,p,q,r,s,t,u,w,x,y,z,A,B,C,D,E,F,G,H,I,J,K,L,M,N,P,Q], S)) := by
 kernel_rfl
theorem jc.r5  : jE Try.prog ⟨false, false, false⟩ (jf Try.prog O) (reg Try.f39 5) (reg Try.f39 5).toList ([U,b,x2,X,V,Y,Z,x7,x8,x9,c,d,f,g,i,k,l,m,n,o,p,q,r,s,t,u,w,x,y,z,A,B,C,D,E,F,G,H,I,J,K,L,M,N,P,Q]) S =
  (zM (zo Try.prog 28 b 4 S) (fun v0 W => zM (zV Try.prog false 26 v0 W) (fun v1 S2 => zM ((jf Try.prog O) 56 [(dem v1)] S2) (fun R S3 => zM (zY R 0 S3) (fun v4 S4 => zM (zY (jk 0 R) 1 S4) (fun v5 S5 => some ([U,b,x2,v4,v5,Y,Z,x7,x8,x9,c,d,f,g,i,k,l,m,n,o,p,q,r,s,t,u,w,x,y,z,A,B,C,D,E,F,G,H,jk 1 (jk 0 R),v0,v1,dem R,dem v4,dem v5,P,Q], S5)) ()) ()) ()) ()) ()) := by
 kernel_rfl
theorem jc.r6  : jE Try.prog ⟨false, false, false⟩ (jf Try.prog O) (reg Try.f39 6) (reg Try.f39 6).toList ([U,b,x2,X,V,Y,Z,x7,x8,x9,c,d,f,g,i,k,l,m,n,o,p,q,r,s,t,u,w,x,y,z,A,B,C,D,E,F,G,H,I,J,K,L,M,N,P,Q]) S =
  (zM (jS Try.prog BinOp.eql 31 (dem V) (Value.int IntKind.i64 0) S) (fun v1 W => some ([U,b,v1,X,V,Y,Z,x7,x8,x9,c,d,f,g,i,k,l,m,n,o,p,q,r,s,t,u,w,x,y,z,A,B,C,D,E,F,G,H,I,J,K,L,M,N,dem V,dem v1], W)) ()) := by
 kernel_rfl
theorem jc.rs : type_of% (And.intro @jc.r0 (And.intro @jc.r1 (And.intro @jc.r2 (And.intro @jc.r3 (And.intro @jc.r4 (And.intro @jc.r5 (@jc.r6))))))) := And.intro @jc.r0 (And.intro @jc.r1 (And.intro @jc.r2 (And.intro @jc.r3 (And.intro @jc.r4 (And.intro @jc.r5 (@jc.r6))))))
theorem jc.runs {U : Value} {S W : zk} {e : AEx} {T : List Value} (h : zG Try.prog O false jc.code ([U,undef,undef,undef,undef,undef,undef,undef,undef,undef,undef,undef,undef,undef,undef,undef,undef,undef,undef,undef,undef,undef,undef,undef,undef,undef,undef,undef,undef,undef,undef,undef,undef,undef,undef,undef,undef,undef,undef,undef,undef,undef,undef,undef,undef,undef]) zk.empty = some (e, T, W)) (he : e = .normal ∨ e = .ret) (hca : [U].all (jB 16) = true) (hcv : jB 16 (T.getD 2 undef) = true) : jf Try.prog O 39 [U] S = some (T.getD 2 undef, S) :=
 yc rfl rfl Try.func39 (by decide) jc.body (by exact h) he (yg (a := T.getD 2 undef) ((show zO Try.prog T W Try.f39.results.toList = zO Try.prog T W [(ResultVar.tmp 2)] from by kernel_rfl).trans (by simp only [zO])) (by kernel_rfl)) hca hcv
end Go.Proofs.Ytbgcphbbchndkaa
namespace Go.Proofs.Ytbgcphbbchndkaa
open Go.Abs
abbrev zq.id : FuncId := 47
noncomputable def zq.code : Code := (Code.seq (Code.region 0 (reg Try.f47 0) false) (Code.seq (Code.seq (Code.region 1 (reg Try.f47 1) false) (Code.cond (Operand.tmp 36) (Code.seq (Code.region 2 (reg Try.f47 2) false) Code.ret) Code.skip)) (Code.seq (Code.region 3 (reg Try.f47 3) false) (Code.seq (Code.seq (Code.region 4 (reg Try.f47 4) false) (Code.cond (Operand.tmp 44) (Code.seq (Code.region 5 (reg Try.f47 5) false) Code.ret) Code.skip)) (Code.seq (Code.seq (Code.region 6 (reg Try.f47 6) false) (Code.cond (Operand.tmp 47) (Code.seq (Code.region 7 (reg Try.f47 7) false) Code.ret) Code.skip)) (Code.seq (Code.region 8 (reg Try.f47 8) false) (Code.seq (Code.region 9 (reg Try.f47 9) false) Code.ret)))))))
theorem zq.body : Try.f47.body = some zq.code := by kernel_rfl
variable (x0 b x2 x3 x4 x5 x6 x7 x8 x9 c d f g i k l m n o p q r s t u w x y z A B C D E F G H I J K L M N P Q R U V W X Y Z a0 a1 a2 a3 a4 a5 a6 a7 a8 a9 : Value) (S : zk)
theorem zq.r0  : jE Try.prog ⟨false, false, false⟩ (jf Try.prog O) (reg Try.f47 0) (reg Try.f47 0).toList ([x0,b,x2,x3,x4,x5,x6,x7,x8,x9,c,d,f,g,i,k,l,m,n,o,p,q,r,s,t,u,w,x,y,z,A,B,C,D,E,F,G,H,I,J,K,L,M,N,P,Q,R,U,V,W,X,Y,Z,a0,a1,a2,a3,a4,a5,a6,a7,a8,a9]) S =
  (zM (vV (dem x0) S) (fun v0 S1 => some ([x0,v0,Value.bool false,x3,x4,x5,x6,x7,x8,x9,c,d,f,g,i,k,l,m,n,o,p,q,r,s,t,u,w,x,y,z,A,B,C,D,E,F,G,H,I,J,K,L,M,N,P,Q,R,U,V,W,X,Y,Z,a0,a1,a2,a3,a4,a5,a6,a7,a8,a9], S1)) ()) := by
 kernel_rfl
theorem zq.r1  : jE Try.prog ⟨false, false, false⟩ (jf Try.prog O) (reg Try.f47 1) (reg Try.f47 1).toList ([x0,b,x2,x3,x4,x5,x6,x7,x8,x9,c,d,f,g,i,k,l,m,n,o,p,q,r,s,t,u,w,x,y,z,A,B,C,D,E,F,G,H,I,J,K,L,M,N,P,Q,R,U,V,W,X,Y,Z,a0,a1,a2,a3,a4,a5,a6,a7,a8,a9]) S =
  (zM (zo Try.prog 28 b 0 S) (fun v0 S1 => zM (zV Try.prog false 3 v0 S1) (fun v1 S2 => zM (jS Try.prog BinOp.lss 3 v1 (Value.int IntKind.i64 1) S2) (fun v2 S3 => gdK (dem v2) false (zo Try.prog 28 b 0) S3 (fun v4 S4 => gdK (dem v2) false (zV Try.prog false 3 v4) S4 (fun v5 S5 => gdK (dem v2) false (jS Try.prog BinOp.gtr 3 v5 (Value.int IntKind.i64 4095)) S5 (fun v6 S6 => zM (wH (dem v2) (Value.bool true) v6 S6) (fun v7 S7 => gdK (dem v7) false (zo Try.prog 28 b 1) S7 (fun v9 S8 => gdK (dem v7) false (zV Try.prog false 3 v9) S8 (fun b3 S9 => gdK (dem v7) false (jS Try.prog BinOp.lss 3 b3 (Value.int IntKind.i64 0)) S9 (fun b4 c4 => zM (wH (dem v7) (Value.bool true) b4 c4) (fun b0 c5 => gdK (dem b0) false (zo Try.prog 28 b 1) c5 (fun b5 c6 => gdK (dem b0) false (zV Try.prog false 3 b5) c6 (fun b6 c7 => gdK (dem b0) false (jS Try.prog BinOp.gtr 3 b6 (Value.int IntKind.i64 6)) c7 (fun b7 c8 => zM (wH (dem b0) (Value.bool true) b7 c8) (fun b1 c9 => gdK (dem b1) false (zo Try.prog 28 b 2) c9 (fun b8 d0 => gdK (dem b1) false (zV Try.prog false 3 b8) d0 (fun b9 d1 => gdK (dem b1) false (jS Try.prog BinOp.lss 3 b9 (Value.int IntKind.i64 0)) d1 (fun c0 d2 => zM (wH (dem b1) (Value.bool true) c0 d2) (fun b2 d3 => gdK (dem b2) false (zo Try.prog 28 b 2) d3 (fun c1 d4 => gdK (dem b2) false (zV Try.prog false 3 c1) d4 (fun c2 d5 => gdK (dem b2) false (jS Try.prog BinOp.gtr 3 c2 (Value.int IntKind.i64 255)) d5 (fun c3 d6 => zM (wH (dem b2) (Value.bool true) c3 d6) (fun d7 d8 => some ([x0,b,x2,x3,x4,x5,x6,x7,x8,v0,v1,v2,dem v2,v4,v5,v6,v7,dem v7,v9,b3,b4,b0,dem b0,b5,b6,b7,b1,dem b1,b8,b9,c0,b2,dem b2,c1,c2,c3,d7,H,I,J,K,L,M,N,P,Q,R,U,V,W,X,Y,Z,a0,a1,a2,a3,a4,a5,a6,a7,a8,a9], d8)) ()) ()) ()) ()) ()) ()) ()) ()) ()) ()) ()) ()) ()) ()) ()) ()) ()) ()) ()) ()) ()) ()) ()) := by
 refine sD Try.f47 1 0 (fun v0 S1 => ?_)
 refine sD Try.f47 1 1 (fun v1 S2 => ?_)
 refine sD Try.f47 1 2 (fun v2 S3 => ?_)
 refine sP Try.f47 1 3 (v := v2) ?_
 refine sG Try.f47 1 4 (j := 3) (fun v4 S4 => ?_)
 refine sG Try.f47 1 5 (j := 3) (fun v5 S5 => ?_)
 refine sG Try.f47 1 6 (j := 3) (fun v6 S6 => ?_)
 refine sD Try.f47 1 7 (fun v7 S7 => ?_)
 refine sP Try.f47 1 8 (v := v7) ?_
 refine sG Try.f47 1 9 (j := 8) (fun v9 S8 => ?_)
 refine sG Try.f47 1 10 (j := 8) (fun b3 S9 => ?_)
 refine sG Try.f47 1 11 (j := 8) (fun b4 c4 => ?_)
 refine sD Try.f47 1 12 (fun b0 c5 => ?_)
 refine sP Try.f47 1 13 (v := b0) ?_
 refine sG Try.f47 1 14 (j := 13) (fun b5 c6 => ?_)
 refine sG Try.f47 1 15 (j := 13) (fun b6 c7 => ?_)
 refine sG Try.f47 1 16 (j := 13) (fun b7 c8 => ?_)
 refine sD Try.f47 1 17 (fun b1 c9 => ?_)
 refine sP Try.f47 1 18 (v := b1) ?_
 refine sG Try.f47 1 19 (j := 18) (fun b8 d0 => ?_)
 refine sG Try.f47 1 20 (j := 18) (fun b9 d1 => ?_)
 refine sG Try.f47 1 21 (j := 18) (fun c0 d2 => ?_)
 refine sD Try.f47 1 22 (fun b2 d3 => ?_)
 refine sP Try.f47 1 23 (v := b2) ?_
 refine sG Try.f47 1 24 (j := 23) (fun c1 d4 => ?_)
 refine sG Try.f47 1 25 (j := 23) (fun c2 d5 => ?_)
 refine sG Try.f47 1 26 (j := 23) (fun c3 d6 => ?_)
 refine sD Try.f47 1 27 (fun d7 d8 => ?_)
 kernel_rfl
theorem zq.r2  : jE Try.prog ⟨false, false, false⟩ (jf Try.prog O) (reg Try.f47 2) (reg Try.f47 2).toList ([x0,b,x2,x3,x4,x5,x6,x7,x8,x9,c,d,f,g,i,k,l,m,n,o,p,q,r,s,t,u,w,x,y,z,A,B,C,D,E,F,G,H,I,J,K,L,M,N,P,Q,R,U,V,W,X,Y,Z,a0,a1,a2,a3,a4,a5,a6,a7,a8,a9]) S =
  ( some ([x0,b,Value.bool false,x3,x4,x5,x6,x7,x8,x9,c,d,f,g,i,k,l,m,n,o,p,q,r,s,t,u,w,x,y,z,A,B,C,D,E,F,G,H,I,J,K,L,M,N,P,Q,R,U,V,W,X,Y,Z,a0,a1,a2,a3,a4,a5,a6,a7,a8,a9], S)) := by
 kernel_rfl
theorem zq.r3  : jE Try.prog ⟨false, false, false⟩ (jf Try.prog O) (reg Try.f47 3) (reg Try.f47 3).toList ([x0,b,x2,x3,x4,x5,x6,x7,x8,x9,c,d,f,g,i,k,l,m,n,o,p,q,r,s,t,u,w,x,y,z,A,B,C,D,E,F,G,H,I,J,K,L,M,N,P,Q,R,U,V,W,X,Y,Z,a0,a1,a2,a3,a4,a5,a6,a7,a8,a9]) S =
  (zM (zo Try.prog 28 b 4 S) (fun v0 S1 => zM (zV Try.prog false 26 v0 S1) (fun v1 S2 => zM ((jf Try.prog O) 61 [(dem v1)] S2) (fun v2 S3 => zM (zY v2 0 S3) (fun v4 S4 => zM (zY (jk 0 v2) 1 S4) (fun v5 S5 => some ([x0,b,x2,v4,v5,x5,x6,x7,x8,x9,c,d,f,g,i,k,l,m,n,o,p,q,r,s,t,u,w,x,y,z,A,B,C,D,E,F,G,jk 1 (jk 0 v2),v0,v1,dem v2,dem v4,dem v5,N,P,Q,R,U,V,W,X,Y,Z,a0,a1,a2,a3,a4,a5,a6,a7,a8,a9], S5)) ()) ()) ()) ()) ()) := by
 kernel_rfl
theorem zq.r4  : jE Try.prog ⟨false, false, false⟩ (jf Try.prog O) (reg Try.f47 4) (reg Try.f47 4).toList ([x0,b,x2,x3,x4,x5,x6,x7,x8,x9,c,d,f,g,i,k,l,m,n,o,p,q,r,s,t,u,w,x,y,z,A,B,C,D,E,F,G,H,I,J,K,L,M,N,P,Q,R,U,V,W,X,Y,Z,a0,a1,a2,a3,a4,a5,a6,a7,a8,a9]) S =
  (zM (jS Try.prog BinOp.neq 3 (dem x4) (Value.int IntKind.i64 0) S) (fun v1 S1 => some ([x0,b,x2,x3,x4,x5,x6,x7,x8,x9,c,d,f,g,i,k,l,m,n,o,p,q,r,s,t,u,w,x,y,z,A,B,C,D,E,F,G,H,I,J,K,L,M,dem x4,v1,Q,R,U,V,W,X,Y,Z,a0,a1,a2,a3,a4,a5,a6,a7,a8,a9], S1)) ()) := by
 kernel_rfl
theorem zq.r5  : jE Try.prog ⟨false, false, false⟩ (jf Try.prog O) (reg Try.f47 5) (reg Try.f47 5).toList ([x0,b,x2,x3,x4,x5,x6,x7,x8,x9,c,d,f,g,i,k,l,m,n,o,p,q,r,s,t,u,w,x,y,z,A,B,C,D,E,F,G,H,I,J,K,L,M,N,P,Q,R,U,V,W,X,Y,Z,a0,a1,a2,a3,a4,a5,a6,a7,a8,a9]) S =
  ( some ([x0,b,Value.bool false,x3,x4,x5,x6,x7,x8,x9,c,d,f,g,i,k,l,m,n,o,p,q,r,s,t,u,w,x,y,z,A,B,C,D,E,F,G,H,I,J,K,L,M,N,P,Q,R,U,V,W,X,Y,Z,a0,a1,a2,a3,a4,a5,a6,a7,a8,a9], S)) := by
 kernel_rfl
theorem zq.r6  : jE Try.prog ⟨false, false, false⟩ (jf Try.prog O) (reg Try.f47 6) (reg Try.f47 6).toList ([x0,b,x2,x3,x4,x5,x6,x7,x8,x9,c,d,f,g,i,k,l,m,n,o,p,q,r,s,t,u,w,x,y,z,A,B,C,D,E,F,G,H,I,J,K,L,M,N,P,Q,R,U,V,W,X,Y,Z,a0,a1,a2,a3,a4,a5,a6,a7,a8,a9]) S =
  (zM (zo Try.prog 28 b 3 S) (fun v0 S1 => zM (zV Try.prog false 3 v0 S1) (fun v1 S2 => zM (jS Try.prog BinOp.eql 3 v1 (Value.int IntKind.i64 0) S2) (fun v2 S3 => some ([x0,b,x2,x3,x4,x5,x6,x7,x8,x9,c,d,f,g,i,k,l,m,n,o,p,q,r,s,t,u,w,x,y,z,A,B,C,D,E,F,G,H,I,J,K,L,M,N,P,v0,v1,v2,V,W,X,Y,Z,a0,a1,a2,a3,a4,a5,a6,a7,a8,a9], S3)) ()) ()) ()) := by
 kernel_rfl
theorem zq.r7  : jE Try.prog ⟨false, false, false⟩ (jf Try.prog O) (reg Try.f47 7) (reg Try.f47 7).toList ([x0,b,x2,x3,x4,x5,x6,x7,x8,x9,c,d,f,g,i,k,l,m,n,o,p,q,r,s,t,u,w,x,y,z,A,B,C,D,E,F,G,H,I,J,K,L,M,N,P,Q,R,U,V,W,X,Y,Z,a0,a1,a2,a3,a4,a5,a6,a7,a8,a9]) S =
  ( some ([x0,b,Value.bool true,x3,x4,x5,x6,x7,x8,x9,c,d,f,g,i,k,l,m,n,o,p,q,r,s,t,u,w,x,y,z,A,B,C,D,E,F,G,H,I,J,K,L,M,N,P,Q,R,U,V,W,X,Y,Z,a0,a1,a2,a3,a4,a5,a6,a7,a8,a9], S)) := by
 kernel_rfl
theorem zq.r8  : jE Try.prog ⟨false, false, false⟩ (jf Try.prog O) (reg Try.f47 8) (reg Try.f47 8).toList ([x0,b,x2,x3,x4,x5,x6,x7,x8,x9,c,d,f,g,i,k,l,m,n,o,p,q,r,s,t,u,w,x,y,z,A,B,C,D,E,F,G,H,I,J,K,L,M,N,P,Q,R,U,V,W,X,Y,Z,a0,a1,a2,a3,a4,a5,a6,a7,a8,a9]) S =
  (zM (zo Try.prog 28 b 3 S) (fun v0 S1 => zM (zV Try.prog false 3 v0 S1) (fun v1 S2 => zM ((jf Try.prog O) 62 [(dem v1)] S2) (fun v2 S3 => zM (zY v2 0 S3) (fun v4 S4 => zM (zY (jk 0 v2) 1 S4) (fun v5 S5 => zM (zY (jk 1 (jk 0 v2)) 2 S5) (fun v6 S6 => zM (zY (jk 2 (jk 1 (jk 0 v2))) 3 S6) (fun v7 S7 => some ([x0,b,x2,x3,x4,v4,v5,v6,v7,x9,c,d,f,g,i,k,l,m,n,o,p,q,r,s,t,u,w,x,y,z,A,B,C,D,E,F,G,H,I,J,K,L,M,N,P,Q,R,U,jk 3 (jk 2 (jk 1 (jk 0 v2))),v0,v1,dem v2,dem v4,dem v5,dem v6,dem v7,a3,a4,a5,a6,a7,a8,a9], S7)) ()) ()) ()) ()) ()) ()) ()) := by
 kernel_rfl
theorem zq.r9  : jE Try.prog ⟨false, false, false⟩ (jf Try.prog O) (reg Try.f47 9) (reg Try.f47 9).toList ([x0,b,x2,x3,x4,x5,x6,x7,x8,x9,c,d,f,g,i,k,l,m,n,o,p,q,r,s,t,u,w,x,y,z,A,B,C,D,E,F,G,H,I,J,K,L,M,N,P,Q,R,U,V,W,X,Y,Z,a0,a1,a2,a3,a4,a5,a6,a7,a8,a9]) S =
  (gdK (dem x8) true (ret x5) S (fun v2 S1 => gdK (dem x8) true (zo Try.prog 28 b 0) S1 (fun v3 S2 => gdK (dem x8) true (zV Try.prog false 3 v3) S2 (fun v4 S3 => gdK (dem x8) true (jS Try.prog BinOp.lss 3 (dem v2) v4) S3 (fun v5 S4 => zM (wH (dem x8) v5 (Value.bool false) S4) (fun v6 S5 => some ([x0,b,v6,x3,x4,x5,x6,x7,dem x8,x9,c,d,f,g,i,k,l,m,n,o,p,q,r,s,t,u,w,x,y,z,A,B,C,D,E,F,G,H,I,J,K,L,M,N,P,Q,R,U,V,W,X,Y,Z,a0,a1,a2,x8,dem x8,dem v2,v3,v4,v5,dem v6], S5)) ()) ()) ()) ()) ()) := by
 refine sP Try.f47 9 0 (v := x8) ?_
 refine sP Try.f47 9 1 (v := x8) ?_
 refine sG Try.f47 9 2 (j := 1) (fun v2 S1 => ?_)
 refine sG Try.f47 9 3 (j := 1) (fun v3 S2 => ?_)
 refine sG Try.f47 9 4 (j := 1) (fun v4 S3 => ?_)
 refine sG Try.f47 9 5 (j := 1) (fun v5 S4 => ?_)
 refine sD Try.f47 9 6 (fun v6 S5 => ?_)
 refine sP Try.f47 9 7 (v := v6) ?_
 kernel_rfl
theorem zq.rs : type_of% (And.intro @zq.r0 (And.intro @zq.r1 (And.intro @zq.r2 (And.intro @zq.r3 (And.intro @zq.r4 (And.intro @zq.r5 (And.intro @zq.r6 (And.intro @zq.r7 (And.intro @zq.r8 (@zq.r9)))))))))) := And.intro @zq.r0 (And.intro @zq.r1 (And.intro @zq.r2 (And.intro @zq.r3 (And.intro @zq.r4 (And.intro @zq.r5 (And.intro @zq.r6 (And.intro @zq.r7 (And.intro @zq.r8 (@zq.r9)))))))))
theorem zq.runs {x0 : Value} {S S1 : zk} {e : AEx} {T : List Value} (h : zG Try.prog O false zq.code ([x0,undef,undef,undef,undef,undef,undef,undef,undef,undef,undef,undef,undef,undef,undef,undef,undef,undef,undef,undef,undef,undef,undef,undef,undef,undef,undef,undef,undef,undef,undef,undef,undef,undef,undef,undef,undef,undef,undef,undef,undef,undef,undef,undef,undef,undef,undef,undef,undef,undef,undef,undef,undef,undef,undef,undef,undef,undef,undef,undef,undef,undef,undef]) zk.empty = some (e, T, S1)) (he : e = .normal ∨ e = .ret) (hca : [x0].all (jB 16) = true) (hcv : jB 16 (T.getD 2 undef) = true) : jf Try.prog O 47 [x0] S = some (T.getD 2 undef, S) :=
 yc rfl rfl Try.func47 (by decide) zq.body (by exact h) he (yg (a := T.getD 2 undef) ((show zO Try.prog T S1 Try.f47.results.toList = zO Try.prog T S1 [(ResultVar.tmp 2)] from by kernel_rfl).trans (by simp only [zO])) (by kernel_rfl)) hca hcv
end Go.Proofs.Ytbgcphbbchndkaa
namespace Go.Proofs.Ytbgcphbbchndkaa
open Go.Abs
abbrev jw.id : FuncId := 57
noncomputable def jw.code : Code := (Code.seq (Code.region 0 (reg Try.f57 0) false) (Code.seq (Code.region 1 (reg Try.f57 1) false) Code.ret))
theorem jw.body : Try.f57.body = some jw.code := by kernel_rfl
variable (b c d o p q z s t u i k l m n : Value) (S : zk)
theorem jw.r0  : jE Try.prog ⟨false, false, false⟩ (jf Try.prog O) (reg Try.f57 0) (reg Try.f57 0).toList ([b,c,d,o,p,q,z,s,t,u,i,k,l,m,n]) S =
  ( some ([b,c,d,o,p,q,Value.bool false,s,t,u,i,k,l,m,n], S)) := by
 kernel_rfl
theorem jw.r1  : jE Try.prog ⟨false, false, false⟩ (jf Try.prog O) (reg Try.f57 1) (reg Try.f57 1).toList ([b,c,d,o,p,q,z,s,t,u,i,k,l,m,n]) S =
  (zM (jS Try.prog BinOp.geq 3 (dem b) (dem c) S) (fun f g => gdK (dem f) true (ret b) g (fun w A => gdK (dem f) true (ret d) A (fun x B => gdK (dem f) true (jS Try.prog BinOp.leq 3 (dem w) (dem x)) B (fun y C => zM (wH (dem f) y (Value.bool false) C) (fun r D => some ([b,c,d,o,p,q,r,dem b,dem c,f,dem f,dem w,dem x,y,dem r], D)) ()) ()) ()) ()) ()) := by
 refine sP Try.f57 1 0 (v := b) ?_
 refine sP Try.f57 1 1 (v := c) ?_
 refine sD Try.f57 1 2 (fun f g => ?_)
 refine sP Try.f57 1 3 (v := f) ?_
 refine sG Try.f57 1 4 (j := 3) (fun w A => ?_)
 refine sG Try.f57 1 5 (j := 3) (fun x B => ?_)
 refine sG Try.f57 1 6 (j := 3) (fun y C => ?_)
 refine sD Try.f57 1 7 (fun r D => ?_)
 refine sP Try.f57 1 8 (v := r) ?_
 kernel_rfl
theorem jw.rs : type_of% (And.intro @jw.r0 (@jw.r1)) := And.intro @jw.r0 (@jw.r1)
theorem jw.runs {b c d : Value} {S g : zk} {e : AEx} {T : List Value} (h : zG Try.prog O false jw.code ([b,c,d,undef,undef,undef,undef,undef,undef,undef,undef,undef,undef,undef,undef]) S = some (e, T, g)) (he : e = .normal ∨ e = .ret) : jf Try.prog O 57 [b, c, d] S = some (T.getD 6 undef, g) :=
 yQ rfl rfl Try.func57 (by decide) jw.body (by exact h) he (yg (a := T.getD 6 undef) ((show zO Try.prog T g Try.f57.results.toList = zO Try.prog T g [(ResultVar.tmp 6)] from by kernel_rfl).trans (by simp only [zO])) (by kernel_rfl))
end Go.Proofs.Ytbgcphbbchndkaa
namespace Go.Proofs.Ytbgcphbbchndkaa
open Go.Abs
abbrev jK.id : FuncId := 58
noncomputable def jK.code : Code := (Code.seq (Code.region 0 (reg Try.f58 0) false) (Code.seq (Code.region 1 (reg Try.f58 1) false) Code.ret))
theorem jK.body : Try.f58.body = some jK.code := by kernel_rfl
variable (b g w k l m n o p q f : Value) (S : zk)
theorem jK.r0  : jE Try.prog ⟨false, false, false⟩ (jf Try.prog O) (reg Try.f58 0) (reg Try.f58 0).toList ([b,g,w,k,l,m,n,o,p,q,f]) S =
  ( some ([b,g,Value.bool false,k,l,m,n,o,p,q,f], S)) := by
 kernel_rfl
theorem jK.r1  : jE Try.prog ⟨false, false, false⟩ (jf Try.prog O) (reg Try.f58 1) (reg Try.f58 1).toList ([b,g,w,k,l,m,n,o,p,q,f]) S =
  (zM ((jf Try.prog O) 57 [(dem (dem b)), (Value.int IntKind.i64 65536), (Value.int IntKind.i64 268435455)] S) (fun c d => gdK (dem c) true (ret b) d (fun r x => gdK (dem c) true (jS Try.prog BinOp.rem 3 (dem r) (Value.int IntKind.i64 65536)) x (fun s y => gdK (dem c) true (jS Try.prog BinOp.quo 3 s (Value.int IntKind.i64 256)) y (fun t z => gdK (dem c) true (jS Try.prog BinOp.lss 3 t (Value.int IntKind.i64 7)) z (fun u A => zM (wH (dem c) u (Value.bool false) A) (fun i B => some ([b,g,i,dem b,c,dem c,dem r,s,t,u,dem i], B)) ()) ()) ()) ()) ()) ()) := by
 refine sP Try.f58 1 0 (v := b) ?_
 refine sD Try.f58 1 1 (fun c d => ?_)
 refine sP Try.f58 1 2 (v := c) ?_
 refine sG Try.f58 1 3 (j := 2) (fun r x => ?_)
 refine sG Try.f58 1 4 (j := 2) (fun s y => ?_)
 refine sG Try.f58 1 5 (j := 2) (fun t z => ?_)
 refine sG Try.f58 1 6 (j := 2) (fun u A => ?_)
 refine sD Try.f58 1 7 (fun i B => ?_)
 refine sP Try.f58 1 8 (v := i) ?_
 kernel_rfl
theorem jK.rs : type_of% (And.intro @jK.r0 (@jK.r1)) := And.intro @jK.r0 (@jK.r1)
theorem jK.runs {b : Value} {S d : zk} {e : AEx} {T : List Value} (h : zG Try.prog O false jK.code ([b,undef,undef,undef,undef,undef,undef,undef,undef,undef,undef]) S = some (e, T, d)) (he : e = .normal ∨ e = .ret) : jf Try.prog O 58 [b] S = some (T.getD 2 undef, d) :=
 yQ rfl rfl Try.func58 (by decide) jK.body (by exact h) he (yg (a := T.getD 2 undef) ((show zO Try.prog T d Try.f58.results.toList = zO Try.prog T d [(ResultVar.tmp 2)] from by kernel_rfl).trans (by simp only [zO])) (by kernel_rfl))
end Go.Proofs.Ytbgcphbbchndkaa
namespace Go.Proofs.Ytbgcphbbchndkaa
open Go.Abs
abbrev jV.id : FuncId := 59
noncomputable def jV.code : Code := (Code.seq (Code.region 0 (reg Try.f59 0) false) (Code.seq (Code.seq (Code.region 1 (reg Try.f59 1) false) (Code.cond (Operand.tmp 5) (Code.seq (Code.region 2 (reg Try.f59 2) false) Code.ret) Code.skip)) (Code.seq (Code.region 3 (reg Try.f59 3) false) Code.ret)))
theorem jV.body : Try.f59.body = some jV.code := by kernel_rfl
variable (b c l f g i j k : Value) (S : zk)
theorem jV.r0  : jE Try.prog ⟨false, false, false⟩ (jf Try.prog O) (reg Try.f59 0) (reg Try.f59 0).toList ([b,c,l,f,g,i,j,k]) S =
  ( some ([b,c,Value.int IntKind.i64 0,f,g,i,j,k], S)) := by
 kernel_rfl
theorem jV.r1  : jE Try.prog ⟨false, false, false⟩ (jf Try.prog O) (reg Try.f59 1) (reg Try.f59 1).toList ([b,c,l,f,g,i,j,k]) S =
  (zM ((jf Try.prog O) 58 [(dem (dem b))] S) (fun m d => zM (aUn Try.prog UnOp.not m d) (fun n o => some ([b,c,l,dem b,m,n,j,k], o)) ()) ()) := by
 kernel_rfl
theorem jV.r2  : jE Try.prog ⟨false, false, false⟩ (jf Try.prog O) (reg Try.f59 2) (reg Try.f59 2).toList ([b,c,l,f,g,i,j,k]) S =
  ( some ([b,c,Value.int IntKind.i64 0,f,g,i,j,k], S)) := by
 kernel_rfl
theorem jV.r3  : jE Try.prog ⟨false, false, false⟩ (jf Try.prog O) (reg Try.f59 3) (reg Try.f59 3).toList ([b,c,l,f,g,i,j,k]) S =
  (zM (jS Try.prog BinOp.quo 3 (dem b) (Value.int IntKind.i64 65536) S) (fun m d => some ([b,c,m,f,g,i,dem b,dem m], d)) ()) := by
 kernel_rfl
theorem jV.rs : type_of% (And.intro @jV.r0 (And.intro @jV.r1 (And.intro @jV.r2 (@jV.r3)))) := And.intro @jV.r0 (And.intro @jV.r1 (And.intro @jV.r2 (@jV.r3)))
theorem jV.runs {b : Value} {S d : zk} {e : AEx} {T : List Value} (h : zG Try.prog O false jV.code ([b,undef,undef,undef,undef,undef,undef,undef]) S = some (e, T, d)) (he : e = .normal ∨ e = .ret) : jf Try.prog O 59 [b] S = some (T.getD 2 undef, d) :=
 yQ rfl rfl Try.func59 (by decide) jV.body (by exact h) he (yg (a := T.getD 2 undef) ((show zO Try.prog T d Try.f59.results.toList = zO Try.prog T d [(ResultVar.tmp 2)] from by kernel_rfl).trans (by simp only [zO])) (by kernel_rfl))
end Go.Proofs.Ytbgcphbbchndkaa
namespace Go.Proofs.Ytbgcphbbchndkaa
open Go.Abs
abbrev zN.id : FuncId := 62
noncomputable def zN.code : Code := (Code.seq (Code.region 0 (reg Try.f62 0) false) (Code.seq (Code.seq (Code.region 1 (reg Try.f62 1) false) (Code.cond (Operand.tmp 10) (Code.seq (Code.region 2 (reg Try.f62 2) false) Code.ret) Code.skip)) (Code.seq (Code.region 3 (reg Try.f62 3) false) (Code.seq (Code.region 4 (reg Try.f62 4) false) Code.ret))))
theorem zN.body : Try.f62.body = some zN.code := by kernel_rfl
variable (a E H I J K b c C G d f g i k l m n o p q r s t u w x y z A B : Value) (S : zk)
theorem zN.r0  : jE Try.prog ⟨false, false, false⟩ (jf Try.prog O) (reg Try.f62 0) (reg Try.f62 0).toList ([a,E,H,I,J,K,b,c,C,G,d,f,g,i,k,l,m,n,o,p,q,r,s,t,u,w,x,y,z,A,B]) S =
  ( some ([a,E,Value.int IntKind.i64 0,Value.int IntKind.i64 0,Value.int IntKind.i64 0,Value.bool false,b,c,C,G,d,f,g,i,k,l,m,n,o,p,q,r,s,t,u,w,x,y,z,A,B], S)) := by
 kernel_rfl
theorem zN.r1  : jE Try.prog ⟨false, false, false⟩ (jf Try.prog O) (reg Try.f62 1) (reg Try.f62 1).toList ([a,E,H,I,J,K,b,c,C,G,d,f,g,i,k,l,m,n,o,p,q,r,s,t,u,w,x,y,z,A,B]) S =
  (zM (jS Try.prog BinOp.lss 3 (dem a) (Value.int IntKind.i64 0) S) (fun R D => some ([a,E,H,I,J,K,b,c,C,dem a,R,f,g,i,k,l,m,n,o,p,q,r,s,t,u,w,x,y,z,A,B], D)) ()) := by
 kernel_rfl
theorem zN.r2  : jE Try.prog ⟨false, false, false⟩ (jf Try.prog O) (reg Try.f62 2) (reg Try.f62 2).toList ([a,E,H,I,J,K,b,c,C,G,d,f,g,i,k,l,m,n,o,p,q,r,s,t,u,w,x,y,z,A,B]) S =
  ( some ([a,E,Value.int IntKind.i64 0,Value.int IntKind.i64 0,Value.int IntKind.i64 0,Value.bool false,b,c,C,G,d,f,g,i,k,l,m,n,o,p,q,r,s,t,u,w,x,y,z,A,B], S)) := by
 kernel_rfl
theorem zN.r3  : jE Try.prog ⟨false, false, false⟩ (jf Try.prog O) (reg Try.f62 3) (reg Try.f62 3).toList ([a,E,H,I,J,K,b,c,C,G,d,f,g,i,k,l,m,n,o,p,q,r,s,t,u,w,x,y,z,A,B]) S =
  (zM (jS Try.prog BinOp.quo 3 (dem a) (Value.int IntKind.i64 65536) S) (fun R D => zM (jS Try.prog BinOp.quo 3 (dem a) (Value.int IntKind.i64 256) D) (fun Y U => zM (jS Try.prog BinOp.rem 3 Y (Value.int IntKind.i64 256) U) (fun F V => zM (jS Try.prog BinOp.rem 3 (dem a) (Value.int IntKind.i64 256) V) (fun N W => some ([a,E,H,I,J,K,R,F,N,G,d,dem a,dem R,dem a,Y,dem F,dem a,dem N,o,p,q,r,s,t,u,w,x,y,z,A,B], W)) ()) ()) ()) ()) := by
 kernel_rfl
theorem zN.r4  : jE Try.prog ⟨false, false, false⟩ (jf Try.prog O) (reg Try.f62 4) (reg Try.f62 4).toList ([a,E,H,I,J,K,b,c,C,G,d,f,g,i,k,l,m,n,o,p,q,r,s,t,u,w,x,y,z,A,B]) S =
  (zM (jS Try.prog BinOp.geq 3 (dem (dem b)) (Value.int IntKind.i64 1) S) (fun F D => gdK (dem F) true (ret (dem b)) D (fun N U => gdK (dem F) true (jS Try.prog BinOp.leq 3 (dem N) (Value.int IntKind.i64 4095)) U (fun X V => zM (wH (dem F) X (Value.bool false) V) (fun L W => gdK (dem L) true (ret (dem c)) W (fun P Z => gdK (dem L) true (jS Try.prog BinOp.leq 3 (dem P) (Value.int IntKind.i64 6)) Z (fun Q S6 => zM (wH (dem L) Q (Value.bool false) S6) (fun M S7 => some ([a,E,b,c,C,M,dem b,dem c,dem C,G,d,f,g,i,k,l,m,n,dem b,dem c,dem C,dem (dem b),F,dem F,dem N,X,L,dem L,dem P,Q,dem M], S7)) ()) ()) ()) ()) ()) ()) ()) := by
 refine sP Try.f62 4 0 (v := b) ?_
 refine sP Try.f62 4 1 (v := c) ?_
 refine sP Try.f62 4 2 (v := C) ?_
 refine sP Try.f62 4 3 (v := (dem b)) ?_
 refine sD Try.f62 4 4 (fun F D => ?_)
 refine sP Try.f62 4 5 (v := F) ?_
 refine sG Try.f62 4 6 (j := 5) (fun N U => ?_)
 refine sG Try.f62 4 7 (j := 5) (fun X V => ?_)
 refine sD Try.f62 4 8 (fun L W => ?_)
 refine sP Try.f62 4 9 (v := L) ?_
 refine sG Try.f62 4 10 (j := 9) (fun P Z => ?_)
 refine sG Try.f62 4 11 (j := 9) (fun Q S6 => ?_)
 refine sD Try.f62 4 12 (fun M S7 => ?_)
 refine sP Try.f62 4 13 (v := b) ?_
 refine sP Try.f62 4 14 (v := c) ?_
 refine sP Try.f62 4 15 (v := C) ?_
 refine sP Try.f62 4 16 (v := M) ?_
 kernel_rfl
theorem zN.rs : type_of% (And.intro @zN.r0 (And.intro @zN.r1 (And.intro @zN.r2 (And.intro @zN.r3 (@zN.r4))))) := And.intro @zN.r0 (And.intro @zN.r1 (And.intro @zN.r2 (And.intro @zN.r3 (@zN.r4))))
theorem zN.runs {a : Value} {S D : zk} {e : AEx} {T : List Value} (h : zG Try.prog O false zN.code ([a,undef,undef,undef,undef,undef,undef,undef,undef,undef,undef,undef,undef,undef,undef,undef,undef,undef,undef,undef,undef,undef,undef,undef,undef,undef,undef,undef,undef,undef,undef]) S = some (e, T, D)) (he : e = .normal ∨ e = .ret)  (h0 : wI (T.getD 2 undef) = true) (h1 : wI (T.getD 3 undef) = true) (h2 : wI (T.getD 4 undef) = true) (h3 : wI (T.getD 5 undef) = true) : jf Try.prog O 62 [a] S = some (Value.tuple #[T.getD 2 undef, T.getD 3 undef, T.getD 4 undef, T.getD 5 undef], D) :=
 yQ rfl rfl Try.func62 (by decide) zN.body (by exact h) he ((qM ((show zO Try.prog T D Try.f62.results.toList = zO Try.prog T D [(ResultVar.tmp 2), (ResultVar.tmp 3), (ResultVar.tmp 4), (ResultVar.tmp 5)] from by kernel_rfl).trans (by simp only [zO])) (by kernel_rfl) (by simp only [List.all_cons, List.all_nil, h0, h1, h2, h3, Bool.and_true])).trans rfl)
end Go.Proofs.Ytbgcphbbchndkaa
namespace Go.Proofs.Ytbgcphbbchndkaa
open Go.Abs
def btw (n a b : Int) : Bool := decide (a ≤ n) && decide (n ≤ b)
theorem WX {n a b : Int} : btw n a b = true ↔ a ≤ n ∧ n ≤ b := by simp [btw]
def qE (n : Int) : Bool := btw n 65536 268435455 && decide (n % 65536 / 256 < 7)
theorem qZ {n : Int} : qE n = true ↔ 65536 ≤ n ∧ n ≤ 268435455 ∧ n % 65536 / 256 < 7 := by simp [qE, btw, and_assoc]
def Jr (n : Int) : Int := if qE n = true then n / 65536 else 0
theorem QS {n m : Int} (h : 0 ≤ n) : n.tmod m = n % m := Int.tmod_eq_emod_of_nonneg h
theorem JY {n m : Int} (h : 0 ≤ n) : n.tdiv m = n / m := Int.tdiv_eq_ediv_of_nonneg h
theorem WE : (65536 : Int) ≠ 0 := by decide
theorem agz : (256 : Int) ≠ 0 := by decide
theorem jw.v (n a b : Int) (S : zk) : jf Try.prog O jw.id [.int .i64 n, .int .i64 a, .int .i64 b] S = some (.bool (btw n a b), S) := by
 obtain ⟨T, hTe⟩ : ∃ T, T = (.int .i64 n :: .int .i64 a :: .int .i64 b :: undef :: undef :: undef :: undef :: undef :: undef :: undef :: undef :: undef :: undef :: undef :: undef :: []) := ⟨_, rfl⟩
 have hr : zG Try.prog O false jw.code T S = zG Try.prog O false jw.code T S := rfl
 unfold btw
 by_cases h1 : a ≤ n
 ·
  conv at hr =>
   rhs
   rw [hTe]
   simp only [jw.code, jw.rs, zSs, reduceIte, Nat.reduceEqDiff, Int.reduceEq, Int.reduceLT, Int.reduceLE, decide_eq_true h1]
  rw [decide_eq_true h1, Bool.true_and]
  rw [hTe] at hr
  exact jw.runs hr (.inr rfl)
 ·
  conv at hr =>
   rhs
   rw [hTe]
   simp only [jw.code, jw.rs, zSs, reduceIte, Nat.reduceEqDiff, Int.reduceEq, Int.reduceLT, Int.reduceLE, decide_eq_false h1]
  rw [decide_eq_false h1, Bool.false_and]
  rw [hTe] at hr
  exact jw.runs hr (.inr rfl)
theorem jK.v (n : Int) (S : zk) : jf Try.prog O jK.id [.int .i64 n] S = some (.bool (qE n), S) := by
 obtain ⟨T, hTe⟩ : ∃ T, T = (.int .i64 n :: undef :: undef :: undef :: undef :: undef :: undef :: undef :: undef :: undef :: undef :: []) := ⟨_, rfl⟩
 have hr : zG Try.prog O false jK.code T S = zG Try.prog O false jK.code T S := rfl
 unfold qE
 cases h1 : btw n 65536 268435455
 ·
  conv at hr =>
   rhs
   rw [hTe]
   simp only [jK.code, jK.rs, zSs, reduceIte, Nat.reduceEqDiff, Int.reduceEq, Int.reduceLT, Int.reduceLE, jw.v, h1]
  rw [hTe] at hr
  exact jK.runs hr (.inr rfl)
 ·
  have hb := WX.mp h1
  have q1 : IntKind.i64.wrap ((n.tmod 65536).tdiv 256) = n % 65536 / 256 := by
   rw [QS (by omega), JY (by omega), wrap_i64 (by omega) (by omega)]
  conv at hr =>
   rhs
   rw [hTe]
   simp only [jK.code, jK.rs, zSs, reduceIte, Nat.reduceEqDiff, Int.reduceEq, Int.reduceLT, Int.reduceLE, jw.v, h1, JW _ _ _ WE, qQ _ _ _ agz, q1]
  rw [hTe] at hr
  rw [Bool.true_and]
  exact jK.runs hr (.inr rfl)
theorem jV.v (n : Int) (S : zk) : jf Try.prog O jV.id [.int .i64 n] S = some (.int .i64 (Jr n), S) := by
 obtain ⟨T, hTe⟩ : ∃ T, T = (.int .i64 n :: undef :: undef :: undef :: undef :: undef :: undef :: undef :: []) := ⟨_, rfl⟩
 have hr : zG Try.prog O false jV.code T S = zG Try.prog O false jV.code T S := rfl
 unfold Jr
 cases h1 : qE n
 ·
  conv at hr =>
   rhs
   rw [hTe]
   simp only [jV.code, jV.rs, zSs, reduceIte, Nat.reduceEqDiff, Int.reduceEq, Int.reduceLT, Int.reduceLE, jK.v, h1]
  rw [hTe] at hr
  exact jV.runs hr (.inr rfl)
 ·
  have hb := qZ.mp h1
  have q1 : IntKind.i64.wrap (n.tdiv 65536) = n / 65536 := by
   rw [JY (by omega), wrap_i64 (by omega) (by omega)]
  conv at hr =>
   rhs
   rw [hTe]
   simp only [jV.code, jV.rs, zSs, reduceIte, Nat.reduceEqDiff, Int.reduceEq, Int.reduceLT, Int.reduceLE, jK.v, h1, qQ _ _ _ WE, q1]
  rw [hTe] at hr
  exact jV.runs hr (.inr rfl)
def XM (n : Int) : Value := if n < 0 then .tuple #[.int .i64 0, .int .i64 0, .int .i64 0, .bool false] else .tuple #[.int .i64 (n / 65536), .int .i64 (n / 256 % 256), .int .i64 (n % 256), .bool (qE n)]
theorem zN.v (n : Int) (hn : n < 9223372036854775808) (S : zk) : jf Try.prog O zN.id [.int .i64 n] S = some (XM n, S) := by
 obtain ⟨T, hTe⟩ : ∃ T, T = (.int .i64 n :: undef :: undef :: undef :: undef :: undef :: undef :: undef :: undef :: undef :: undef :: undef :: undef :: undef :: undef :: undef :: undef :: undef :: undef :: undef :: undef :: undef :: undef :: undef :: undef :: undef :: undef :: undef :: undef :: undef :: undef :: []) := ⟨_, rfl⟩
 have hr : zG Try.prog O false zN.code T S = zG Try.prog O false zN.code T S := rfl
 unfold XM
 by_cases h0 : n < 0
 ·
  conv at hr =>
   rhs
   rw [hTe]
   simp only [zN.code, zN.rs, zSs, reduceIte, Nat.reduceEqDiff, Int.reduceEq, Int.reduceLT, Int.reduceLE, decide_eq_true h0]
  rw [hTe] at hr
  rw [if_pos h0]
  exact zN.runs hr (.inr rfl) rfl rfl rfl rfl
 ·
  have q1 : IntKind.i64.wrap (n.tdiv 65536) = n / 65536 := by
   rw [JY (by omega), wrap_i64 (by omega) (by omega)]
  have q2 : (IntKind.i64.wrap (n.tdiv 256)).tmod 256 = n / 256 % 256 := by
   rw [JY (by omega), wrap_i64 (by omega) (by omega), QS (by omega)]
  have q3 : n.tmod 256 = n % 256 := QS (by omega)
  rw [if_neg h0]
  by_cases h1 : 1 ≤ n / 65536
  ·
   by_cases h2 : n / 65536 ≤ 4095
   ·
    have e : qE n = decide (n / 256 % 256 ≤ 6) := by
     rw [Bool.eq_iff_iff, qZ]; simp; omega
    rw [e]
    conv at hr =>
     rhs
     rw [hTe]
     simp only [zN.code, zN.rs, zSs, reduceIte, Nat.reduceEqDiff, Int.reduceEq, Int.reduceLT, Int.reduceLE, decide_eq_false h0, JW _ _ _ agz, qQ _ _ _ agz, qQ _ _ _ WE, q1, q2, q3, decide_eq_true h1, decide_eq_true h2]
    rw [hTe] at hr
    exact zN.runs hr (.inr rfl) rfl rfl rfl rfl
   ·
    have e : qE n = false := by
     cases h : qE n with
     | false => rfl
     | true => have := qZ.mp h; omega
    rw [e]
    conv at hr =>
     rhs
     rw [hTe]
     simp only [zN.code, zN.rs, zSs, reduceIte, Nat.reduceEqDiff, Int.reduceEq, Int.reduceLT, Int.reduceLE, decide_eq_false h0, JW _ _ _ agz, qQ _ _ _ agz, qQ _ _ _ WE, q1, q2, q3, decide_eq_true h1, decide_eq_false h2]
    rw [hTe] at hr
    exact zN.runs hr (.inr rfl) rfl rfl rfl rfl
  ·
   have e : qE n = false := by
    cases h : qE n with
    | false => rfl
    | true => have := qZ.mp h; omega
   rw [e]
   conv at hr =>
    rhs
    rw [hTe]
    simp only [zN.code, zN.rs, zSs, reduceIte, Nat.reduceEqDiff, Int.reduceEq, Int.reduceLT, Int.reduceLE, decide_eq_false h0, JW _ _ _ agz, qQ _ _ _ agz, qQ _ _ _ WE, q1, q2, q3, decide_eq_false h1]
   rw [hTe] at hr
   exact zN.runs hr (.inr rfl) rfl rfl rfl rfl
end Go.Proofs.Ytbgcphbbchndkaa
namespace Go.Proofs.Ytbgcphbbchndkaa
open Go.Abs
abbrev zx.id : FuncId := 55
noncomputable def zx.jT : Code := (Code.seq (Code.region 4 (reg Try.f55 4) false) (Code.seq (Code.cond (Operand.tmp 14) Code.skip (Code.exit 0)) (Code.seq (Code.block 1 (Code.seq (Code.region 5 (reg Try.f55 5) false) (Code.seq (Code.region 6 (reg Try.f55 6) true) (Code.cond (Operand.tmp 24) (Code.seq (Code.region 7 (reg Try.f55 7) false) Code.ret) Code.skip)))) (Code.region 8 (reg Try.f55 8) false))))
noncomputable def zx.code : Code := (Code.seq (Code.region 0 (reg Try.f55 0) false) (Code.seq (Code.seq (Code.region 1 (reg Try.f55 1) false) (Code.cond (Operand.tmp 10) (Code.seq (Code.region 2 (reg Try.f55 2) false) Code.ret) Code.skip)) (Code.seq (Code.seq (Code.region 3 (reg Try.f55 3) false) (Code.block 0 (Code.loop zx.jT))) (Code.seq (Code.region 9 (reg Try.f55 9) false) Code.ret))))
theorem zx.body : Try.f55.body = some zx.code := by kernel_rfl
theorem zx.eta {T : List Value} (h : T.length = 26) : T = [T.getD 0 undef,T.getD 1 undef,T.getD 2 undef,T.getD 3 undef,T.getD 4 undef,T.getD 5 undef,T.getD 6 undef,T.getD 7 undef,T.getD 8 undef,T.getD 9 undef,T.getD 10 undef,T.getD 11 undef,T.getD 12 undef,T.getD 13 undef,T.getD 14 undef,T.getD 15 undef,T.getD 16 undef,T.getD 17 undef,T.getD 18 undef,T.getD 19 undef,T.getD 20 undef,T.getD 21 undef,T.getD 22 undef,T.getD 23 undef,T.getD 24 undef,T.getD 25 undef] := (qN T 26 h).trans (by kernel_rfl)
variable (d u x y D w z A B C f g c b i j k l m n o p q r s t : Value) (S : zk)
theorem zx.r0  : jE Try.prog ⟨false, false, false⟩ (jf Try.prog O) (reg Try.f55 0) (reg Try.f55 0).toList ([d,u,x,y,D,w,z,A,B,C,f,g,c,b,i,j,k,l,m,n,o,p,q,r,s,t]) S =
  ( some ([d,u,x,y,Value.bool false,w,z,A,B,C,f,g,c,b,i,j,k,l,m,n,o,p,q,r,s,t], S)) := by
 kernel_rfl
theorem zx.r1  : jE Try.prog ⟨false, false, false⟩ (jf Try.prog O) (reg Try.f55 1) (reg Try.f55 1).toList ([d,u,x,y,D,w,z,A,B,C,f,g,c,b,i,j,k,l,m,n,o,p,q,r,s,t]) S =
  (zM (Zw Try.prog 26 (dem d) S) (fun G E => zM (Zw Try.prog 26 (dem u) E) (fun F H => zM (jS Try.prog BinOp.neq 3 G F H) (fun R I => some ([d,u,x,y,D,w,dem d,G,dem u,F,R,g,c,b,i,j,k,l,m,n,o,p,q,r,s,t], I)) ()) ()) ()) := by
 kernel_rfl
theorem zx.r2  : jE Try.prog ⟨false, false, false⟩ (jf Try.prog O) (reg Try.f55 2) (reg Try.f55 2).toList ([d,u,x,y,D,w,z,A,B,C,f,g,c,b,i,j,k,l,m,n,o,p,q,r,s,t]) S =
  ( some ([d,u,x,y,Value.bool false,w,z,A,B,C,f,g,c,b,i,j,k,l,m,n,o,p,q,r,s,t], S)) := by
 kernel_rfl
theorem zx.r3  : jE Try.prog ⟨false, false, false⟩ (jf Try.prog O) (reg Try.f55 3) (reg Try.f55 3).toList ([d,u,x,y,D,w,z,A,B,C,f,g,c,b,i,j,k,l,m,n,o,p,q,r,s,t]) S =
  (zM (Zw Try.prog 26 (dem d) S) (fun G E => some ([d,u,x,y,D,w,z,A,B,C,f,dem d,G,Value.int IntKind.i64 0,i,j,k,l,m,n,o,p,q,r,s,t], E)) ()) := by
 kernel_rfl
theorem zx.r4  : jE Try.prog ⟨false, false, false⟩ (jf Try.prog O) (reg Try.f55 4) (reg Try.f55 4).toList ([d,u,x,y,D,w,z,A,B,C,f,g,c,b,i,j,k,l,m,n,o,p,q,r,s,t]) S =
  (zM (jS Try.prog BinOp.lss 3 b c S) (fun J E => some ([d,u,x,y,D,w,z,A,B,C,f,g,c,b,J,j,k,l,m,n,o,p,q,r,s,t], E)) ()) := by
 kernel_rfl
theorem zx.r5  : jE Try.prog ⟨false, false, false⟩ (jf Try.prog O) (reg Try.f55 5) (reg Try.f55 5).toList ([d,u,x,y,D,w,z,A,B,C,f,g,c,b,i,j,k,l,m,n,o,p,q,r,s,t]) S =
  ( some ([d,u,x,y,D,b,z,A,B,C,f,g,c,dem b,i,dem b,k,l,m,n,o,p,q,r,s,t], S)) := by
 kernel_rfl
theorem zx.d6 : vN Try.prog (reg Try.f55 6) = true := by kernel_rfl
theorem zx.ff6 : fixed Try.prog (reg Try.f55 6) = false := by kernel_rfl
theorem zx.k6 : checked Try.prog (reg Try.f55 6) = [] := by kernel_rfl
theorem zx.g6 : again Try.prog (reg Try.f55 6) = [] := by kernel_rfl
theorem zx.r6  : zG Try.prog O false (.region 6 (reg Try.f55 6) true) ([d,u,x,y,D,w,z,A,B,C,f,g,c,b,i,j,k,l,m,n,o,p,q,r,s,t]) S =
  XY (zM (jP Try.prog 26 (dem d) (dem w) S) (fun K E => zM (zV Try.prog false 25 K E) (fun F H => zM (jP Try.prog 26 (dem u) (dem w) H) (fun L I => zM (zV Try.prog false 25 L I) (fun M N => zM (jS Try.prog BinOp.neq 25 F M N) (fun P Q => some ([d,u,x,y,D,w,z,A,B,C,f,g,c,b,i,j,dem d,dem w,K,F,dem u,dem w,L,M,P,t], Q)) ()) ()) ()) ()) ()) := by
 rw [kZ zx.d6 zx.ff6 zx.k6 zx.g6]
 refine congrArg XY ?_
 refine tP Try.f55 6 0 (v := d) ?_
 refine tP Try.f55 6 1 (v := w) ?_
 refine tD Try.f55 6 2 (fun K E => ?_)
 refine tD Try.f55 6 3 (fun F H => ?_)
 refine tP Try.f55 6 4 (v := u) ?_
 refine tP Try.f55 6 5 (v := w) ?_
 refine tD Try.f55 6 6 (fun L I => ?_)
 refine tD Try.f55 6 7 (fun M N => ?_)
 refine tD Try.f55 6 8 (fun P Q => ?_)
 kernel_rfl
theorem zx.r7  : jE Try.prog ⟨false, false, false⟩ (jf Try.prog O) (reg Try.f55 7) (reg Try.f55 7).toList ([d,u,x,y,D,w,z,A,B,C,f,g,c,b,i,j,k,l,m,n,o,p,q,r,s,t]) S =
  ( some ([d,u,x,y,Value.bool false,w,z,A,B,C,f,g,c,b,i,j,k,l,m,n,o,p,q,r,s,t], S)) := by
 kernel_rfl
theorem zx.r8  : jE Try.prog ⟨false, false, false⟩ (jf Try.prog O) (reg Try.f55 8) (reg Try.f55 8).toList ([d,u,x,y,D,w,z,A,B,C,f,g,c,b,i,j,k,l,m,n,o,p,q,r,s,t]) S =
  (zM (jS Try.prog BinOp.add 3 b (Value.int IntKind.i64 1) S) (fun J E => some ([d,u,x,y,D,w,z,A,B,C,f,g,c,dem J,i,j,k,l,m,n,o,p,q,r,s,J], E)) ()) := by
 kernel_rfl
theorem zx.r9  : jE Try.prog ⟨false, false, false⟩ (jf Try.prog O) (reg Try.f55 9) (reg Try.f55 9).toList ([d,u,x,y,D,w,z,A,B,C,f,g,c,b,i,j,k,l,m,n,o,p,q,r,s,t]) S =
  ( some ([d,u,x,y,Value.bool true,w,z,A,B,C,f,g,c,b,i,j,k,l,m,n,o,p,q,r,s,t], S)) := by
 kernel_rfl
theorem zx.rs : type_of% (And.intro @zx.r0 (And.intro @zx.r1 (And.intro @zx.r2 (And.intro @zx.r3 (And.intro @zx.r4 (And.intro @zx.r5 (And.intro @zx.r6 (And.intro @zx.r7 (And.intro @zx.r8 (@zx.r9)))))))))) := And.intro @zx.r0 (And.intro @zx.r1 (And.intro @zx.r2 (And.intro @zx.r3 (And.intro @zx.r4 (And.intro @zx.r5 (And.intro @zx.r6 (And.intro @zx.r7 (And.intro @zx.r8 (@zx.r9)))))))))
theorem zx.runs {d u : Value} {S E : zk} {e : AEx} {T : List Value} (h : zG Try.prog O false zx.code ([d,u,undef,undef,undef,undef,undef,undef,undef,undef,undef,undef,undef,undef,undef,undef,undef,undef,undef,undef,undef,undef,undef,undef,undef,undef]) S = some (e, T, E)) (he : e = .normal ∨ e = .ret) : jf Try.prog O 55 [d, u] S = some (T.getD 4 undef, E) :=
 yQ rfl rfl Try.func55 (by decide) zx.body (by exact h) he (yg (a := T.getD 4 undef) ((show zO Try.prog T E Try.f55.results.toList = zO Try.prog T E [(ResultVar.tmp 4)] from by kernel_rfl).trans (by simp only [zO])) (by kernel_rfl))
end Go.Proofs.Ytbgcphbbchndkaa
namespace Go.Proofs.Ytbgcphbbchndkaa
open Go.Abs
abbrev slices_Equal.id : FuncId := 60
noncomputable def slices_Equal.jT : Code := (Code.seq (Code.region 4 (reg Try.f60 4) false) (Code.seq (Code.cond (Operand.tmp 14) Code.skip (Code.exit 0)) (Code.seq (Code.block 1 (Code.seq (Code.region 5 (reg Try.f60 5) false) (Code.seq (Code.region 6 (reg Try.f60 6) true) (Code.cond (Operand.tmp 24) (Code.seq (Code.region 7 (reg Try.f60 7) false) Code.ret) Code.skip)))) (Code.region 8 (reg Try.f60 8) false))))
noncomputable def slices_Equal.code : Code := (Code.seq (Code.region 0 (reg Try.f60 0) false) (Code.seq (Code.seq (Code.region 1 (reg Try.f60 1) false) (Code.cond (Operand.tmp 10) (Code.seq (Code.region 2 (reg Try.f60 2) false) Code.ret) Code.skip)) (Code.seq (Code.seq (Code.region 3 (reg Try.f60 3) false) (Code.block 0 (Code.loop slices_Equal.jT))) (Code.seq (Code.region 9 (reg Try.f60 9) false) Code.ret))))
theorem slices_Equal.body : Try.f60.body = some slices_Equal.code := by kernel_rfl
theorem slices_Equal.eta {T : List Value} (h : T.length = 26) : T = [T.getD 0 undef,T.getD 1 undef,T.getD 2 undef,T.getD 3 undef,T.getD 4 undef,T.getD 5 undef,T.getD 6 undef,T.getD 7 undef,T.getD 8 undef,T.getD 9 undef,T.getD 10 undef,T.getD 11 undef,T.getD 12 undef,T.getD 13 undef,T.getD 14 undef,T.getD 15 undef,T.getD 16 undef,T.getD 17 undef,T.getD 18 undef,T.getD 19 undef,T.getD 20 undef,T.getD 21 undef,T.getD 22 undef,T.getD 23 undef,T.getD 24 undef,T.getD 25 undef] := (qN T 26 h).trans (by kernel_rfl)
variable (d u x y D w z A B C f g c b i j k l m n o p q r s t : Value) (S : zk)
theorem slices_Equal.r0  : jE Try.prog ⟨false, false, false⟩ (jf Try.prog O) (reg Try.f60 0) (reg Try.f60 0).toList ([d,u,x,y,D,w,z,A,B,C,f,g,c,b,i,j,k,l,m,n,o,p,q,r,s,t]) S =
  ( some ([d,u,x,y,Value.bool false,w,z,A,B,C,f,g,c,b,i,j,k,l,m,n,o,p,q,r,s,t], S)) := by
 kernel_rfl
theorem slices_Equal.r1  : jE Try.prog ⟨false, false, false⟩ (jf Try.prog O) (reg Try.f60 1) (reg Try.f60 1).toList ([d,u,x,y,D,w,z,A,B,C,f,g,c,b,i,j,k,l,m,n,o,p,q,r,s,t]) S =
  (zM (Zw Try.prog 26 (dem d) S) (fun G E => zM (Zw Try.prog 26 (dem u) E) (fun F H => zM (jS Try.prog BinOp.neq 3 G F H) (fun R I => some ([d,u,x,y,D,w,dem d,G,dem u,F,R,g,c,b,i,j,k,l,m,n,o,p,q,r,s,t], I)) ()) ()) ()) := by
 kernel_rfl
theorem slices_Equal.r2  : jE Try.prog ⟨false, false, false⟩ (jf Try.prog O) (reg Try.f60 2) (reg Try.f60 2).toList ([d,u,x,y,D,w,z,A,B,C,f,g,c,b,i,j,k,l,m,n,o,p,q,r,s,t]) S =
  ( some ([d,u,x,y,Value.bool false,w,z,A,B,C,f,g,c,b,i,j,k,l,m,n,o,p,q,r,s,t], S)) := by
 kernel_rfl
theorem slices_Equal.r3  : jE Try.prog ⟨false, false, false⟩ (jf Try.prog O) (reg Try.f60 3) (reg Try.f60 3).toList ([d,u,x,y,D,w,z,A,B,C,f,g,c,b,i,j,k,l,m,n,o,p,q,r,s,t]) S =
  (zM (Zw Try.prog 26 (dem d) S) (fun G E => some ([d,u,x,y,D,w,z,A,B,C,f,dem d,G,Value.int IntKind.i64 0,i,j,k,l,m,n,o,p,q,r,s,t], E)) ()) := by
 kernel_rfl
theorem slices_Equal.r4  : jE Try.prog ⟨false, false, false⟩ (jf Try.prog O) (reg Try.f60 4) (reg Try.f60 4).toList ([d,u,x,y,D,w,z,A,B,C,f,g,c,b,i,j,k,l,m,n,o,p,q,r,s,t]) S =
  (zM (jS Try.prog BinOp.lss 3 b c S) (fun J E => some ([d,u,x,y,D,w,z,A,B,C,f,g,c,b,J,j,k,l,m,n,o,p,q,r,s,t], E)) ()) := by
 kernel_rfl
theorem slices_Equal.r5  : jE Try.prog ⟨false, false, false⟩ (jf Try.prog O) (reg Try.f60 5) (reg Try.f60 5).toList ([d,u,x,y,D,w,z,A,B,C,f,g,c,b,i,j,k,l,m,n,o,p,q,r,s,t]) S =
  ( some ([d,u,x,y,D,b,z,A,B,C,f,g,c,dem b,i,dem b,k,l,m,n,o,p,q,r,s,t], S)) := by
 kernel_rfl
theorem slices_Equal.d6 : vN Try.prog (reg Try.f60 6) = true := by kernel_rfl
theorem slices_Equal.ff6 : fixed Try.prog (reg Try.f60 6) = false := by kernel_rfl
theorem slices_Equal.k6 : checked Try.prog (reg Try.f60 6) = [] := by kernel_rfl
theorem slices_Equal.g6 : again Try.prog (reg Try.f60 6) = [] := by kernel_rfl
theorem slices_Equal.r6  : zG Try.prog O false (.region 6 (reg Try.f60 6) true) ([d,u,x,y,D,w,z,A,B,C,f,g,c,b,i,j,k,l,m,n,o,p,q,r,s,t]) S =
  XY (zM (jP Try.prog 26 (dem d) (dem w) S) (fun K E => zM (zV Try.prog false 25 K E) (fun F H => zM (jP Try.prog 26 (dem u) (dem w) H) (fun L I => zM (zV Try.prog false 25 L I) (fun M N => zM (jS Try.prog BinOp.neq 25 F M N) (fun P Q => some ([d,u,x,y,D,w,z,A,B,C,f,g,c,b,i,j,dem d,dem w,K,F,dem u,dem w,L,M,P,t], Q)) ()) ()) ()) ()) ()) := by
 rw [kZ slices_Equal.d6 slices_Equal.ff6 slices_Equal.k6 slices_Equal.g6]
 refine congrArg XY ?_
 refine tP Try.f60 6 0 (v := d) ?_
 refine tP Try.f60 6 1 (v := w) ?_
 refine tD Try.f60 6 2 (fun K E => ?_)
 refine tD Try.f60 6 3 (fun F H => ?_)
 refine tP Try.f60 6 4 (v := u) ?_
 refine tP Try.f60 6 5 (v := w) ?_
 refine tD Try.f60 6 6 (fun L I => ?_)
 refine tD Try.f60 6 7 (fun M N => ?_)
 refine tD Try.f60 6 8 (fun P Q => ?_)
 kernel_rfl
theorem slices_Equal.r7  : jE Try.prog ⟨false, false, false⟩ (jf Try.prog O) (reg Try.f60 7) (reg Try.f60 7).toList ([d,u,x,y,D,w,z,A,B,C,f,g,c,b,i,j,k,l,m,n,o,p,q,r,s,t]) S =
  ( some ([d,u,x,y,Value.bool false,w,z,A,B,C,f,g,c,b,i,j,k,l,m,n,o,p,q,r,s,t], S)) := by
 kernel_rfl
theorem slices_Equal.r8  : jE Try.prog ⟨false, false, false⟩ (jf Try.prog O) (reg Try.f60 8) (reg Try.f60 8).toList ([d,u,x,y,D,w,z,A,B,C,f,g,c,b,i,j,k,l,m,n,o,p,q,r,s,t]) S =
  (zM (jS Try.prog BinOp.add 3 b (Value.int IntKind.i64 1) S) (fun J E => some ([d,u,x,y,D,w,z,A,B,C,f,g,c,dem J,i,j,k,l,m,n,o,p,q,r,s,J], E)) ()) := by
 kernel_rfl
theorem slices_Equal.r9  : jE Try.prog ⟨false, false, false⟩ (jf Try.prog O) (reg Try.f60 9) (reg Try.f60 9).toList ([d,u,x,y,D,w,z,A,B,C,f,g,c,b,i,j,k,l,m,n,o,p,q,r,s,t]) S =
  ( some ([d,u,x,y,Value.bool true,w,z,A,B,C,f,g,c,b,i,j,k,l,m,n,o,p,q,r,s,t], S)) := by
 kernel_rfl
theorem slices_Equal.rs : type_of% (And.intro @slices_Equal.r0 (And.intro @slices_Equal.r1 (And.intro @slices_Equal.r2 (And.intro @slices_Equal.r3 (And.intro @slices_Equal.r4 (And.intro @slices_Equal.r5 (And.intro @slices_Equal.r6 (And.intro @slices_Equal.r7 (And.intro @slices_Equal.r8 (@slices_Equal.r9)))))))))) := And.intro @slices_Equal.r0 (And.intro @slices_Equal.r1 (And.intro @slices_Equal.r2 (And.intro @slices_Equal.r3 (And.intro @slices_Equal.r4 (And.intro @slices_Equal.r5 (And.intro @slices_Equal.r6 (And.intro @slices_Equal.r7 (And.intro @slices_Equal.r8 (@slices_Equal.r9)))))))))
theorem slices_Equal.runs {d u : Value} {S E : zk} {e : AEx} {T : List Value} (h : zG Try.prog O false slices_Equal.code ([d,u,undef,undef,undef,undef,undef,undef,undef,undef,undef,undef,undef,undef,undef,undef,undef,undef,undef,undef,undef,undef,undef,undef,undef,undef]) S = some (e, T, E)) (he : e = .normal ∨ e = .ret) : jf Try.prog O 60 [d, u] S = some (T.getD 4 undef, E) :=
 yQ rfl rfl Try.func60 (by decide) slices_Equal.body (by exact h) he (yg (a := T.getD 4 undef) ((show zO Try.prog T E Try.f60.results.toList = zO Try.prog T E [(ResultVar.tmp 4)] from by kernel_rfl).trans (by simp only [zO])) (by kernel_rfl))
end Go.Proofs.Ytbgcphbbchndkaa
namespace Go.Proofs.Ytbgcphbbchndkaa
open Go.Abs
abbrev ji.id : FuncId := 66
noncomputable def ji.jT : Code := (Code.seq (Code.region 3 (reg Try.f66 3) false) (Code.seq (Code.cond (Operand.tmp 10) Code.skip (Code.exit 0)) (Code.seq (Code.block 1 (Code.seq (Code.region 4 (reg Try.f66 4) false) (Code.seq (Code.seq (Code.region 5 (reg Try.f66 5) false) (Code.cond (Operand.tmp 16) (Code.seq (Code.region 6 (reg Try.f66 6) false) Code.ret) Code.skip)) (Code.region 7 (reg Try.f66 7) false)))) (Code.region 8 (reg Try.f66 8) false))))
noncomputable def ji.code : Code := (Code.seq (Code.region 0 (reg Try.f66 0) false) (Code.seq (Code.region 1 (reg Try.f66 1) false) (Code.seq (Code.seq (Code.region 2 (reg Try.f66 2) false) (Code.block 0 (Code.loop ji.jT))) (Code.seq (Code.region 9 (reg Try.f66 9) false) Code.ret))))
theorem ji.body : Try.f66.body = some ji.code := by kernel_rfl
theorem ji.eta {T : List Value} (h : T.length = 24) : T = [T.getD 0 undef,T.getD 1 undef,T.getD 2 undef,T.getD 3 undef,T.getD 4 undef,T.getD 5 undef,T.getD 6 undef,T.getD 7 undef,T.getD 8 undef,T.getD 9 undef,T.getD 10 undef,T.getD 11 undef,T.getD 12 undef,T.getD 13 undef,T.getD 14 undef,T.getD 15 undef,T.getD 16 undef,T.getD 17 undef,T.getD 18 undef,T.getD 19 undef,T.getD 20 undef,T.getD 21 undef,T.getD 22 undef,T.getD 23 undef] := (qN T 24 h).trans (by kernel_rfl)
variable (r v B s w t z x y u b c d f g i j k l m n o p q : Value) (S : zk)
theorem ji.r0  : jE Try.prog ⟨false, false, false⟩ (jf Try.prog O) (reg Try.f66 0) (reg Try.f66 0).toList ([r,v,B,s,w,t,z,x,y,u,b,c,d,f,g,i,j,k,l,m,n,o,p,q]) S =
  ( some ([r,v,Value.bool false,s,w,t,z,x,y,u,b,c,d,f,g,i,j,k,l,m,n,o,p,q], S)) := by
 kernel_rfl
theorem ji.r1  : jE Try.prog ⟨false, false, false⟩ (jf Try.prog O) (reg Try.f66 1) (reg Try.f66 1).toList ([r,v,B,s,w,t,z,x,y,u,b,c,d,f,g,i,j,k,l,m,n,o,p,q]) S =
  (zM (xG Try.prog 100 none S) (fun E A => some ([r,v,B,E,w,t,dem E,x,y,u,b,c,d,f,g,i,j,k,l,m,n,o,p,q], A)) ()) := by
 kernel_rfl
theorem ji.r2  : jE Try.prog ⟨false, false, false⟩ (jf Try.prog O) (reg Try.f66 2) (reg Try.f66 2).toList ([r,v,B,s,w,t,z,x,y,u,b,c,d,f,g,i,j,k,l,m,n,o,p,q]) S =
  (zM (Zw Try.prog 26 (dem r) S) (fun C A => some ([r,v,B,s,w,t,z,dem r,C,Value.int IntKind.i64 0,b,c,d,f,g,i,j,k,l,m,n,o,p,q], A)) ()) := by
 kernel_rfl
theorem ji.r3  : jE Try.prog ⟨false, false, false⟩ (jf Try.prog O) (reg Try.f66 3) (reg Try.f66 3).toList ([r,v,B,s,w,t,z,x,y,u,b,c,d,f,g,i,j,k,l,m,n,o,p,q]) S =
  (zM (jS Try.prog BinOp.lss 3 u y S) (fun E A => some ([r,v,B,s,w,t,z,x,y,u,E,c,d,f,g,i,j,k,l,m,n,o,p,q], A)) ()) := by
 kernel_rfl
theorem ji.r4  : jE Try.prog ⟨false, false, false⟩ (jf Try.prog O) (reg Try.f66 4) (reg Try.f66 4).toList ([r,v,B,s,w,t,z,x,y,u,b,c,d,f,g,i,j,k,l,m,n,o,p,q]) S =
  (zM (jP Try.prog 26 x u S) (fun E A => zM (zV Try.prog false 25 E A) (fun C F => zM (yM Try.prog 25 F) (fun D G => zM (yC Try.prog 25 D (dem C) G) (fun H I => some ([r,v,B,s,w,D,z,x,y,u,b,E,C,f,g,i,j,k,l,m,n,o,p,q], I)) ()) ()) ()) ()) := by
 kernel_rfl
theorem ji.r5  : jE Try.prog ⟨false, false, false⟩ (jf Try.prog O) (reg Try.f66 5) (reg Try.f66 5).toList ([r,v,B,s,w,t,z,x,y,u,b,c,d,f,g,i,j,k,l,m,n,o,p,q]) S =
  (zM (zo Try.prog 25 t 0 S) (fun C A => zM (zV Try.prog false 3 C A) (fun D F => zM (vJ Try.prog false 100 (dem s) D false F) (fun H G => some ([r,v,B,s,w,t,z,x,y,u,b,c,d,dem s,C,D,H,k,l,m,n,o,p,q], G)) ()) ()) ()) := by
 kernel_rfl
theorem ji.r6  : jE Try.prog ⟨false, false, false⟩ (jf Try.prog O) (reg Try.f66 6) (reg Try.f66 6).toList ([r,v,B,s,w,t,z,x,y,u,b,c,d,f,g,i,j,k,l,m,n,o,p,q]) S =
  ( some ([r,v,Value.bool false,s,w,t,z,x,y,u,b,c,d,f,g,i,j,k,l,m,n,o,p,q], S)) := by
 kernel_rfl
theorem ji.r7  : jE Try.prog ⟨false, false, false⟩ (jf Try.prog O) (reg Try.f66 7) (reg Try.f66 7).toList ([r,v,B,s,w,t,z,x,y,u,b,c,d,f,g,i,j,k,l,m,n,o,p,q]) S =
  (zM (zo Try.prog 25 t 0 S) (fun C A => zM (zV Try.prog false 3 C A) (fun D F => zM (yF Try.prog 100 (dem s) D (Value.bool true) F) (fun H G => some ([r,v,B,s,w,t,z,x,y,u,b,c,d,f,g,i,j,dem s,C,D,n,o,p,q], G)) ()) ()) ()) := by
 kernel_rfl
theorem ji.r8  : jE Try.prog ⟨false, false, false⟩ (jf Try.prog O) (reg Try.f66 8) (reg Try.f66 8).toList ([r,v,B,s,w,t,z,x,y,u,b,c,d,f,g,i,j,k,l,m,n,o,p,q]) S =
  (zM (jS Try.prog BinOp.add 3 u (Value.int IntKind.i64 1) S) (fun E A => some ([r,v,B,s,w,t,z,x,y,dem E,b,c,d,f,g,i,j,k,l,m,E,o,p,q], A)) ()) := by
 kernel_rfl
theorem ji.r9  : jE Try.prog ⟨false, false, false⟩ (jf Try.prog O) (reg Try.f66 9) (reg Try.f66 9).toList ([r,v,B,s,w,t,z,x,y,u,b,c,d,f,g,i,j,k,l,m,n,o,p,q]) S =
  (zM (Zw Try.prog 26 (dem r) S) (fun C A => zM (jS Try.prog BinOp.leq 3 C (Value.int IntKind.i64 3) A) (fun D F => some ([r,v,D,s,w,t,z,x,y,u,b,c,d,f,g,i,j,k,l,m,n,dem r,C,dem D], F)) ()) ()) := by
 kernel_rfl
theorem ji.rs : type_of% (And.intro @ji.r0 (And.intro @ji.r1 (And.intro @ji.r2 (And.intro @ji.r3 (And.intro @ji.r4 (And.intro @ji.r5 (And.intro @ji.r6 (And.intro @ji.r7 (And.intro @ji.r8 (@ji.r9)))))))))) := And.intro @ji.r0 (And.intro @ji.r1 (And.intro @ji.r2 (And.intro @ji.r3 (And.intro @ji.r4 (And.intro @ji.r5 (And.intro @ji.r6 (And.intro @ji.r7 (And.intro @ji.r8 (@ji.r9)))))))))
theorem ji.runs {r : Value} {S A : zk} {e : AEx} {T : List Value} (h : zG Try.prog O false ji.code ([r,undef,undef,undef,undef,undef,undef,undef,undef,undef,undef,undef,undef,undef,undef,undef,undef,undef,undef,undef,undef,undef,undef,undef]) zk.empty = some (e, T, A)) (he : e = .normal ∨ e = .ret) (hca : [r].all (jB 16) = true) (hcv : jB 16 (T.getD 2 undef) = true) : jf Try.prog O 66 [r] S = some (T.getD 2 undef, S) :=
 yc rfl rfl Try.func66 (by decide) ji.body (by exact h) he (yg (a := T.getD 2 undef) ((show zO Try.prog T A Try.f66.results.toList = zO Try.prog T A [(ResultVar.tmp 2)] from by kernel_rfl).trans (by simp only [zO])) (by kernel_rfl)) hca hcv
end Go.Proofs.Ytbgcphbbchndkaa
namespace Go.Proofs.Ytbgcphbbchndkaa
open Go.Abs
abbrev jy.id : FuncId := 56
noncomputable def jy.jT : Code := (Code.seq (Code.region 5 (reg Try.f56 5) false) (Code.seq (Code.cond (Operand.tmp 23) Code.skip (Code.exit 0)) (Code.seq (Code.block 1 (Code.seq (Code.region 6 (reg Try.f56 6) false) (Code.seq (Code.region 7 (reg Try.f56 7) false) (Code.seq (Code.seq (Code.region 8 (reg Try.f56 8) false) (Code.cond (Operand.tmp 32) (Code.seq (Code.region 9 (reg Try.f56 9) false) Code.ret) Code.skip)) (Code.region 10 (reg Try.f56 10) false))))) (Code.region 11 (reg Try.f56 11) false))))
noncomputable def jy.code : Code := (Code.seq (Code.region 0 (reg Try.f56 0) false) (Code.seq (Code.seq (Code.region 1 (reg Try.f56 1) false) (Code.cond (Operand.tmp 12) (Code.seq (Code.region 2 (reg Try.f56 2) false) Code.ret) Code.skip)) (Code.seq (Code.region 3 (reg Try.f56 3) false) (Code.seq (Code.seq (Code.region 4 (reg Try.f56 4) false) (Code.block 0 (Code.loop jy.jT))) (Code.seq (Code.region 12 (reg Try.f56 12) false) Code.ret)))))
theorem jy.body : Try.f56.body = some jy.code := by kernel_rfl
theorem jy.eta {T : List Value} (h : T.length = 39) : T = [T.getD 0 undef,T.getD 1 undef,T.getD 2 undef,T.getD 3 undef,T.getD 4 undef,T.getD 5 undef,T.getD 6 undef,T.getD 7 undef,T.getD 8 undef,T.getD 9 undef,T.getD 10 undef,T.getD 11 undef,T.getD 12 undef,T.getD 13 undef,T.getD 14 undef,T.getD 15 undef,T.getD 16 undef,T.getD 17 undef,T.getD 18 undef,T.getD 19 undef,T.getD 20 undef,T.getD 21 undef,T.getD 22 undef,T.getD 23 undef,T.getD 24 undef,T.getD 25 undef,T.getD 26 undef,T.getD 27 undef,T.getD 28 undef,T.getD 29 undef,T.getD 30 undef,T.getD 31 undef,T.getD 32 undef,T.getD 33 undef,T.getD 34 undef,T.getD 35 undef,T.getD 36 undef,T.getD 37 undef,T.getD 38 undef] := (qN T 39 h).trans (by kernel_rfl)
variable (F J N P H M K L I G d f g i j k l m n o b c a p q r s t u v w x y z A B C D E : Value) (S : zk)
theorem jy.r0  : jE Try.prog ⟨false, false, false⟩ (jf Try.prog O) (reg Try.f56 0) (reg Try.f56 0).toList ([F,J,N,P,H,M,K,L,I,G,d,f,g,i,j,k,l,m,n,o,b,c,a,p,q,r,s,t,u,v,w,x,y,z,A,B,C,D,E]) S =
  ( some ([F,J,Value.slice none 0 0,Value.int IntKind.i64 0,H,M,K,L,I,G,d,f,g,i,j,k,l,m,n,o,b,c,a,p,q,r,s,t,u,v,w,x,y,z,A,B,C,D,E], S)) := by
 kernel_rfl
theorem jy.r1  : jE Try.prog ⟨false, false, false⟩ (jf Try.prog O) (reg Try.f56 1) (reg Try.f56 1).toList ([F,J,N,P,H,M,K,L,I,G,d,f,g,i,j,k,l,m,n,o,b,c,a,p,q,r,s,t,u,v,w,x,y,z,A,B,C,D,E]) S =
  (zM ((jf Try.prog O) 66 [(dem (dem F))] S) (fun R Q => zM (aUn Try.prog UnOp.not R Q) (fun U X => some ([F,J,N,P,H,M,K,L,I,G,dem F,R,U,i,j,k,l,m,n,o,b,c,a,p,q,r,s,t,u,v,w,x,y,z,A,B,C,D,E], X)) ()) ()) := by
 kernel_rfl
theorem jy.r2  : jE Try.prog ⟨false, false, false⟩ (jf Try.prog O) (reg Try.f56 2) (reg Try.f56 2).toList ([F,J,N,P,H,M,K,L,I,G,d,f,g,i,j,k,l,m,n,o,b,c,a,p,q,r,s,t,u,v,w,x,y,z,A,B,C,D,E]) S =
  ( some ([F,J,Value.slice none 0 0,Value.int IntKind.i64 61,H,M,K,L,I,G,d,f,g,i,j,k,l,m,n,o,b,c,a,p,q,r,s,t,u,v,w,x,y,z,A,B,C,D,E], S)) := by
 kernel_rfl
theorem jy.r3  : jE Try.prog ⟨false, false, false⟩ (jf Try.prog O) (reg Try.f56 3) (reg Try.f56 3).toList ([F,J,N,P,H,M,K,L,I,G,d,f,g,i,j,k,l,m,n,o,b,c,a,p,q,r,s,t,u,v,w,x,y,z,A,B,C,D,E]) S =
  (zM (Zw Try.prog 26 (dem F) S) (fun R Q => zM (jJ Try.prog 57 1 [(0, R)] Q) (fun U X => zM ((jf Try.prog O) 32 [(dem U)] X) (fun W Y => zM (zY W 0 Y) (fun v5 Z => zM (zY (jk 0 W) 1 Z) (fun v6 S5 => some ([F,J,N,P,v5,v6,K,L,I,G,d,f,g,jk 1 (jk 0 W),dem F,R,U,dem W,dem v5,dem v6,b,c,a,p,q,r,s,t,u,v,w,x,y,z,A,B,C,D,E], S5)) ()) ()) ()) ()) ()) := by
 kernel_rfl
theorem jy.r4  : jE Try.prog ⟨false, false, false⟩ (jf Try.prog O) (reg Try.f56 4) (reg Try.f56 4).toList ([F,J,N,P,H,M,K,L,I,G,d,f,g,i,j,k,l,m,n,o,b,c,a,p,q,r,s,t,u,v,w,x,y,z,A,B,C,D,E]) S =
  (zM (Zw Try.prog 26 (dem F) S) (fun R Q => some ([F,J,N,P,H,M,K,L,I,G,d,f,g,i,j,k,l,m,n,o,dem F,R,Value.int IntKind.i64 0,p,q,r,s,t,u,v,w,x,y,z,A,B,C,D,E], Q)) ()) := by
 kernel_rfl
theorem jy.r5  : jE Try.prog ⟨false, false, false⟩ (jf Try.prog O) (reg Try.f56 5) (reg Try.f56 5).toList ([F,J,N,P,H,M,K,L,I,G,d,f,g,i,j,k,l,m,n,o,b,c,a,p,q,r,s,t,u,v,w,x,y,z,A,B,C,D,E]) S =
  (zM (jS Try.prog BinOp.lss 3 a c S) (fun V Q => some ([F,J,N,P,H,M,K,L,I,G,d,f,g,i,j,k,l,m,n,o,b,c,a,V,q,r,s,t,u,v,w,x,y,z,A,B,C,D,E], Q)) ()) := by
 kernel_rfl
theorem jy.r6  : jE Try.prog ⟨false, false, false⟩ (jf Try.prog O) (reg Try.f56 6) (reg Try.f56 6).toList ([F,J,N,P,H,M,K,L,I,G,d,f,g,i,j,k,l,m,n,o,b,c,a,p,q,r,s,t,u,v,w,x,y,z,A,B,C,D,E]) S =
  (zM (jP Try.prog 26 b a S) (fun V Q => zM (zV Try.prog false 25 V Q) (fun R X => zM (yM Try.prog 25 X) (fun U Y => zM (yC Try.prog 25 U (dem R) Y) (fun W Z => some ([F,J,N,P,H,M,K,U,I,G,d,f,g,i,j,k,l,m,n,o,b,c,a,p,V,R,s,t,u,v,w,x,y,z,A,B,C,D,E], Z)) ()) ()) ()) ()) := by
 kernel_rfl
theorem jy.r7  : jE Try.prog ⟨false, false, false⟩ (jf Try.prog O) (reg Try.f56 7) (reg Try.f56 7).toList ([F,J,N,P,H,M,K,L,I,G,d,f,g,i,j,k,l,m,n,o,b,c,a,p,q,r,s,t,u,v,w,x,y,z,A,B,C,D,E]) S =
  (zM (zV Try.prog false 25 L S) (fun V Q => zM ((jf Try.prog O) 33 [(dem V)] Q) (fun R X => zM (zY R 0 X) (fun W Y => zM (zY (jk 0 R) 1 Y) (fun v4 Z => some ([F,J,N,P,H,M,K,L,W,v4,d,f,g,i,j,k,l,m,n,o,b,c,a,p,q,r,jk 1 (jk 0 R),V,dem R,dem W,dem v4,x,y,z,A,B,C,D,E], Z)) ()) ()) ()) ()) := by
 kernel_rfl
theorem jy.r8  : jE Try.prog ⟨false, false, false⟩ (jf Try.prog O) (reg Try.f56 8) (reg Try.f56 8).toList ([F,J,N,P,H,M,K,L,I,G,d,f,g,i,j,k,l,m,n,o,b,c,a,p,q,r,s,t,u,v,w,x,y,z,A,B,C,D,E]) S =
  (zM (jS Try.prog BinOp.neq 31 (dem G) (Value.int IntKind.i64 0) S) (fun R Q => some ([F,J,N,P,H,M,K,L,I,G,d,f,g,i,j,k,l,m,n,o,b,c,a,p,q,r,s,t,u,v,w,dem G,R,z,A,B,C,D,E], Q)) ()) := by
 kernel_rfl
theorem jy.r9  : jE Try.prog ⟨false, false, false⟩ (jf Try.prog O) (reg Try.f56 9) (reg Try.f56 9).toList ([F,J,N,P,H,M,K,L,I,G,d,f,g,i,j,k,l,m,n,o,b,c,a,p,q,r,s,t,u,v,w,x,y,z,A,B,C,D,E]) S =
  ( some ([F,J,Value.slice none 0 0,G,H,M,K,L,I,dem G,d,f,g,i,j,k,l,m,n,o,b,c,a,p,q,r,s,t,u,v,w,x,y,dem G,A,B,C,D,E], S)) := by
 kernel_rfl
theorem jy.r10  : jE Try.prog ⟨false, false, false⟩ (jf Try.prog O) (reg Try.f56 10) (reg Try.f56 10).toList ([F,J,N,P,H,M,K,L,I,G,d,f,g,i,j,k,l,m,n,o,b,c,a,p,q,r,s,t,u,v,w,x,y,z,A,B,C,D,E]) S =
  (zM (wU Try.prog 23 23 H (dem I) S) (fun U Q => some ([F,J,N,P,U,M,K,L,I,G,d,f,g,i,j,k,l,m,n,o,b,c,a,p,q,r,s,t,u,v,w,x,y,z,dem H,dem I,dem U,D,E], Q)) ()) := by
 kernel_rfl
theorem jy.r11  : jE Try.prog ⟨false, false, false⟩ (jf Try.prog O) (reg Try.f56 11) (reg Try.f56 11).toList ([F,J,N,P,H,M,K,L,I,G,d,f,g,i,j,k,l,m,n,o,b,c,a,p,q,r,s,t,u,v,w,x,y,z,A,B,C,D,E]) S =
  (zM (jS Try.prog BinOp.add 3 a (Value.int IntKind.i64 1) S) (fun V Q => some ([F,J,N,P,H,M,K,L,I,G,d,f,g,i,j,k,l,m,n,o,b,c,dem V,p,q,r,s,t,u,v,w,x,y,z,A,B,C,V,E], Q)) ()) := by
 kernel_rfl
theorem jy.r12  : jE Try.prog ⟨false, false, false⟩ (jf Try.prog O) (reg Try.f56 12) (reg Try.f56 12).toList ([F,J,N,P,H,M,K,L,I,G,d,f,g,i,j,k,l,m,n,o,b,c,a,p,q,r,s,t,u,v,w,x,y,z,A,B,C,D,E]) S =
  ( some ([F,J,H,Value.int IntKind.i64 0,dem H,M,K,L,I,G,d,f,g,i,j,k,l,m,n,o,b,c,a,p,q,r,s,t,u,v,w,x,y,z,A,B,C,D,dem H], S)) := by
 kernel_rfl
theorem jy.rs : type_of% (And.intro @jy.r0 (And.intro @jy.r1 (And.intro @jy.r2 (And.intro @jy.r3 (And.intro @jy.r4 (And.intro @jy.r5 (And.intro @jy.r6 (And.intro @jy.r7 (And.intro @jy.r8 (And.intro @jy.r9 (And.intro @jy.r10 (And.intro @jy.r11 (@jy.r12))))))))))))) := And.intro @jy.r0 (And.intro @jy.r1 (And.intro @jy.r2 (And.intro @jy.r3 (And.intro @jy.r4 (And.intro @jy.r5 (And.intro @jy.r6 (And.intro @jy.r7 (And.intro @jy.r8 (And.intro @jy.r9 (And.intro @jy.r10 (And.intro @jy.r11 (@jy.r12))))))))))))
theorem jy.runs {F : Value} {S Q : zk} {e : AEx} {T : List Value} (h : zG Try.prog O false jy.code ([F,undef,undef,undef,undef,undef,undef,undef,undef,undef,undef,undef,undef,undef,undef,undef,undef,undef,undef,undef,undef,undef,undef,undef,undef,undef,undef,undef,undef,undef,undef,undef,undef,undef,undef,undef,undef,undef,undef]) zk.empty = some (e, T, Q)) (he : e = .normal ∨ e = .ret)  (h0 : wI (T.getD 2 undef) = true) (h1 : wI (T.getD 3 undef) = true) (hca : [F].all (jB 16) = true) (hcv : jB 16 (Value.tuple #[T.getD 2 undef, T.getD 3 undef]) = true) : jf Try.prog O 56 [F] S = some (Value.tuple #[T.getD 2 undef, T.getD 3 undef], S) :=
 yc rfl rfl Try.func56 (by decide) jy.body (by exact h) he ((qM ((show zO Try.prog T Q Try.f56.results.toList = zO Try.prog T Q [(ResultVar.tmp 2), (ResultVar.tmp 3)] from by kernel_rfl).trans (by simp only [zO])) (by kernel_rfl) (by simp only [List.all_cons, List.all_nil, h0, h1, Bool.and_true])).trans rfl) hca hcv
end Go.Proofs.Ytbgcphbbchndkaa
namespace Go.Proofs.Ytbgcphbbchndkaa
open Go.Abs
abbrev zn.id : FuncId := 61
noncomputable def zn.jT : Code := (Code.seq (Code.region 10 (reg Try.f61 10) false) (Code.seq (Code.cond (Operand.tmp 30) Code.skip (Code.exit 2)) (Code.seq (Code.block 3 (Code.seq (Code.region 11 (reg Try.f61 11) false) (Code.seq (Code.region 12 (reg Try.f61 12) false) (Code.cond (Operand.tmp 37) (Code.seq (Code.region 13 (reg Try.f61 13) false) Code.ret) Code.skip)))) (Code.region 14 (reg Try.f61 14) false))))
noncomputable def zn.Zb : Code := (Code.seq (Code.region 5 (reg Try.f61 5) false) (Code.seq (Code.cond (Operand.tmp 18) Code.skip (Code.exit 0)) (Code.seq (Code.block 1 (Code.seq (Code.region 6 (reg Try.f61 6) false) (Code.seq (Code.seq (Code.region 7 (reg Try.f61 7) false) (Code.cond (Operand.tmp 24) (Code.seq (Code.region 8 (reg Try.f61 8) false) Code.ret) Code.skip)) (Code.seq (Code.seq (Code.region 9 (reg Try.f61 9) false) (Code.block 2 (Code.loop zn.jT))) (Code.region 15 (reg Try.f61 15) false))))) (Code.region 16 (reg Try.f61 16) false))))
noncomputable def zn.code : Code := (Code.seq (Code.region 0 (reg Try.f61 0) false) (Code.seq (Code.seq (Code.region 1 (reg Try.f61 1) false) (Code.cond (Operand.tmp 11) (Code.seq (Code.region 2 (reg Try.f61 2) false) Code.ret) Code.skip)) (Code.seq (Code.region 3 (reg Try.f61 3) false) (Code.seq (Code.seq (Code.region 4 (reg Try.f61 4) false) (Code.block 0 (Code.loop zn.Zb))) (Code.seq (Code.region 17 (reg Try.f61 17) false) Code.ret)))))
theorem zn.body : Try.f61.body = some zn.code := by kernel_rfl
theorem zn.eta {T : List Value} (h : T.length = 51) : T = [T.getD 0 undef,T.getD 1 undef,T.getD 2 undef,T.getD 3 undef,T.getD 4 undef,T.getD 5 undef,T.getD 6 undef,T.getD 7 undef,T.getD 8 undef,T.getD 9 undef,T.getD 10 undef,T.getD 11 undef,T.getD 12 undef,T.getD 13 undef,T.getD 14 undef,T.getD 15 undef,T.getD 16 undef,T.getD 17 undef,T.getD 18 undef,T.getD 19 undef,T.getD 20 undef,T.getD 21 undef,T.getD 22 undef,T.getD 23 undef,T.getD 24 undef,T.getD 25 undef,T.getD 26 undef,T.getD 27 undef,T.getD 28 undef,T.getD 29 undef,T.getD 30 undef,T.getD 31 undef,T.getD 32 undef,T.getD 33 undef,T.getD 34 undef,T.getD 35 undef,T.getD 36 undef,T.getD 37 undef,T.getD 38 undef,T.getD 39 undef,T.getD 40 undef,T.getD 41 undef,T.getD 42 undef,T.getD 43 undef,T.getD 44 undef,T.getD 45 undef,T.getD 46 undef,T.getD 47 undef,T.getD 48 undef,T.getD 49 undef,T.getD 50 undef] := (qN T 51 h).trans (by kernel_rfl)
variable (U Y x2 x3 W X V Z x8 x9 i j k l m c d a n o p q r s t u v f g b w x y z A B C D E F G H I J K L M N P Q R : Value) (S : zk)
theorem zn.r0  : jE Try.prog ⟨false, false, false⟩ (jf Try.prog O) (reg Try.f61 0) (reg Try.f61 0).toList ([U,Y,x2,x3,W,X,V,Z,x8,x9,i,j,k,l,m,c,d,a,n,o,p,q,r,s,t,u,v,f,g,b,w,x,y,z,A,B,C,D,E,F,G,H,I,J,K,L,M,N,P,Q,R]) S =
  ( some ([U,Y,Value.slice none 0 0,Value.int IntKind.i64 0,W,X,V,Z,x8,x9,i,j,k,l,m,c,d,a,n,o,p,q,r,s,t,u,v,f,g,b,w,x,y,z,A,B,C,D,E,F,G,H,I,J,K,L,M,N,P,Q,R], S)) := by
 kernel_rfl
theorem zn.r1  : jE Try.prog ⟨false, false, false⟩ (jf Try.prog O) (reg Try.f61 1) (reg Try.f61 1).toList ([U,Y,x2,x3,W,X,V,Z,x8,x9,i,j,k,l,m,c,d,a,n,o,p,q,r,s,t,u,v,f,g,b,w,x,y,z,A,B,C,D,E,F,G,H,I,J,K,L,M,N,P,Q,R]) S =
  (zM (Zw Try.prog 26 (dem U) S) (fun v1 S1 => zM (jS Try.prog BinOp.gtr 3 v1 (Value.int IntKind.i64 3) S1) (fun v2 S2 => some ([U,Y,x2,x3,W,X,V,Z,x8,dem U,v1,v2,k,l,m,c,d,a,n,o,p,q,r,s,t,u,v,f,g,b,w,x,y,z,A,B,C,D,E,F,G,H,I,J,K,L,M,N,P,Q,R], S2)) ()) ()) := by
 kernel_rfl
theorem zn.r2  : jE Try.prog ⟨false, false, false⟩ (jf Try.prog O) (reg Try.f61 2) (reg Try.f61 2).toList ([U,Y,x2,x3,W,X,V,Z,x8,x9,i,j,k,l,m,c,d,a,n,o,p,q,r,s,t,u,v,f,g,b,w,x,y,z,A,B,C,D,E,F,G,H,I,J,K,L,M,N,P,Q,R]) S =
  ( some ([U,Y,Value.slice none 0 0,Value.int IntKind.i64 61,W,X,V,Z,x8,x9,i,j,k,l,m,c,d,a,n,o,p,q,r,s,t,u,v,f,g,b,w,x,y,z,A,B,C,D,E,F,G,H,I,J,K,L,M,N,P,Q,R], S)) := by
 kernel_rfl
theorem zn.r3  : jE Try.prog ⟨false, false, false⟩ (jf Try.prog O) (reg Try.f61 3) (reg Try.f61 3).toList ([U,Y,x2,x3,W,X,V,Z,x8,x9,i,j,k,l,m,c,d,a,n,o,p,q,r,s,t,u,v,f,g,b,w,x,y,z,A,B,C,D,E,F,G,H,I,J,K,L,M,N,P,Q,R]) S =
  (zM (Zw Try.prog 26 (dem U) S) (fun v1 S1 => zM (jJ Try.prog 57 1 [(0, v1)] S1) (fun v2 S2 => some ([U,Y,x2,x3,v2,X,V,Z,x8,x9,i,j,dem U,v1,dem v2,c,d,a,n,o,p,q,r,s,t,u,v,f,g,b,w,x,y,z,A,B,C,D,E,F,G,H,I,J,K,L,M,N,P,Q,R], S2)) ()) ()) := by
 kernel_rfl
theorem zn.r4  : jE Try.prog ⟨false, false, false⟩ (jf Try.prog O) (reg Try.f61 4) (reg Try.f61 4).toList ([U,Y,x2,x3,W,X,V,Z,x8,x9,i,j,k,l,m,c,d,a,n,o,p,q,r,s,t,u,v,f,g,b,w,x,y,z,A,B,C,D,E,F,G,H,I,J,K,L,M,N,P,Q,R]) S =
  (zM (Zw Try.prog 26 (dem U) S) (fun v1 S1 => some ([U,Y,x2,x3,W,X,V,Z,x8,x9,i,j,k,l,m,dem U,v1,Value.int IntKind.i64 0,n,o,p,q,r,s,t,u,v,f,g,b,w,x,y,z,A,B,C,D,E,F,G,H,I,J,K,L,M,N,P,Q,R], S1)) ()) := by
 kernel_rfl
theorem zn.r5  : jE Try.prog ⟨false, false, false⟩ (jf Try.prog O) (reg Try.f61 5) (reg Try.f61 5).toList ([U,Y,x2,x3,W,X,V,Z,x8,x9,i,j,k,l,m,c,d,a,n,o,p,q,r,s,t,u,v,f,g,b,w,x,y,z,A,B,C,D,E,F,G,H,I,J,K,L,M,N,P,Q,R]) S =
  (zM (jS Try.prog BinOp.lss 3 a d S) (fun v0 S1 => some ([U,Y,x2,x3,W,X,V,Z,x8,x9,i,j,k,l,m,c,d,a,v0,o,p,q,r,s,t,u,v,f,g,b,w,x,y,z,A,B,C,D,E,F,G,H,I,J,K,L,M,N,P,Q,R], S1)) ()) := by
 kernel_rfl
theorem zn.r6  : jE Try.prog ⟨false, false, false⟩ (jf Try.prog O) (reg Try.f61 6) (reg Try.f61 6).toList ([U,Y,x2,x3,W,X,V,Z,x8,x9,i,j,k,l,m,c,d,a,n,o,p,q,r,s,t,u,v,f,g,b,w,x,y,z,A,B,C,D,E,F,G,H,I,J,K,L,M,N,P,Q,R]) S =
  (zM (jP Try.prog 26 c (dem a) S) (fun v1 S1 => zM (zV Try.prog false 25 v1 S1) (fun v2 S2 => zM (yM Try.prog 25 S2) (fun v3 S3 => zM (yC Try.prog 25 v3 (dem v2) S3) (fun v5 S4 => some ([U,Y,x2,x3,W,a,v3,Z,x8,x9,i,j,k,l,m,c,d,dem a,n,dem a,v1,v2,r,s,t,u,v,f,g,b,w,x,y,z,A,B,C,D,E,F,G,H,I,J,K,L,M,N,P,Q,R], S4)) ()) ()) ()) ()) := by
 kernel_rfl
theorem zn.r7  : jE Try.prog ⟨false, false, false⟩ (jf Try.prog O) (reg Try.f61 7) (reg Try.f61 7).toList ([U,Y,x2,x3,W,X,V,Z,x8,x9,i,j,k,l,m,c,d,a,n,o,p,q,r,s,t,u,v,f,g,b,w,x,y,z,A,B,C,D,E,F,G,H,I,J,K,L,M,N,P,Q,R]) S =
  (zM (zV Try.prog false 25 V S) (fun v0 S1 => zM ((jf Try.prog O) 46 [(dem v0)] S1) (fun v1 S2 => zM (aUn Try.prog UnOp.not v1 S2) (fun v2 S3 => some ([U,Y,x2,x3,W,X,V,Z,x8,x9,i,j,k,l,m,c,d,a,n,o,p,q,v0,v1,v2,u,v,f,g,b,w,x,y,z,A,B,C,D,E,F,G,H,I,J,K,L,M,N,P,Q,R], S3)) ()) ()) ()) := by
 kernel_rfl
theorem zn.r8  : jE Try.prog ⟨false, false, false⟩ (jf Try.prog O) (reg Try.f61 8) (reg Try.f61 8).toList ([U,Y,x2,x3,W,X,V,Z,x8,x9,i,j,k,l,m,c,d,a,n,o,p,q,r,s,t,u,v,f,g,b,w,x,y,z,A,B,C,D,E,F,G,H,I,J,K,L,M,N,P,Q,R]) S =
  ( some ([U,Y,Value.slice none 0 0,Value.int IntKind.i64 61,W,X,V,Z,x8,x9,i,j,k,l,m,c,d,a,n,o,p,q,r,s,t,u,v,f,g,b,w,x,y,z,A,B,C,D,E,F,G,H,I,J,K,L,M,N,P,Q,R], S)) := by
 kernel_rfl
theorem zn.r9  : jE Try.prog ⟨false, false, false⟩ (jf Try.prog O) (reg Try.f61 9) (reg Try.f61 9).toList ([U,Y,x2,x3,W,X,V,Z,x8,x9,i,j,k,l,m,c,d,a,n,o,p,q,r,s,t,u,v,f,g,b,w,x,y,z,A,B,C,D,E,F,G,H,I,J,K,L,M,N,P,Q,R]) S =
  (zM (vT Try.prog false 26 (dem U) none (some (dem X)) S) (fun v2 S1 => zM (Zw Try.prog 26 v2 S1) (fun v3 S2 => some ([U,Y,x2,x3,W,X,V,Z,x8,x9,i,j,k,l,m,c,d,a,n,o,p,q,r,s,t,dem U,dem X,v2,v3,Value.int IntKind.i64 0,w,x,y,z,A,B,C,D,E,F,G,H,I,J,K,L,M,N,P,Q,R], S2)) ()) ()) := by
 kernel_rfl
theorem zn.r10  : jE Try.prog ⟨false, false, false⟩ (jf Try.prog O) (reg Try.f61 10) (reg Try.f61 10).toList ([U,Y,x2,x3,W,X,V,Z,x8,x9,i,j,k,l,m,c,d,a,n,o,p,q,r,s,t,u,v,f,g,b,w,x,y,z,A,B,C,D,E,F,G,H,I,J,K,L,M,N,P,Q,R]) S =
  (zM (jS Try.prog BinOp.lss 3 b g S) (fun v0 S1 => some ([U,Y,x2,x3,W,X,V,Z,x8,x9,i,j,k,l,m,c,d,a,n,o,p,q,r,s,t,u,v,f,g,b,v0,x,y,z,A,B,C,D,E,F,G,H,I,J,K,L,M,N,P,Q,R], S1)) ()) := by
 kernel_rfl
theorem zn.r11  : jE Try.prog ⟨false, false, false⟩ (jf Try.prog O) (reg Try.f61 11) (reg Try.f61 11).toList ([U,Y,x2,x3,W,X,V,Z,x8,x9,i,j,k,l,m,c,d,a,n,o,p,q,r,s,t,u,v,f,g,b,w,x,y,z,A,B,C,D,E,F,G,H,I,J,K,L,M,N,P,Q,R]) S =
  (zM (jP Try.prog 26 f b S) (fun v0 S1 => zM (zV Try.prog false 25 v0 S1) (fun v1 S2 => zM (yM Try.prog 25 S2) (fun v2 S3 => zM (yC Try.prog 25 v2 (dem v1) S3) (fun v3 S4 => some ([U,Y,x2,x3,W,X,V,Z,v2,x9,i,j,k,l,m,c,d,a,n,o,p,q,r,s,t,u,v,f,g,b,w,v0,v1,z,A,B,C,D,E,F,G,H,I,J,K,L,M,N,P,Q,R], S4)) ()) ()) ()) ()) := by
 kernel_rfl
theorem zn.r12  : jE Try.prog ⟨false, false, false⟩ (jf Try.prog O) (reg Try.f61 12) (reg Try.f61 12).toList ([U,Y,x2,x3,W,X,V,Z,x8,x9,i,j,k,l,m,c,d,a,n,o,p,q,r,s,t,u,v,f,g,b,w,x,y,z,A,B,C,D,E,F,G,H,I,J,K,L,M,N,P,Q,R]) S =
  (zM (zo Try.prog 25 x8 0 S) (fun v0 S1 => zM (zV Try.prog false 3 v0 S1) (fun v1 S2 => zM (zo Try.prog 25 V 0 S2) (fun v2 S3 => zM (zV Try.prog false 3 v2 S3) (fun v3 S4 => zM (jS Try.prog BinOp.eql 3 v1 v3 S4) (fun v4 S5 => some ([U,Y,x2,x3,W,X,V,Z,x8,x9,i,j,k,l,m,c,d,a,n,o,p,q,r,s,t,u,v,f,g,b,w,x,y,v0,v1,v2,v3,v4,E,F,G,H,I,J,K,L,M,N,P,Q,R], S5)) ()) ()) ()) ()) ()) := by
 kernel_rfl
theorem zn.r13  : jE Try.prog ⟨false, false, false⟩ (jf Try.prog O) (reg Try.f61 13) (reg Try.f61 13).toList ([U,Y,x2,x3,W,X,V,Z,x8,x9,i,j,k,l,m,c,d,a,n,o,p,q,r,s,t,u,v,f,g,b,w,x,y,z,A,B,C,D,E,F,G,H,I,J,K,L,M,N,P,Q,R]) S =
  ( some ([U,Y,Value.slice none 0 0,Value.int IntKind.i64 61,W,X,V,Z,x8,x9,i,j,k,l,m,c,d,a,n,o,p,q,r,s,t,u,v,f,g,b,w,x,y,z,A,B,C,D,E,F,G,H,I,J,K,L,M,N,P,Q,R], S)) := by
 kernel_rfl
theorem zn.r14  : jE Try.prog ⟨false, false, false⟩ (jf Try.prog O) (reg Try.f61 14) (reg Try.f61 14).toList ([U,Y,x2,x3,W,X,V,Z,x8,x9,i,j,k,l,m,c,d,a,n,o,p,q,r,s,t,u,v,f,g,b,w,x,y,z,A,B,C,D,E,F,G,H,I,J,K,L,M,N,P,Q,R]) S =
  (zM (jS Try.prog BinOp.add 3 b (Value.int IntKind.i64 1) S) (fun v0 S1 => some ([U,Y,x2,x3,W,X,V,Z,x8,x9,i,j,k,l,m,c,d,a,n,o,p,q,r,s,t,u,v,f,g,dem v0,w,x,y,z,A,B,C,D,v0,F,G,H,I,J,K,L,M,N,P,Q,R], S1)) ()) := by
 kernel_rfl
theorem zn.r15  : jE Try.prog ⟨false, false, false⟩ (jf Try.prog O) (reg Try.f61 15) (reg Try.f61 15).toList ([U,Y,x2,x3,W,X,V,Z,x8,x9,i,j,k,l,m,c,d,a,n,o,p,q,r,s,t,u,v,f,g,b,w,x,y,z,A,B,C,D,E,F,G,H,I,J,K,L,M,N,P,Q,R]) S =
  (zM (zo Try.prog 25 V 0 S) (fun v1 S1 => zM (zV Try.prog false 3 v1 S1) (fun v2 S2 => zM (zo Try.prog 25 V 1 S2) (fun v3 S3 => zM (zV Try.prog false 3 v3 S3) (fun v4 S4 => zM (jJ Try.prog 57 2 [(0, v2), (1, v4)] S4) (fun v5 S5 => zM (wU Try.prog 57 57 W v5 S5) (fun v6 S6 => some ([U,Y,x2,x3,v6,X,V,Z,x8,x9,i,j,k,l,m,c,d,a,n,o,p,q,r,s,t,u,v,f,g,b,w,x,y,z,A,B,C,D,E,dem W,v1,v2,v3,v4,v5,dem v6,M,N,P,Q,R], S6)) ()) ()) ()) ()) ()) ()) := by
 kernel_rfl
theorem zn.r16  : jE Try.prog ⟨false, false, false⟩ (jf Try.prog O) (reg Try.f61 16) (reg Try.f61 16).toList ([U,Y,x2,x3,W,X,V,Z,x8,x9,i,j,k,l,m,c,d,a,n,o,p,q,r,s,t,u,v,f,g,b,w,x,y,z,A,B,C,D,E,F,G,H,I,J,K,L,M,N,P,Q,R]) S =
  (zM (jS Try.prog BinOp.add 3 a (Value.int IntKind.i64 1) S) (fun v0 S1 => some ([U,Y,x2,x3,W,X,V,Z,x8,x9,i,j,k,l,m,c,d,dem v0,n,o,p,q,r,s,t,u,v,f,g,b,w,x,y,z,A,B,C,D,E,F,G,H,I,J,K,L,v0,N,P,Q,R], S1)) ()) := by
 kernel_rfl
theorem zn.r17  : jE Try.prog ⟨false, false, false⟩ (jf Try.prog O) (reg Try.f61 17) (reg Try.f61 17).toList ([U,Y,x2,x3,W,X,V,Z,x8,x9,i,j,k,l,m,c,d,a,n,o,p,q,r,s,t,u,v,f,g,b,w,x,y,z,A,B,C,D,E,F,G,H,I,J,K,L,M,N,P,Q,R]) S =
  (zM ((jf Try.prog O) 42 [(dem (dem W))] S) (fun v1 S1 => zM (zY v1 0 S1) (fun v2 S2 => zM (zY (jk 0 v1) 1 S2) (fun v3 S3 => some ([U,Y,v2,v3,W,X,V,Z,x8,x9,i,j,k,l,m,c,d,a,n,o,p,q,r,s,t,u,v,f,g,b,w,x,y,z,A,B,C,D,E,F,G,H,I,J,K,L,M,dem W,jk 1 (jk 0 v1),dem v2,dem v3], S3)) ()) ()) ()) := by
 kernel_rfl
theorem zn.rs : type_of% (And.intro @zn.r0 (And.intro @zn.r1 (And.intro @zn.r2 (And.intro @zn.r3 (And.intro @zn.r4 (And.intro @zn.r5 (And.intro @zn.r6 (And.intro @zn.r7 (And.intro @zn.r8 (And.intro @zn.r9 (And.intro @zn.r10 (And.intro @zn.r11 (And.intro @zn.r12 (And.intro @zn.r13 (And.intro @zn.r14 (And.intro @zn.r15 (And.intro @zn.r16 (@zn.r17)))))))))))))))))) := And.intro @zn.r0 (And.intro @zn.r1 (And.intro @zn.r2 (And.intro @zn.r3 (And.intro @zn.r4 (And.intro @zn.r5 (And.intro @zn.r6 (And.intro @zn.r7 (And.intro @zn.r8 (And.intro @zn.r9 (And.intro @zn.r10 (And.intro @zn.r11 (And.intro @zn.r12 (And.intro @zn.r13 (And.intro @zn.r14 (And.intro @zn.r15 (And.intro @zn.r16 (@zn.r17)))))))))))))))))
theorem zn.runs {U : Value} {S S1 : zk} {e : AEx} {T : List Value} (h : zG Try.prog O false zn.code ([U,undef,undef,undef,undef,undef,undef,undef,undef,undef,undef,undef,undef,undef,undef,undef,undef,undef,undef,undef,undef,undef,undef,undef,undef,undef,undef,undef,undef,undef,undef,undef,undef,undef,undef,undef,undef,undef,undef,undef,undef,undef,undef,undef,undef,undef,undef,undef,undef,undef,undef]) zk.empty = some (e, T, S1)) (he : e = .normal ∨ e = .ret)  (h0 : wI (T.getD 2 undef) = true) (h1 : wI (T.getD 3 undef) = true) (hca : [U].all (jB 16) = true) (hcv : jB 16 (Value.tuple #[T.getD 2 undef, T.getD 3 undef]) = true) : jf Try.prog O 61 [U] S = some (Value.tuple #[T.getD 2 undef, T.getD 3 undef], S) :=
 yc rfl rfl Try.func61 (by decide) zn.body (by exact h) he ((qM ((show zO Try.prog T S1 Try.f61.results.toList = zO Try.prog T S1 [(ResultVar.tmp 2), (ResultVar.tmp 3)] from by kernel_rfl).trans (by simp only [zO])) (by kernel_rfl) (by simp only [List.all_cons, List.all_nil, h0, h1, Bool.and_true])).trans rfl) hca hcv
end Go.Proofs.Ytbgcphbbchndkaa
namespace Go.Proofs.Ytbgcphbbchndkaa
open Go.Abs
abbrev wK.id : FuncId := 33
noncomputable def wK.code : Code := (Code.seq (Code.region 0 (reg Try.f33 0) false) (Code.seq (Code.seq (Code.region 1 (reg Try.f33 1) false) (Code.cond (Operand.tmp 8) (Code.seq (Code.region 2 (reg Try.f33 2) false) Code.ret) Code.skip)) (Code.seq (Code.region 3 (reg Try.f33 3) false) (Code.seq (Code.region 4 (reg Try.f33 4) false) Code.ret))))
theorem wK.body : Try.f33.body = some wK.code := by kernel_rfl
variable (a m u v n o p q r s b c d f g i j k l : Value) (S : zk)
theorem wK.r0  : jE Try.prog ⟨false, false, false⟩ (jf Try.prog O) (reg Try.f33 0) (reg Try.f33 0).toList ([a,m,u,v,n,o,p,q,r,s,b,c,d,f,g,i,j,k,l]) S =
  (zM (vV (dem a) S) (fun w t => some ([a,w,Value.slice none 0 0,Value.int IntKind.i64 0,n,o,p,q,r,s,b,c,d,f,g,i,j,k,l], t)) ()) := by
 kernel_rfl
theorem wK.r1  : jE Try.prog ⟨false, false, false⟩ (jf Try.prog O) (reg Try.f33 1) (reg Try.f33 1).toList ([a,m,u,v,n,o,p,q,r,s,b,c,d,f,g,i,j,k,l]) S =
  (zM (zV Try.prog false 25 m S) (fun w t => zM ((jf Try.prog O) 38 [(dem w)] t) (fun x A => zM (aUn Try.prog UnOp.not x A) (fun y B => some ([a,m,u,v,n,o,w,x,y,s,b,c,d,f,g,i,j,k,l], B)) ()) ()) ()) := by
 kernel_rfl
theorem wK.r2  : jE Try.prog ⟨false, false, false⟩ (jf Try.prog O) (reg Try.f33 2) (reg Try.f33 2).toList ([a,m,u,v,n,o,p,q,r,s,b,c,d,f,g,i,j,k,l]) S =
  ( some ([a,m,Value.slice none 0 0,Value.int IntKind.i64 61,n,o,p,q,r,s,b,c,d,f,g,i,j,k,l], S)) := by
 kernel_rfl
theorem wK.r3  : jE Try.prog ⟨false, false, false⟩ (jf Try.prog O) (reg Try.f33 3) (reg Try.f33 3).toList ([a,m,u,v,n,o,p,q,r,s,b,c,d,f,g,i,j,k,l]) S =
  (zM (zo Try.prog 25 m 0 S) (fun w t => zM (zV Try.prog false 3 w t) (fun x A => zM (zo Try.prog 25 m 1 A) (fun y B => zM (zV Try.prog false 3 y B) (fun C G => zM (jJ Try.prog 57 2 [(0, x), (1, C)] G) (fun D H => zM ((jf Try.prog O) 32 [(dem D)] H) (fun z I => zM (zY z 0 I) (fun E J => zM (zY (jk 0 z) 1 J) (fun F K => some ([a,m,u,v,E,F,p,q,r,jk 1 (jk 0 z),w,x,y,C,D,dem z,dem E,dem F,l], K)) ()) ()) ()) ()) ()) ()) ()) ()) := by
 kernel_rfl
theorem wK.r4  : jE Try.prog ⟨false, false, false⟩ (jf Try.prog O) (reg Try.f33 4) (reg Try.f33 4).toList ([a,m,u,v,n,o,p,q,r,s,b,c,d,f,g,i,j,k,l]) S =
  ( some ([a,m,n,Value.int IntKind.i64 0,dem n,o,p,q,r,s,b,c,d,f,g,i,j,k,dem n], S)) := by
 kernel_rfl
theorem wK.rs : type_of% (And.intro @wK.r0 (And.intro @wK.r1 (And.intro @wK.r2 (And.intro @wK.r3 (@wK.r4))))) := And.intro @wK.r0 (And.intro @wK.r1 (And.intro @wK.r2 (And.intro @wK.r3 (@wK.r4))))
theorem wK.runs {a : Value} {S t : zk} {e : AEx} {T : List Value} (h : zG Try.prog O false wK.code ([a,undef,undef,undef,undef,undef,undef,undef,undef,undef,undef,undef,undef,undef,undef,undef,undef,undef,undef]) zk.empty = some (e, T, t)) (he : e = .normal ∨ e = .ret)  (h0 : wI (T.getD 2 undef) = true) (h1 : wI (T.getD 3 undef) = true) (hca : [a].all (jB 16) = true) (hcv : jB 16 (Value.tuple #[T.getD 2 undef, T.getD 3 undef]) = true) : jf Try.prog O 33 [a] S = some (Value.tuple #[T.getD 2 undef, T.getD 3 undef], S) :=
 yc rfl rfl Try.func33 (by decide) wK.body (by exact h) he ((qM ((show zO Try.prog T t Try.f33.results.toList = zO Try.prog T t [(ResultVar.tmp 2), (ResultVar.tmp 3)] from by kernel_rfl).trans (by simp only [zO])) (by kernel_rfl) (by simp only [List.all_cons, List.all_nil, h0, h1, Bool.and_true])).trans rfl) hca hcv
end Go.Proofs.Ytbgcphbbchndkaa
namespace Go.Proofs.Ytbgcphbbchndkaa
open Go.Abs
abbrev jd.id : FuncId := 43
noncomputable def jd.code : Code := (Code.seq (Code.region 0 (reg Try.f43 0) false) (Code.seq (Code.seq (Code.region 1 (reg Try.f43 1) false) (Code.cond (Operand.tmp 6) (Code.seq (Code.region 2 (reg Try.f43 2) false) Code.ret) Code.skip)) (Code.seq (Code.region 3 (reg Try.f43 3) false) Code.ret)))
theorem jd.body : Try.f43.body = some jd.code := by kernel_rfl
variable (a i r s k l m n o p b c d f g : Value) (S : zk)
theorem jd.r0  : jE Try.prog ⟨false, false, false⟩ (jf Try.prog O) (reg Try.f43 0) (reg Try.f43 0).toList ([a,i,r,s,k,l,m,n,o,p,b,c,d,f,g]) S =
  (zM (vV (dem a) S) (fun q j => some ([a,q,Value.slice none 0 0,Value.int IntKind.i64 0,k,l,m,n,o,p,b,c,d,f,g], j)) ()) := by
 kernel_rfl
theorem jd.r1  : jE Try.prog ⟨false, false, false⟩ (jf Try.prog O) (reg Try.f43 1) (reg Try.f43 1).toList ([a,i,r,s,k,l,m,n,o,p,b,c,d,f,g]) S =
  (zM (zV Try.prog false 25 i S) (fun q j => zM ((jf Try.prog O) 46 [(dem q)] j) (fun t v => zM (aUn Try.prog UnOp.not t v) (fun u w => some ([a,i,r,s,q,t,u,n,o,p,b,c,d,f,g], w)) ()) ()) ()) := by
 kernel_rfl
theorem jd.r2  : jE Try.prog ⟨false, false, false⟩ (jf Try.prog O) (reg Try.f43 2) (reg Try.f43 2).toList ([a,i,r,s,k,l,m,n,o,p,b,c,d,f,g]) S =
  ( some ([a,i,Value.slice none 0 0,Value.int IntKind.i64 61,k,l,m,n,o,p,b,c,d,f,g], S)) := by
 kernel_rfl
theorem jd.r3  : jE Try.prog ⟨false, false, false⟩ (jf Try.prog O) (reg Try.f43 3) (reg Try.f43 3).toList ([a,i,r,s,k,l,m,n,o,p,b,c,d,f,g]) S =
  (zM (zo Try.prog 25 i 0 S) (fun q j => zM (zV Try.prog false 3 q j) (fun t v => zM (zo Try.prog 25 i 1 v) (fun u w => zM (zV Try.prog false 3 u w) (fun y C => zM (jJ Try.prog 57 2 [(0, t), (1, y)] C) (fun z D => zM ((jf Try.prog O) 42 [(dem z)] D) (fun x E => zM (zY x 0 E) (fun A F => zM (zY (jk 0 x) 1 F) (fun B G => some ([a,i,A,B,k,l,m,q,t,u,y,z,jk 1 (jk 0 x),dem A,dem B], G)) ()) ()) ()) ()) ()) ()) ()) ()) := by
 kernel_rfl
theorem jd.rs : type_of% (And.intro @jd.r0 (And.intro @jd.r1 (And.intro @jd.r2 (@jd.r3)))) := And.intro @jd.r0 (And.intro @jd.r1 (And.intro @jd.r2 (@jd.r3)))
theorem jd.runs {a : Value} {S j : zk} {e : AEx} {T : List Value} (h : zG Try.prog O false jd.code ([a,undef,undef,undef,undef,undef,undef,undef,undef,undef,undef,undef,undef,undef,undef]) zk.empty = some (e, T, j)) (he : e = .normal ∨ e = .ret)  (h0 : wI (T.getD 2 undef) = true) (h1 : wI (T.getD 3 undef) = true) (hca : [a].all (jB 16) = true) (hcv : jB 16 (Value.tuple #[T.getD 2 undef, T.getD 3 undef]) = true) : jf Try.prog O 43 [a] S = some (Value.tuple #[T.getD 2 undef, T.getD 3 undef], S) :=
 yc rfl rfl Try.func43 (by decide) jd.body (by exact h) he ((qM ((show zO Try.prog T j Try.f43.results.toList = zO Try.prog T j [(ResultVar.tmp 2), (ResultVar.tmp 3)] from by kernel_rfl).trans (by simp only [zO])) (by kernel_rfl) (by simp only [List.all_cons, List.all_nil, h0, h1, Bool.and_true])).trans rfl) hca hcv
end Go.Proofs.Ytbgcphbbchndkaa
namespace Go.Proofs.Ytbgcphbbchndkaa
open Go.Abs
abbrev yw.id : FuncId := 38
noncomputable def yw.code : Code := (Code.seq (Code.region 0 (reg Try.f38 0) false) (Code.seq (Code.region 1 (reg Try.f38 1) false) Code.ret))
theorem yw.body : Try.f38.body = some yw.code := by kernel_rfl
variable (c i Y J K L M N P Q l m n o p q r s t u w : Value) (S : zk)
theorem yw.r0  : jE Try.prog ⟨false, false, false⟩ (jf Try.prog O) (reg Try.f38 0) (reg Try.f38 0).toList ([c,i,Y,J,K,L,M,N,P,Q,l,m,n,o,p,q,r,s,t,u,w]) S =
  (zM (vV (dem c) S) (fun x d => some ([c,x,Value.bool false,J,K,L,M,N,P,Q,l,m,n,o,p,q,r,s,t,u,w], d)) ()) := by
 kernel_rfl
theorem yw.r1  : jE Try.prog ⟨false, false, false⟩ (jf Try.prog O) (reg Try.f38 1) (reg Try.f38 1).toList ([c,i,Y,J,K,L,M,N,P,Q,l,m,n,o,p,q,r,s,t,u,w]) S =
  (zM (zo Try.prog 25 i 0 S) (fun x d => zM (zV Try.prog false 3 x d) (fun R Z => zM (jS Try.prog BinOp.geq 3 R (Value.int IntKind.i64 1) Z) (fun f S3 => gdK (dem f) true (zo Try.prog 25 i 0) S3 (fun U S4 => gdK (dem f) true (zV Try.prog false 3 U) S4 (fun V S5 => gdK (dem f) true (jS Try.prog BinOp.leq 3 V (Value.int IntKind.i64 1000000)) S5 (fun W S6 => zM (wH (dem f) W (Value.bool false) S6) (fun g S7 => gdK (dem g) true (zo Try.prog 25 i 1) S7 (fun X S8 => gdK (dem g) true (zV Try.prog false 3 X) S8 (fun y S9 => gdK (dem g) true (jS Try.prog BinOp.geq 3 y (Value.int IntKind.i64 0)) S9 (fun z D => zM (wH (dem g) z (Value.bool false) D) (fun b E => gdK (dem b) true (zo Try.prog 25 i 1) E (fun A F => gdK (dem b) true (zV Try.prog false 3 A) F (fun B G => gdK (dem b) true (jS Try.prog BinOp.leq 3 B (Value.int IntKind.i64 1000)) G (fun C H => zM (wH (dem b) C (Value.bool false) H) (fun k I => some ([c,i,k,x,R,f,dem f,U,V,W,g,dem g,X,y,z,b,dem b,A,B,C,dem k], I)) ()) ()) ()) ()) ()) ()) ()) ()) ()) ()) ()) ()) ()) ()) ()) := by
 refine sD Try.f38 1 0 (fun x d => ?_)
 refine sD Try.f38 1 1 (fun R Z => ?_)
 refine sD Try.f38 1 2 (fun f S3 => ?_)
 refine sP Try.f38 1 3 (v := f) ?_
 refine sG Try.f38 1 4 (j := 3) (fun U S4 => ?_)
 refine sG Try.f38 1 5 (j := 3) (fun V S5 => ?_)
 refine sG Try.f38 1 6 (j := 3) (fun W S6 => ?_)
 refine sD Try.f38 1 7 (fun g S7 => ?_)
 refine sP Try.f38 1 8 (v := g) ?_
 refine sG Try.f38 1 9 (j := 8) (fun X S8 => ?_)
 refine sG Try.f38 1 10 (j := 8) (fun y S9 => ?_)
 refine sG Try.f38 1 11 (j := 8) (fun z D => ?_)
 refine sD Try.f38 1 12 (fun b E => ?_)
 refine sP Try.f38 1 13 (v := b) ?_
 refine sG Try.f38 1 14 (j := 13) (fun A F => ?_)
 refine sG Try.f38 1 15 (j := 13) (fun B G => ?_)
 refine sG Try.f38 1 16 (j := 13) (fun C H => ?_)
 refine sD Try.f38 1 17 (fun k I => ?_)
 refine sP Try.f38 1 18 (v := k) ?_
 kernel_rfl
theorem yw.rs : type_of% (And.intro @yw.r0 (@yw.r1)) := And.intro @yw.r0 (@yw.r1)
theorem yw.runs {c : Value} {S d : zk} {e : AEx} {T : List Value} (h : zG Try.prog O false yw.code ([c,undef,undef,undef,undef,undef,undef,undef,undef,undef,undef,undef,undef,undef,undef,undef,undef,undef,undef,undef,undef]) zk.empty = some (e, T, d)) (he : e = .normal ∨ e = .ret) (hca : [c].all (jB 16) = true) (hcv : jB 16 (T.getD 2 undef) = true) : jf Try.prog O 38 [c] S = some (T.getD 2 undef, S) :=
 yc rfl rfl Try.func38 (by decide) yw.body (by exact h) he (yg (a := T.getD 2 undef) ((show zO Try.prog T d Try.f38.results.toList = zO Try.prog T d [(ResultVar.tmp 2)] from by kernel_rfl).trans (by simp only [zO])) (by kernel_rfl)) hca hcv
end Go.Proofs.Ytbgcphbbchndkaa
namespace Go.Proofs.Ytbgcphbbchndkaa
open Go.Abs
abbrev zX.id : FuncId := 46
noncomputable def zX.code : Code := (Code.seq (Code.region 0 (reg Try.f46 0) false) (Code.seq (Code.region 1 (reg Try.f46 1) false) Code.ret))
theorem zX.body : Try.f46.body = some zX.code := by kernel_rfl
variable (c i Y J K L M N P Q l m n o p q r s t u w : Value) (S : zk)
theorem zX.r0  : jE Try.prog ⟨false, false, false⟩ (jf Try.prog O) (reg Try.f46 0) (reg Try.f46 0).toList ([c,i,Y,J,K,L,M,N,P,Q,l,m,n,o,p,q,r,s,t,u,w]) S =
  (zM (vV (dem c) S) (fun x d => some ([c,x,Value.bool false,J,K,L,M,N,P,Q,l,m,n,o,p,q,r,s,t,u,w], d)) ()) := by
 kernel_rfl
theorem zX.r1  : jE Try.prog ⟨false, false, false⟩ (jf Try.prog O) (reg Try.f46 1) (reg Try.f46 1).toList ([c,i,Y,J,K,L,M,N,P,Q,l,m,n,o,p,q,r,s,t,u,w]) S =
  (zM (zo Try.prog 25 i 0 S) (fun x d => zM (zV Try.prog false 3 x d) (fun R Z => zM (jS Try.prog BinOp.gtr 3 R (Value.int IntKind.i64 0) Z) (fun f S3 => gdK (dem f) true (zo Try.prog 25 i 0) S3 (fun U S4 => gdK (dem f) true (zV Try.prog false 3 U) S4 (fun V S5 => gdK (dem f) true (jS Try.prog BinOp.leq 3 V (Value.int IntKind.i64 1000000)) S5 (fun W S6 => zM (wH (dem f) W (Value.bool false) S6) (fun g S7 => gdK (dem g) true (zo Try.prog 25 i 1) S7 (fun X S8 => gdK (dem g) true (zV Try.prog false 3 X) S8 (fun y S9 => gdK (dem g) true (jS Try.prog BinOp.geq 3 y (Value.int IntKind.i64 0)) S9 (fun z D => zM (wH (dem g) z (Value.bool false) D) (fun b E => gdK (dem b) true (zo Try.prog 25 i 1) E (fun A F => gdK (dem b) true (zV Try.prog false 3 A) F (fun B G => gdK (dem b) true (jS Try.prog BinOp.leq 3 B (Value.int IntKind.i64 1000)) G (fun C H => zM (wH (dem b) C (Value.bool false) H) (fun k I => some ([c,i,k,x,R,f,dem f,U,V,W,g,dem g,X,y,z,b,dem b,A,B,C,dem k], I)) ()) ()) ()) ()) ()) ()) ()) ()) ()) ()) ()) ()) ()) ()) ()) := by
 refine sD Try.f46 1 0 (fun x d => ?_)
 refine sD Try.f46 1 1 (fun R Z => ?_)
 refine sD Try.f46 1 2 (fun f S3 => ?_)
 refine sP Try.f46 1 3 (v := f) ?_
 refine sG Try.f46 1 4 (j := 3) (fun U S4 => ?_)
 refine sG Try.f46 1 5 (j := 3) (fun V S5 => ?_)
 refine sG Try.f46 1 6 (j := 3) (fun W S6 => ?_)
 refine sD Try.f46 1 7 (fun g S7 => ?_)
 refine sP Try.f46 1 8 (v := g) ?_
 refine sG Try.f46 1 9 (j := 8) (fun X S8 => ?_)
 refine sG Try.f46 1 10 (j := 8) (fun y S9 => ?_)
 refine sG Try.f46 1 11 (j := 8) (fun z D => ?_)
 refine sD Try.f46 1 12 (fun b E => ?_)
 refine sP Try.f46 1 13 (v := b) ?_
 refine sG Try.f46 1 14 (j := 13) (fun A F => ?_)
 refine sG Try.f46 1 15 (j := 13) (fun B G => ?_)
 refine sG Try.f46 1 16 (j := 13) (fun C H => ?_)
 refine sD Try.f46 1 17 (fun k I => ?_)
 refine sP Try.f46 1 18 (v := k) ?_
 kernel_rfl
theorem zX.rs : type_of% (And.intro @zX.r0 (@zX.r1)) := And.intro @zX.r0 (@zX.r1)
theorem zX.runs {c : Value} {S d : zk} {e : AEx} {T : List Value} (h : zG Try.prog O false zX.code ([c,undef,undef,undef,undef,undef,undef,undef,undef,undef,undef,undef,undef,undef,undef,undef,undef,undef,undef,undef,undef]) zk.empty = some (e, T, d)) (he : e = .normal ∨ e = .ret) (hca : [c].all (jB 16) = true) (hcv : jB 16 (T.getD 2 undef) = true) : jf Try.prog O 46 [c] S = some (T.getD 2 undef, S) :=
 yc rfl rfl Try.func46 (by decide) zX.body (by exact h) he (yg (a := T.getD 2 undef) ((show zO Try.prog T d Try.f46.results.toList = zO Try.prog T d [(ResultVar.tmp 2)] from by kernel_rfl).trans (by simp only [zO])) (by kernel_rfl)) hca hcv
end Go.Proofs.Ytbgcphbbchndkaa
namespace Go.Proofs.Ytbgcphbbchndkaa
open Go.Abs
theorem ahb {t : TypeId} {a b : List UInt8} {S : zk} : Ze Try.prog .eql t (.string ⟨a.toArray⟩) (.string ⟨b.toArray⟩) S = some (.bool (decide (a = b)), S) := by rw [aa2]
theorem ag8 {a b : Bool} {S : zk} : Ze Try.prog .eql 4 (.bool a) (.bool b) S = some (.bool (a == b), S) := by cases a <;> cases b <;> kernel_rfl
end Go.Proofs.Ytbgcphbbchndkaa
namespace Go.Proofs.Ytbgcphbbchndkaa
open Go.Abs
structure TxV where
 id : Int
 fee : Int
 deriving DecidableEq
def fT (t : TxV) : List Value := [.int .i64 t.id, .int .i64 t.fee]
abbrev tv (t : TxV) : Value := .agg [Value.int .i64 t.id, .int .i64 t.fee].toArray
structure TxV.Ok (t : TxV) : Prop where
 id : -9223372036854775808 ≤ t.id ∧ t.id < 9223372036854775808
 fee : -9223372036854775808 ≤ t.fee ∧ t.fee < 9223372036854775808
abbrev tTx : Ty := .pair (.int .i64) (.pair (.int .i64) .unit)
def qG (t : TxV) : Bool := decide (1 ≤ t.id) && decide (t.id ≤ 1000000) && decide (0 ≤ t.fee) && decide (t.fee ≤ 1000)
theorem ZW {t : TxV} : qG t = true ↔ 1 ≤ t.id ∧ t.id ≤ 1000000 ∧ 0 ≤ t.fee ∧ t.fee ≤ 1000 := by
 simp [qG, and_assoc]
abbrev mem1 (t : TxV) : zk := zk.empty.push (.cells [Value.int .i64 t.id, .int .i64 t.fee] (.own []) 0)
theorem box1 (t : TxV) : vV (tv t) zk.empty = some (.pointer (some ⟨0, 0, none⟩), mem1 t) := rfl
theorem kW (t : TxV) : (mem1 t).get 0 = some (.cells [Value.int .i64 t.id, .int .i64 t.fee] (.own []) 0) := rfl
theorem yw.v (t : TxV) (S : zk) : jf Try.prog O yw.id [tv t] S = some (.bool (qG t), S) := by
 obtain ⟨T, hTe⟩ : ∃ T, T = (tv t :: undef :: undef :: undef :: undef :: undef :: undef :: undef :: undef :: undef :: undef :: undef :: undef :: undef :: undef :: undef :: undef :: undef :: undef :: undef :: undef :: []) := ⟨_, rfl⟩
 have hr : zG Try.prog O false yw.code T zk.empty = zG Try.prog O false yw.code T zk.empty := rfl
 have l0 := yO (t := 3) (o := 0 + 0) (kW t) vO rfl
 have l1 := yO (t := 3) (o := 0 + 1) (kW t) vO rfl
 by_cases h1 : 1 ≤ t.id <;> by_cases h2 : t.id ≤ 1000000 <;> by_cases h3 : 0 ≤ t.fee <;> by_cases h4 : t.fee ≤ 1000
 all_goals
  conv at hr =>
   rhs
   rw [hTe]
   simp only [yw.code, yw.rs, zSs, reduceIte, Nat.reduceEqDiff, Int.reduceEq, Int.reduceLT, Int.reduceLE, box1, qm, xM, l0, l1, h1, h2, h3, h4]
  rw [hTe] at hr
  simp only [qG, h1, h2, h3, h4, decide_true, decide_false, Bool.and_true, Bool.and_false, Bool.false_and]
  exact yw.runs hr (.inr rfl) rfl rfl
theorem zX.v (t : TxV) (S : zk) : jf Try.prog O zX.id [tv t] S = some (.bool (qG t), S) := by
 obtain ⟨T, hTe⟩ : ∃ T, T = (tv t :: undef :: undef :: undef :: undef :: undef :: undef :: undef :: undef :: undef :: undef :: undef :: undef :: undef :: undef :: undef :: undef :: undef :: undef :: undef :: undef :: []) := ⟨_, rfl⟩
 have hr : zG Try.prog O false zX.code T zk.empty = zG Try.prog O false zX.code T zk.empty := rfl
 have l0 := yO (t := 3) (o := 0 + 0) (kW t) vO rfl
 have l1 := yO (t := 3) (o := 0 + 1) (kW t) vO rfl
 have h0 : decide (1 ≤ t.id) = decide (0 < t.id) := decide_eq_decide.mpr (by omega)
 unfold qG
 rw [h0]
 by_cases h1 : 0 < t.id <;> by_cases h2 : t.id ≤ 1000000 <;> by_cases h3 : 0 ≤ t.fee <;> by_cases h4 : t.fee ≤ 1000
 all_goals
  conv at hr =>
   rhs
   rw [hTe]
   simp only [zX.code, zX.rs, zSs, reduceIte, Nat.reduceEqDiff, Int.reduceEq, Int.reduceLT, Int.reduceLE, box1, qm, xM, l0, l1, h1, h2, h3, h4]
  rw [hTe] at hr
  simp only [h1, h2, h3, h4, decide_true, decide_false, Bool.and_true, Bool.and_false, Bool.false_and]
  exact zX.runs hr (.inr rfl) rfl rfl
theorem ahA (x : tTx.Val) (hg : tTx.Good x) : ∃ t : TxV, tTx.J3 x = fT t ∧ t.Ok := by
 obtain ⟨a, b, u⟩ := x
 obtain ⟨h1, h2, _⟩ := hg
 exact ⟨⟨a, b⟩, rfl, JF h1, JF h2⟩
end Go.Proofs.Ytbgcphbbchndkaa
namespace Go.Proofs.Ytbgcphbbchndkaa
open Go.Abs
def txB (t : TxV) : List UInt8 := encs [t.id, t.fee]
def afd (t : TxV) : Value := if qG t then .tuple #[by_ 2 (txB t), .int .i64 0] else .tuple #[.slice none 0 0, .int .i64 61]
theorem QF {t : TxV} (h : qG t = true) : (txB t).length ≤ 20 := by
 obtain ⟨h1, h2, h3, h4⟩ := ZW.mp h
 have := vG (l := [t.id, t.fee]) (by intro n hn; simp at hn; rcases hn with rfl | rfl <;> omega)
 exact this
theorem VK (x y : Int) : sv 2 1 2 [.int .i64 x, .int .i64 y] = iz 2 [x, y] := rfl
theorem wK.v (t : TxV) (S : zk) : jf Try.prog O wK.id [tv t] S = some (afd t, S) := by
 obtain ⟨T, hTe⟩ : ∃ T, T = (tv t :: undef :: undef :: undef :: undef :: undef :: undef :: undef :: undef :: undef :: undef :: undef :: undef :: undef :: undef :: undef :: undef :: undef :: undef :: []) := ⟨_, rfl⟩
 have hr : zG Try.prog O false wK.code T zk.empty = zG Try.prog O false wK.code T zk.empty := rfl
 have l0 := yO (t := 3) (o := 0 + 0) (kW t) vO rfl
 have l1 := yO (t := 3) (o := 0 + 1) (kW t) vO rfl
 have lt := YC (kW t)
 unfold afd
 by_cases h : qG t = true
 ·
  have hh := ZW.mp h
  have c1 := fun S => zZ.v (l := [t.id, t.fee]) Okl.read (by decide) (by simp; omega) S
  conv at hr =>
   rhs
   rw [hTe]
   simp only [wK.code, wK.rs, zSs, reduceIte, Nat.reduceEqDiff, Int.reduceEq, Int.reduceLT, Int.reduceLE, box1, lt, kQ, yw.v, h, qm, xM, l0, l1, Wn, VK, c1, vg (l := [t.id, t.fee]) (by simp) (by simp; omega) (by simp)]
  rw [hTe] at hr
  rw [if_pos h]
  exact wK.runs hr (.inr rfl) (by simp only [List.getD_cons_succ, List.getD_cons_zero, wP, wE, jQ, jY, wC]) rfl rfl (qL (all2 (xY (k := 2) (Nat.le_refl 2)) rfl))
 ·
  rw [Bool.not_eq_true] at h
  conv at hr =>
   rhs
   rw [hTe]
   simp only [wK.code, wK.rs, zSs, reduceIte, Nat.reduceEqDiff, Int.reduceEq, Int.reduceLT, Int.reduceLE, box1, lt, kQ, yw.v, h]
  rw [hTe] at hr
  rw [if_neg (by rw [h]; decide)]
  exact wK.runs hr (.inr rfl) rfl rfl rfl rfl
theorem jd.v (t : TxV) (S : zk) : jf Try.prog O jd.id [tv t] S = some (afd t, S) := by
 obtain ⟨T, hTe⟩ : ∃ T, T = (tv t :: undef :: undef :: undef :: undef :: undef :: undef :: undef :: undef :: undef :: undef :: undef :: undef :: undef :: undef :: []) := ⟨_, rfl⟩
 have hr : zG Try.prog O false jd.code T zk.empty = zG Try.prog O false jd.code T zk.empty := rfl
 have l0 := yO (t := 3) (o := 0 + 0) (kW t) vO rfl
 have l1 := yO (t := 3) (o := 0 + 1) (kW t) vO rfl
 have lt := YC (kW t)
 unfold afd
 by_cases h : qG t = true
 ·
  have hh := ZW.mp h
  have c1 := fun S => zu.v (l := [t.id, t.fee]) Okl.read (by decide) (by simp; omega) S
  conv at hr =>
   rhs
   rw [hTe]
   simp only [jd.code, jd.rs, zSs, reduceIte, Nat.reduceEqDiff, Int.reduceEq, Int.reduceLT, Int.reduceLE, box1, lt, kQ, zX.v, h, qm, xM, l0, l1, Wn, VK, c1, vg (l := [t.id, t.fee]) (by simp) (by simp; omega) (by simp)]
  rw [hTe] at hr
  rw [if_pos h]
  exact jd.runs hr (.inr rfl) (by simp only [List.getD_cons_succ, List.getD_cons_zero, wP, wE, jQ, jY, wC]) rfl rfl (qL (all2 (xY (k := 2) (Nat.le_refl 2)) rfl))
 ·
  rw [Bool.not_eq_true] at h
  conv at hr =>
   rhs
   rw [hTe]
   simp only [jd.code, jd.rs, zSs, reduceIte, Nat.reduceEqDiff, Int.reduceEq, Int.reduceLT, Int.reduceLE, box1, lt, kQ, zX.v, h]
  rw [hTe] at hr
  rw [if_neg (by rw [h]; decide)]
  exact jd.runs hr (.inr rfl) rfl rfl rfl rfl
theorem XR (S : zk) : yM Try.prog 25 S = some (.pointer (some ⟨S.next, 0, none⟩), S.push (.cells (fT ⟨0, 0⟩) (.own []) 0)) := by kernel_rfl
theorem aeB (S : zk) (t : TxV) : ∃ S2, yC Try.prog 25 (.pointer (some ⟨S.next, 0, none⟩)) (tv t) (S.push (.cells (fT ⟨0, 0⟩) (.own []) 0)) = some (undef, S2) ∧ S2.get S.next = some (.cells (fT t) (.own []) 0) ∧ Ext S S2 ∧ S.next < S2.next :=
 acG S (by rw [qJ, List.toList_toArray]; rfl) xZ rfl rfl
theorem ad2 {S : zk} {q : Nat} {t : TxV} (h : S.get q = some (.cells (fT t) (.own []) 0)) : zV Try.prog false 25 (.pointer (some ⟨q, 0, none⟩)) S = some (tv t, S) := YC h
theorem YD {S : zk} {q : Nat} {t : TxV} (h : S.get q = some (.cells (fT t) (.own []) 0)) : zV Try.prog false 3 (.pointer (some ⟨q, 0 + 0, none⟩)) S = some (.int .i64 t.id, S) := yO (t := 3) (o := 0 + 0) h vO rfl
theorem agY {S : zk} {q : Nat} {t : TxV} (h : S.get q = some (.cells (fT t) (.own []) 0)) : zV Try.prog false 3 (.pointer (some ⟨q, 0 + 1, none⟩)) S = some (.int .i64 t.fee, S) := yO (t := 3) (o := 0 + 1) h vO rfl
end Go.Proofs.Ytbgcphbbchndkaa
namespace Go.Abs
variable {K : Type}
def MapAt (enc : K → Value) (S : zk) (q : Nat) (m : List (K × Value)) : Prop :=
 ∃ es c, S.get q = some (.map es c) ∧ es.map (fun e => (e.key, e.val)) = m.map fun p => (enc p.1, p.2)
theorem af4 {P : Program} {t : TypeId} (enc : K → Value) (S : zk) : ∃ S2, xG P t none S = some (.map (some S.next), S2) ∧ MapAt enc S2 S.next [] ∧ S2.next = S.next + 1 ∧ (∀ j, j < S.next → S2.get j = S.get j) ∧ Ext S S2 :=
 ⟨_, rfl, ⟨[], 0, by rw [zk.wQ, if_pos rfl], rfl⟩, by simp, fun j hj => by rw [zk.wQ, if_neg (by omega)], Ext.push _ _⟩
theorem MapAt.keep {enc : K → Value} {S : zk} {q : Nat} {m : List (K × Value)} {S2 : zk} (h : MapAt enc S q m) (hg : S2.get q = S.get q) : MapAt enc S2 q m := by
 obtain ⟨es, c, h1, h2⟩ := h
 exact ⟨es, c, hg.trans h1, h2⟩
variable [DecidableEq K]
def aaP : List (K × Value) → K → Option Value
 | [], _ => none
 | (a, v) :: m, k => if a = k then some v else aaP m k
def midx : List (K × Value) → K → Nat
 | [], _ => 0
 | (a, _) :: m, k => if a = k then 0 else midx m k + 1
def agJ : List (K × Value) → K → Value → List (K × Value)
 | [], k, x => [(k, x)]
 | (a, v) :: m, k, x => if a = k then (k, x) :: m else (a, v) :: agJ m k x
theorem VY {m : List (K × Value)} {k : K} {x : Value} (h : aaP m k = none) : agJ m k x = m ++ [(k, x)] := by
 induction m with
 | nil => rfl
 | cons p m ih =>
  obtain ⟨a, v⟩ := p
  unfold aaP at h
  split at h
  ·
   cases h
  ·
   rename_i hn
   simp only [agJ, if_neg hn, ih h, List.cons_append]
structure aez (enc : K → Value) (kd : TypeDesc) : Prop where
 kind : ∀ k, Jp kd (enc k) = true
 same : ∀ a b, Instr.sameNow kd (enc a) (enc b) = some (decide (a = b))
theorem abN : aez (fun n : Int => Value.int .i64 n) (.int .i64) := ⟨fun _ => rfl, fun a b => by
 show (if IntKind.i64 = IntKind.i64 then some (a == b) else none) = _
 rw [if_pos rfl]; by_cases h : a = b <;> simp [h]⟩
theorem WY {enc : K → Value} {kd : TypeDesc} (hK : aez enc kd) (k : K) : ∀ (es : List MapEntry) (m : List (K × Value)) (i : Nat), es.map (fun e => (e.key, e.val)) = m.map (fun p => (enc p.1, p.2)) →
  Instr.findNow kd (enc k) es i = some ((aaP m k).map fun v => (i + midx m k, v)) := by
 intro es
 induction es with
 | nil =>
  intro m i h
  cases m with
  | nil => rfl
  | cons p m => simp at h
 | cons e es ih =>
  intro m i h
  cases m with
  | nil => simp at h
  | cons p m =>
   obtain ⟨a, v⟩ := p
   simp only [List.map_cons, List.cons.injEq, Prod.mk.injEq] at h
   obtain ⟨⟨h1, h2⟩, h3⟩ := h
   simp only [Instr.findNow, h1, hK.same, aaP, midx]
   by_cases hk : k = a
   ·
    simp [hk, h2]
   ·
    rw [decide_eq_false hk, if_neg (fun h => hk h.symm), if_neg (fun h => hk h.symm)]
    simp only []
    rw [ih m (i + 1) h3]
    congr 2
    funext x
    congr 1
    omega
theorem ab1 {enc : K → Value} {k : K} {x : Value} : ∀ (es : List MapEntry) (m : List (K × Value)), es.map (fun e => (e.key, e.val)) = m.map (fun p => (enc p.1, p.2)) → aaP m k ≠ none →
  (es.modify (midx m k) fun e => { e with key := enc k, val := x }).map (fun e => (e.key, e.val)) = (agJ m k x).map fun p => (enc p.1, p.2) := by
 intro es
 induction es with
 | nil =>
  intro m h hn
  cases m with
  | nil => exact absurd rfl hn
  | cons p m => simp at h
 | cons e es ih =>
  intro m h hn
  cases m with
  | nil => simp at h
  | cons p m =>
   obtain ⟨a, v⟩ := p
   simp only [List.map_cons, List.cons.injEq, Prod.mk.injEq] at h
   obtain ⟨⟨h1, h2⟩, h3⟩ := h
   simp only [midx, agJ]
   by_cases hk : a = k
   ·
    simp [hk, h3]
   ·
    rw [if_neg hk, if_neg hk, List.modify_succ_cons]
    have hn' : aaP m k ≠ none := by unfold aaP at hn; rwa [if_neg hk] at hn
    simp only [List.map_cons, ih m h3 hn', h1, h2]
variable {P : Program} {t kt et : TypeId} {kd : TypeDesc} {z : Value} {enc : K → Value} {S S0 : zk} {q : Nat} {m : List (K × Value)}
theorem af0 (hK : aez enc kd) (hm : MapAt enc S q m) (ht : P.underlying t = some (.map kt et)) (hk : P.underlying kt = some kd) (hz : zeroOf P et = some z) (hg : ground z = true) (k : K) :
  vJ P false t (.map (some q)) (enc k) false S = some ((aaP m k).getD z, S) := by
 obtain ⟨es, c, h1, h2⟩ := hm
 unfold vJ yE
 simp only [Bool.false_eq_true, if_false, ht, hk, hK.kind, if_true, h1, WY hK k es m 0 h2]
 cases aaP m k with
 | none => simp [hz, hg]
 | some v => simp
theorem agi (hK : aez enc kd) (hm : MapAt enc S q m) (ht : P.underlying t = some (.map kt et)) (hk : P.underlying kt = some kd) (k : K) (x : Value) :
  ∃ S2, yF P t (.map (some q)) (enc k) x S = some (undef, S2) ∧ MapAt enc S2 q (agJ m k x) ∧ S2.next = S.next ∧ (∀ j, j ≠ q → S2.get j = S.get j) ∧ (∀ S0, Ext S0 S → S0.next ≤ q → Ext S0 S2) := by
 obtain ⟨es, c, h1, h2⟩ := hm
 unfold yF
 simp only [ht, hk, hK.kind, if_true, h1, WY hK k es m 0 h2]
 cases hg : aaP m k with
 | none =>
  refine ⟨_, rfl, ⟨es ++ [{ key := enc k, val := x, born := c }], c + 1, by rw [zk.yj, if_pos rfl], ?_⟩, by simp, fun j hj => by rw [zk.yj, if_neg hj], fun S0 hE hq => hE.set hq _⟩
  rw [VY hg]
  simp [h2]
 | some v =>
  refine ⟨_, rfl, ⟨_, c, by simp only [Option.map_some, Nat.zero_add, zk.yj, if_true], ab1 es m h2 (by rw [hg]; simp)⟩, by simp, fun j hj => by rw [zk.yj, if_neg hj], fun S0 hE hq => hE.set hq _⟩
end Go.Abs
