/-
The law GateNames returns true for every input, and leaves it as it was; no condition. Part 5 of 7 of the texts (put together by a program: own names are short, what isn't needed is left out).
-/
import Derived.Test.YtfjogganfjkckaaZGateNames4
import Derived.Test.YtfjogganfjkckaaChecked
import Derived.KernelRfl
set_option linter.unusedVariables false
set_option linter.unusedSimpArgs false
set_option maxRecDepth 100000
namespace Go.Proofs.Ytfjogganfjkckaa
open Go.Abs
abbrev je.id : FuncId := 42
noncomputable def je.code : Code := (Code.seq (Code.region 0 (reg Try.f42 0) false) (Code.seq (Code.region 1 (reg Try.f42 1) false) (Code.seq (Code.seq (Code.region 2 (reg Try.f42 2) false) (Code.cond (Operand.tmp 14) (Code.seq (Code.region 3 (reg Try.f42 3) false) Code.ret) Code.skip)) (Code.seq (Code.region 4 (reg Try.f42 4) true) (Code.seq (Code.seq (Code.region 5 (reg Try.f42 5) false) (Code.block 0 (Code.seq (Code.region 8 (reg Try.f42 8) false) (Code.cond (Operand.tmp 46) (Code.region 9 (reg Try.f42 9) false) (Code.seq (Code.region 10 (reg Try.f42 10) false) (Code.cond (Operand.tmp 54) (Code.region 11 (reg Try.f42 11) false) (Code.seq (Code.region 6 (reg Try.f42 6) false) (Code.seq (Code.region 7 (reg Try.f42 7) true) Code.ret)))))))) (Code.seq (Code.region 12 (reg Try.f42 12) true) Code.ret))))))
theorem je.body : Try.f42.body = some je.code := by kernel_rfl
variable (x0 x1 a x3 b x5 x6 x7 x8 x9 d f g i k l m n o p q r s t u w x y z A B C D E F G c H I J K L M N P Q R U V W X Y Z a0 a1 a2 a3 a4 a5 a6 a7 a8 a9 b0 b1 b2 b3 b4 b5 : Value) (S : zi)
theorem je.r0  : jv Try.prog ⟨false, false, false⟩ (zQ Try.prog O) (reg Try.f42 0) (reg Try.f42 0).toList ([x0,x1,a,x3,b,x5,x6,x7,x8,x9,d,f,g,i,k,l,m,n,o,p,q,r,s,t,u,w,x,y,z,A,B,C,D,E,F,G,c,H,I,J,K,L,M,N,P,Q,R,U,V,W,X,Y,Z,a0,a1,a2,a3,a4,a5,a6,a7,a8,a9,b0,b1,b2,b3,b4,b5]) S =
  (zF (yJ Try.prog 48 S) (fun v0 S1 => some ([x0,x1,v0,Value.bool false,b,x5,x6,x7,x8,x9,d,f,g,i,k,l,m,n,o,p,q,r,s,t,u,w,x,y,z,A,B,C,D,E,F,G,c,H,I,J,K,L,M,N,P,Q,R,U,V,W,X,Y,Z,a0,a1,a2,a3,a4,a5,a6,a7,a8,a9,b0,b1,b2,b3,b4,b5], S1)) ()) := by
 kernel_rfl
theorem je.r1  : jv Try.prog ⟨false, false, false⟩ (zQ Try.prog O) (reg Try.f42 1) (reg Try.f42 1).toList ([x0,x1,a,x3,b,x5,x6,x7,x8,x9,d,f,g,i,k,l,m,n,o,p,q,r,s,t,u,w,x,y,z,A,B,C,D,E,F,G,c,H,I,J,K,L,M,N,P,Q,R,U,V,W,X,Y,Z,a0,a1,a2,a3,a4,a5,a6,a7,a8,a9,b0,b1,b2,b3,b4,b5]) S =
  (zF ((zQ Try.prog O) 55 [(dem (dem x0)), (Value.int IntKind.i64 6)] S) (fun v1 S1 => zF (zS v1 0 S1) (fun v3 S2 => zF (zS (zV 0 v1) 1 S2) (fun v4 S3 => zF (zS (zV 1 (zV 0 v1)) 2 S3) (fun v5 S4 => some ([x0,x1,a,x3,v3,v4,v5,zV 2 (zV 1 (zV 0 v1)),dem x0,dem v1,dem v3,dem v4,dem v5,i,k,l,m,n,o,p,q,r,s,t,u,w,x,y,z,A,B,C,D,E,F,G,c,H,I,J,K,L,M,N,P,Q,R,U,V,W,X,Y,Z,a0,a1,a2,a3,a4,a5,a6,a7,a8,a9,b0,b1,b2,b3,b4,b5], S4)) ()) ()) ()) ()) := by
 kernel_rfl
theorem je.r2  : jv Try.prog ⟨false, false, false⟩ (zQ Try.prog O) (reg Try.f42 2) (reg Try.f42 2).toList ([x0,x1,a,x3,b,x5,x6,x7,x8,x9,d,f,g,i,k,l,m,n,o,p,q,r,s,t,u,w,x,y,z,A,B,C,D,E,F,G,c,H,I,J,K,L,M,N,P,Q,R,U,V,W,X,Y,Z,a0,a1,a2,a3,a4,a5,a6,a7,a8,a9,b0,b1,b2,b3,b4,b5]) S =
  (zF (jX Try.prog BinOp.neq 64 (dem x6) (Value.int IntKind.i64 0) S) (fun v1 S1 => some ([x0,x1,a,x3,b,x5,x6,x7,x8,x9,d,f,g,dem x6,v1,l,m,n,o,p,q,r,s,t,u,w,x,y,z,A,B,C,D,E,F,G,c,H,I,J,K,L,M,N,P,Q,R,U,V,W,X,Y,Z,a0,a1,a2,a3,a4,a5,a6,a7,a8,a9,b0,b1,b2,b3,b4,b5], S1)) ()) := by
 kernel_rfl
theorem je.r3  : jv Try.prog ⟨false, false, false⟩ (zQ Try.prog O) (reg Try.f42 3) (reg Try.f42 3).toList ([x0,x1,a,x3,b,x5,x6,x7,x8,x9,d,f,g,i,k,l,m,n,o,p,q,r,s,t,u,w,x,y,z,A,B,C,D,E,F,G,c,H,I,J,K,L,M,N,P,Q,R,U,V,W,X,Y,Z,a0,a1,a2,a3,a4,a5,a6,a7,a8,a9,b0,b1,b2,b3,b4,b5]) S =
  (zF (zZ Try.prog false 48 a S) (fun v0 S1 => zF (wU Try.prog 48 a (dem v0) S1) (fun v1 S2 => some ([x0,x1,a,Value.bool false,b,x5,x6,x7,x8,x9,d,f,g,i,k,v0,m,n,o,p,q,r,s,t,u,w,x,y,z,A,B,C,D,E,F,G,c,H,I,J,K,L,M,N,P,Q,R,U,V,W,X,Y,Z,a0,a1,a2,a3,a4,a5,a6,a7,a8,a9,b0,b1,b2,b3,b4,b5], S2)) ()) ()) := by
 kernel_rfl
theorem je.d4 : kD Try.prog (reg Try.f42 4) = true := by kernel_rfl
theorem je.ff4 : fixed Try.prog (reg Try.f42 4) = false := by kernel_rfl
theorem je.k4 : checked Try.prog (reg Try.f42 4) = [] := by kernel_rfl
theorem je.g4 : again Try.prog (reg Try.f42 4) = [] := by kernel_rfl
theorem je.r4  : zA Try.prog O false (.region 4 (reg Try.f42 4) true) ([x0,x1,a,x3,b,x5,x6,x7,x8,x9,d,f,g,i,k,l,m,n,o,p,q,r,s,t,u,w,x,y,z,A,B,C,D,E,F,G,c,H,I,J,K,L,M,N,P,Q,R,U,V,W,X,Y,Z,a0,a1,a2,a3,a4,a5,a6,a7,a8,a9,b0,b1,b2,b3,b4,b5]) S =
  JE (zF (jB Try.prog 24 (dem b) (Value.int IntKind.i64 0) S) (fun v1 S1 => zF (zZ Try.prog false 3 v1 S1) (fun v2 S2 => zF (jB Try.prog 24 (dem b) (Value.int IntKind.i64 1) S2) (fun v4 S3 => zF (zZ Try.prog false 3 v4 S3) (fun v5 S4 => zF (jB Try.prog 24 (dem b) (Value.int IntKind.i64 2) S4) (fun v7 S5 => zF (zZ Try.prog false 3 v7 S5) (fun v8 S6 => zF (jB Try.prog 24 (dem b) (Value.int IntKind.i64 3) S6) (fun b6 S7 => zF (zZ Try.prog false 3 b6 S7) (fun b7 S8 => zF (jB Try.prog 24 (dem b) (Value.int IntKind.i64 4) S8) (fun b8 S9 => zF (zZ Try.prog false 3 b8 S9) (fun b9 c4 => zF (jB Try.prog 24 (dem b) (Value.int IntKind.i64 5) c4) (fun c1 c5 => zF (zZ Try.prog false 3 c1 c5) (fun c2 c6 => zF (yu Try.prog 48 [(0, (dem v2)), (1, (dem v5)), (2, (dem v8)), (3, (dem b7)), (4, (dem b9)), (5, (dem c2))] c6) (fun c3 c7 => zF (wU Try.prog 48 a (dem c3) c7) (fun c9 c8 => some ([x0,x1,a,x3,b,x5,x6,x7,x8,x9,d,f,g,i,k,l,dem b,v1,v2,dem b,v4,v5,dem b,v7,v8,dem b,b6,b7,dem b,b8,b9,dem b,c1,c2,c3,G,c,H,I,J,K,L,M,N,P,Q,R,U,V,W,X,Y,Z,a0,a1,a2,a3,a4,a5,a6,a7,a8,a9,b0,b1,b2,b3,b4,b5], c8)) ()) ()) ()) ()) ()) ()) ()) ()) ()) ()) ()) ()) ()) ()) := by
 rw [yQ je.d4 je.ff4 je.k4 je.g4]
 refine congrArg JE ?_
 refine tP Try.f42 4 0 (v := b) ?_
 refine tD Try.f42 4 1 (fun v1 S1 => ?_)
 refine tD Try.f42 4 2 (fun v2 S2 => ?_)
 refine tP Try.f42 4 3 (v := b) ?_
 refine tD Try.f42 4 4 (fun v4 S3 => ?_)
 refine tD Try.f42 4 5 (fun v5 S4 => ?_)
 refine tP Try.f42 4 6 (v := b) ?_
 refine tD Try.f42 4 7 (fun v7 S5 => ?_)
 refine tD Try.f42 4 8 (fun v8 S6 => ?_)
 refine tP Try.f42 4 9 (v := b) ?_
 refine tD Try.f42 4 10 (fun b6 S7 => ?_)
 refine tD Try.f42 4 11 (fun b7 S8 => ?_)
 refine tP Try.f42 4 12 (v := b) ?_
 refine tD Try.f42 4 13 (fun b8 S9 => ?_)
 refine tD Try.f42 4 14 (fun b9 c4 => ?_)
 refine tP Try.f42 4 15 (v := b) ?_
 refine tD Try.f42 4 16 (fun c1 c5 => ?_)
 refine tD Try.f42 4 17 (fun c2 c6 => ?_)
 refine tD Try.f42 4 18 (fun c3 c7 => ?_)
 refine tD Try.f42 4 19 (fun c9 c8 => ?_)
 kernel_rfl
theorem je.r5  : jv Try.prog ⟨false, false, false⟩ (zQ Try.prog O) (reg Try.f42 5) (reg Try.f42 5).toList ([x0,x1,a,x3,b,x5,x6,x7,x8,x9,d,f,g,i,k,l,m,n,o,p,q,r,s,t,u,w,x,y,z,A,B,C,D,E,F,G,c,H,I,J,K,L,M,N,P,Q,R,U,V,W,X,Y,Z,a0,a1,a2,a3,a4,a5,a6,a7,a8,a9,b0,b1,b2,b3,b4,b5]) S =
  (zF (zo Try.prog 48 a 0 S) (fun v0 S1 => zF (zZ Try.prog false 3 v0 S1) (fun v1 S2 => some ([x0,x1,a,x3,b,x5,x6,x7,x8,x9,d,f,g,i,k,l,m,n,o,p,q,r,s,t,u,w,x,y,z,A,B,C,D,E,F,v0,v1,H,I,J,K,L,M,N,P,Q,R,U,V,W,X,Y,Z,a0,a1,a2,a3,a4,a5,a6,a7,a8,a9,b0,b1,b2,b3,b4,b5], S2)) ()) ()) := by
 kernel_rfl
theorem je.r8  : jv Try.prog ⟨false, false, false⟩ (zQ Try.prog O) (reg Try.f42 8) (reg Try.f42 8).toList ([x0,x1,a,x3,b,x5,x6,x7,x8,x9,d,f,g,i,k,l,m,n,o,p,q,r,s,t,u,w,x,y,z,A,B,C,D,E,F,G,c,H,I,J,K,L,M,N,P,Q,R,U,V,W,X,Y,Z,a0,a1,a2,a3,a4,a5,a6,a7,a8,a9,b0,b1,b2,b3,b4,b5]) S =
  (zF (jX Try.prog BinOp.eql 3 c (Value.int IntKind.i64 0) S) (fun v0 S1 => some ([x0,x1,a,x3,b,x5,x6,x7,x8,x9,d,f,g,i,k,l,m,n,o,p,q,r,s,t,u,w,x,y,z,A,B,C,D,E,F,G,c,H,I,J,K,L,M,N,P,Q,v0,dem v0,V,W,X,Y,Z,a0,a1,a2,a3,a4,a5,a6,a7,a8,a9,b0,b1,b2,b3,b4,b5], S1)) ()) := by
 kernel_rfl
theorem je.r9  : jv Try.prog ⟨false, false, false⟩ (zQ Try.prog O) (reg Try.f42 9) (reg Try.f42 9).toList ([x0,x1,a,x3,b,x5,x6,x7,x8,x9,d,f,g,i,k,l,m,n,o,p,q,r,s,t,u,w,x,y,z,A,B,C,D,E,F,G,c,H,I,J,K,L,M,N,P,Q,R,U,V,W,X,Y,Z,a0,a1,a2,a3,a4,a5,a6,a7,a8,a9,b0,b1,b2,b3,b4,b5]) S =
  (zF ((zQ Try.prog O) 56 [(dem (dem x5))] S) (fun v1 S1 => zF (zS v1 0 S1) (fun v3 S2 => zF (zS (zV 0 v1) 1 S2) (fun v4 S3 => zF (zo Try.prog 48 a 6 S3) (fun v5 S4 => zF (wU Try.prog 43 v5 (dem v3) S4) (fun v6 S5 => some ([x0,x1,a,x3,b,x5,v4,x7,x8,x9,d,f,g,i,k,l,m,n,o,p,q,r,s,t,u,w,x,y,z,A,B,C,D,E,F,G,c,H,I,J,K,L,M,N,P,Q,R,U,zV 1 (zV 0 v1),dem x5,dem v1,v3,dem v4,v5,a1,a2,a3,a4,a5,a6,a7,a8,a9,b0,b1,b2,b3,b4,b5], S5)) ()) ()) ()) ()) ()) := by
 kernel_rfl
theorem je.r10  : jv Try.prog ⟨false, false, false⟩ (zQ Try.prog O) (reg Try.f42 10) (reg Try.f42 10).toList ([x0,x1,a,x3,b,x5,x6,x7,x8,x9,d,f,g,i,k,l,m,n,o,p,q,r,s,t,u,w,x,y,z,A,B,C,D,E,F,G,c,H,I,J,K,L,M,N,P,Q,R,U,V,W,X,Y,Z,a0,a1,a2,a3,a4,a5,a6,a7,a8,a9,b0,b1,b2,b3,b4,b5]) S =
  (zF (jX Try.prog BinOp.eql 3 c (Value.int IntKind.i64 1) S) (fun v0 S1 => some ([x0,x1,a,x3,b,x5,x6,x7,x8,x9,d,f,g,i,k,l,m,n,o,p,q,r,s,t,u,w,x,y,z,A,B,C,D,E,F,G,c,H,I,J,K,L,M,N,P,Q,R,U,V,W,X,Y,Z,a0,v0,dem v0,a3,a4,a5,a6,a7,a8,a9,b0,b1,b2,b3,b4,b5], S1)) ()) := by
 kernel_rfl
theorem je.r11  : jv Try.prog ⟨false, false, false⟩ (zQ Try.prog O) (reg Try.f42 11) (reg Try.f42 11).toList ([x0,x1,a,x3,b,x5,x6,x7,x8,x9,d,f,g,i,k,l,m,n,o,p,q,r,s,t,u,w,x,y,z,A,B,C,D,E,F,G,c,H,I,J,K,L,M,N,P,Q,R,U,V,W,X,Y,Z,a0,a1,a2,a3,a4,a5,a6,a7,a8,a9,b0,b1,b2,b3,b4,b5]) S =
  (zF ((zQ Try.prog O) 57 [(dem (dem x5))] S) (fun v1 S1 => zF (zS v1 0 S1) (fun v3 S2 => zF (zS (zV 0 v1) 1 S2) (fun v4 S3 => zF (zo Try.prog 48 a 7 S3) (fun v5 S4 => zF (wU Try.prog 46 v5 (dem v3) S4) (fun v6 S5 => some ([x0,x1,a,x3,b,x5,v4,x7,x8,x9,d,f,g,i,k,l,m,n,o,p,q,r,s,t,u,w,x,y,z,A,B,C,D,E,F,G,c,H,I,J,K,L,M,N,P,Q,R,U,V,W,X,Y,Z,a0,a1,a2,zV 1 (zV 0 v1),dem x5,dem v1,v3,dem v4,v5,a9,b0,b1,b2,b3,b4,b5], S5)) ()) ()) ()) ()) ()) := by
 kernel_rfl
theorem je.r6  : jv Try.prog ⟨false, false, false⟩ (zQ Try.prog O) (reg Try.f42 6) (reg Try.f42 6).toList ([x0,x1,a,x3,b,x5,x6,x7,x8,x9,d,f,g,i,k,l,m,n,o,p,q,r,s,t,u,w,x,y,z,A,B,C,D,E,F,G,c,H,I,J,K,L,M,N,P,Q,R,U,V,W,X,Y,Z,a0,a1,a2,a3,a4,a5,a6,a7,a8,a9,b0,b1,b2,b3,b4,b5]) S =
  (zF (ZM Try.prog 33 (dem x5) S) (fun v1 S1 => zF (jX Try.prog BinOp.eql 3 v1 (Value.int IntKind.i64 0) S1) (fun v2 S2 => some ([x0,x1,a,v2,b,x5,x6,x7,x8,x9,d,f,g,i,k,l,m,n,o,p,q,r,s,t,u,w,x,y,z,A,B,C,D,E,F,G,c,dem x5,v1,dem v2,K,L,M,N,P,Q,R,U,V,W,X,Y,Z,a0,a1,a2,a3,a4,a5,a6,a7,a8,a9,b0,b1,b2,b3,b4,b5], S2)) ()) ()) := by
 kernel_rfl
theorem je.d7 : kD Try.prog (reg Try.f42 7) = true := by kernel_rfl
theorem je.ff7 : fixed Try.prog (reg Try.f42 7) = false := by kernel_rfl
theorem je.k7 : checked Try.prog (reg Try.f42 7) = [0, 5] := by kernel_rfl
theorem je.g7 : again Try.prog (reg Try.f42 7) = [(0, 4)] := by kernel_rfl
theorem je.r7  : zA Try.prog O false (.region 7 (reg Try.f42 7) true) ([x0,x1,a,x3,b,x5,x6,x7,x8,x9,d,f,g,i,k,l,m,n,o,p,q,r,s,t,u,w,x,y,z,A,B,C,D,E,F,G,c,H,I,J,K,L,M,N,P,Q,R,U,V,W,X,Y,Z,a0,a1,a2,a3,a4,a5,a6,a7,a8,a9,b0,b1,b2,b3,b4,b5]) S =
  JE (zF (zZ Try.prog false 48 a S) (fun v0 S1 => okK v0 ( gdK (dem x3) true (zZ Try.prog false 48 a) S1 (fun v3 S2 => gdK (dem x3) true ((zQ Try.prog O) 58 [(dem v3)]) S2 (fun v4 S3 => zF (wP (dem x3) v4 (Value.bool false) S3) (fun v5 S4 => okK v5 ( zF (wU Try.prog 48 a (dem v0) S4) (fun v6 S5 => ckK (ku a S S3 && (true)) (some ([x0,x1,a,v5,b,x5,x6,x7,x8,x9,d,f,g,i,k,l,m,n,o,p,q,r,s,t,u,w,x,y,z,A,B,C,D,E,F,G,c,H,I,J,v0,x3,dem x3,v3,v4,dem v5,R,U,V,W,X,Y,Z,a0,a1,a2,a3,a4,a5,a6,a7,a8,a9,b0,b1,b2,b3,b4,b5], S5)) ()) ()) ()) ()) ()) ()) ()) ()) := by
 rw [yQ je.d7 je.ff7 je.k7 je.g7]
 refine congrArg JE ?_
 refine uDC Try.f42 7 0 (pe := a) (fun v0 S1 => ?_)
 refine uP Try.f42 7 1 (v := x3) (pe := undef) ?_
 refine uP Try.f42 7 2 (v := x3) (pe := undef) ?_
 refine uG Try.f42 7 3 (j := 2) (pe := a) (fun v3 S2 => ?_)
 refine uG Try.f42 7 4 (j := 2) (pe := undef) (fun v4 S3 => ?_)
 refine uDC Try.f42 7 5 (pe := undef) (fun v5 S4 => ?_)
 refine uD Try.f42 7 6 (pe := undef) (fun v6 S5 => ?_)
 refine uP Try.f42 7 7 (v := v5) (pe := undef) ?_
 kernel_rfl
theorem je.d12 : kD Try.prog (reg Try.f42 12) = true := by kernel_rfl
theorem je.aky : fixed Try.prog (reg Try.f42 12) = false := by kernel_rfl
theorem je.k12 : checked Try.prog (reg Try.f42 12) = [0, 6] := by kernel_rfl
theorem je.g12 : again Try.prog (reg Try.f42 12) = [(0, 5)] := by kernel_rfl
theorem je.r12  : zA Try.prog O false (.region 12 (reg Try.f42 12) true) ([x0,x1,a,x3,b,x5,x6,x7,x8,x9,d,f,g,i,k,l,m,n,o,p,q,r,s,t,u,w,x,y,z,A,B,C,D,E,F,G,c,H,I,J,K,L,M,N,P,Q,R,U,V,W,X,Y,Z,a0,a1,a2,a3,a4,a5,a6,a7,a8,a9,b0,b1,b2,b3,b4,b5]) S =
  JE (zF (zZ Try.prog false 48 a S) (fun v0 S1 => okK v0 ( zF (jX Try.prog BinOp.eql 64 (dem x6) (Value.int IntKind.i64 0) S1) (fun v2 S2 => gdK (dem v2) true (zZ Try.prog false 48 a) S2 (fun v4 S3 => gdK (dem v2) true ((zQ Try.prog O) 58 [(dem v4)]) S3 (fun v5 S4 => zF (wP (dem v2) v5 (Value.bool false) S4) (fun v6 S5 => okK v6 ( zF (wU Try.prog 48 a (dem v0) S5) (fun v7 S6 => ckK (ku a S S4 && (true)) (some ([x0,x1,a,v6,b,x5,x6,x7,x8,x9,d,f,g,i,k,l,m,n,o,p,q,r,s,t,u,w,x,y,z,A,B,C,D,E,F,G,c,H,I,J,K,L,M,N,P,Q,R,U,V,W,X,Y,Z,a0,a1,a2,a3,a4,a5,a6,a7,a8,v0,dem x6,v2,dem v2,v4,v5,dem v6], S6)) ()) ()) ()) ()) ()) ()) ()) ()) ()) := by
 rw [yQ je.d12 je.aky je.k12 je.g12]
 refine congrArg JE ?_
 refine uDC Try.f42 12 0 (pe := a) (fun v0 S1 => ?_)
 refine uP Try.f42 12 1 (v := x6) (pe := undef) ?_
 refine uD Try.f42 12 2 (pe := undef) (fun v2 S2 => ?_)
 refine uP Try.f42 12 3 (v := v2) (pe := undef) ?_
 refine uG Try.f42 12 4 (j := 3) (pe := a) (fun v4 S3 => ?_)
 refine uG Try.f42 12 5 (j := 3) (pe := undef) (fun v5 S4 => ?_)
 refine uDC Try.f42 12 6 (pe := undef) (fun v6 S5 => ?_)
 refine uD Try.f42 12 7 (pe := undef) (fun v7 S6 => ?_)
 refine uP Try.f42 12 8 (v := v6) (pe := undef) ?_
 kernel_rfl
theorem je.rs : type_of% (And.intro @je.r0 (And.intro @je.r1 (And.intro @je.r2 (And.intro @je.r3 (And.intro @je.r4 (And.intro @je.r5 (And.intro @je.r8 (And.intro @je.r9 (And.intro @je.r10 (And.intro @je.r11 (And.intro @je.r6 (And.intro @je.r7 (@je.r12))))))))))))) := And.intro @je.r0 (And.intro @je.r1 (And.intro @je.r2 (And.intro @je.r3 (And.intro @je.r4 (And.intro @je.r5 (And.intro @je.r8 (And.intro @je.r9 (And.intro @je.r10 (And.intro @je.r11 (And.intro @je.r6 (And.intro @je.r7 (@je.r12))))))))))))
theorem je.runs {x0 : Value} {S S1 : zi} {e : AEx} {T : List Value} (h : zA Try.prog O false je.code ([x0,undef,undef,undef,undef,undef,undef,undef,undef,undef,undef,undef,undef,undef,undef,undef,undef,undef,undef,undef,undef,undef,undef,undef,undef,undef,undef,undef,undef,undef,undef,undef,undef,undef,undef,undef,undef,undef,undef,undef,undef,undef,undef,undef,undef,undef,undef,undef,undef,undef,undef,undef,undef,undef,undef,undef,undef,undef,undef,undef,undef,undef,undef,undef,undef,undef,undef,undef,undef]) zi.empty = some (e, T, S1)) (he : e = .normal ∨ e = .ret) {w0 : Value} (c0 : zZ Try.prog false 48 (T.getD 2 undef) S1 = some (w0, S1)) (h0 : jY (w0) = true) (h1 : jY (T.getD 3 undef) = true) (hca : [x0].all (jH 16) = true) (hcv : jH 16 (Value.tuple #[w0, T.getD 3 undef]) = true) : zQ Try.prog O 42 [x0] S = some (Value.tuple #[w0, T.getD 3 undef], S) :=
 wZ rfl rfl Try.func42 (by decide) je.body (by exact h) he ((ql ((show zG Try.prog T S1 Try.f42.results.toList = zG Try.prog T S1 [(ResultVar.cell 2 48), (ResultVar.tmp 3)] from by kernel_rfl).trans (by simp only [zG, c0])) (by kernel_rfl) (by simp only [List.all_cons, List.all_nil, h0, h1, Bool.and_true])).trans rfl) hca hcv
end Go.Proofs.Ytfjogganfjkckaa
namespace Go.Proofs.Ytfjogganfjkckaa
open Go.Abs
abbrev zD.id : FuncId := 19
noncomputable def zD.code : Code := (Code.seq (Code.region 0 (reg Try.f19 0) false) (Code.seq (Code.seq (Code.region 1 (reg Try.f19 1) false) (Code.cond (Operand.tmp 12) (Code.seq (Code.region 2 (reg Try.f19 2) false) Code.ret) Code.skip)) (Code.seq (Code.region 3 (reg Try.f19 3) false) (Code.seq (Code.seq (Code.region 4 (reg Try.f19 4) false) (Code.cond (Operand.tmp 32) (Code.seq (Code.region 5 (reg Try.f19 5) false) (Code.region 6 (reg Try.f19 6) false)) Code.skip)) (Code.seq (Code.seq (Code.region 7 (reg Try.f19 7) false) (Code.cond (Operand.tmp 44) (Code.seq (Code.region 8 (reg Try.f19 8) false) (Code.region 9 (reg Try.f19 9) false)) Code.skip)) (Code.seq (Code.region 10 (reg Try.f19 10) false) Code.ret))))))
theorem zD.body : Try.f19.body = some zD.code := by kernel_rfl
variable (x0 a x2 x3 x4 x5 x6 x7 x8 x9 b c d f g i j k l m n o p q r s t u v w x y z A B C D E F G H I J K L M N P Q R U V W X Y Z a0 a1 a2 a3 a4 a5 : Value) (S : zi)
theorem zD.r0  : jv Try.prog ⟨false, false, false⟩ (zQ Try.prog O) (reg Try.f19 0) (reg Try.f19 0).toList ([x0,a,x2,x3,x4,x5,x6,x7,x8,x9,b,c,d,f,g,i,j,k,l,m,n,o,p,q,r,s,t,u,v,w,x,y,z,A,B,C,D,E,F,G,H,I,J,K,L,M,N,P,Q,R,U,V,W,X,Y,Z,a0,a1,a2,a3,a4,a5]) S =
  (zF (Jo (dem x0) S) (fun v0 S1 => some ([x0,v0,Value.slice none 0 0,Value.int IntKind.i64 0,x4,x5,x6,x7,x8,x9,b,c,d,f,g,i,j,k,l,m,n,o,p,q,r,s,t,u,v,w,x,y,z,A,B,C,D,E,F,G,H,I,J,K,L,M,N,P,Q,R,U,V,W,X,Y,Z,a0,a1,a2,a3,a4,a5], S1)) ()) := by
 kernel_rfl
theorem zD.r1  : jv Try.prog ⟨false, false, false⟩ (zQ Try.prog O) (reg Try.f19 1) (reg Try.f19 1).toList ([x0,a,x2,x3,x4,x5,x6,x7,x8,x9,b,c,d,f,g,i,j,k,l,m,n,o,p,q,r,s,t,u,v,w,x,y,z,A,B,C,D,E,F,G,H,I,J,K,L,M,N,P,Q,R,U,V,W,X,Y,Z,a0,a1,a2,a3,a4,a5]) S =
  (zF (zZ Try.prog false 48 a S) (fun v0 S1 => zF ((zQ Try.prog O) 34 [(dem v0)] S1) (fun v1 S2 => zF (aUn Try.prog UnOp.not v1 S2) (fun v2 S3 => some ([x0,a,x2,x3,x4,x5,x6,x7,x8,x9,v0,v1,v2,f,g,i,j,k,l,m,n,o,p,q,r,s,t,u,v,w,x,y,z,A,B,C,D,E,F,G,H,I,J,K,L,M,N,P,Q,R,U,V,W,X,Y,Z,a0,a1,a2,a3,a4,a5], S3)) ()) ()) ()) := by
 kernel_rfl
theorem zD.r2  : jv Try.prog ⟨false, false, false⟩ (zQ Try.prog O) (reg Try.f19 2) (reg Try.f19 2).toList ([x0,a,x2,x3,x4,x5,x6,x7,x8,x9,b,c,d,f,g,i,j,k,l,m,n,o,p,q,r,s,t,u,v,w,x,y,z,A,B,C,D,E,F,G,H,I,J,K,L,M,N,P,Q,R,U,V,W,X,Y,Z,a0,a1,a2,a3,a4,a5]) S =
  ( some ([x0,a,Value.slice none 0 0,Value.int IntKind.i64 121,x4,x5,x6,x7,x8,x9,b,c,d,f,g,i,j,k,l,m,n,o,p,q,r,s,t,u,v,w,x,y,z,A,B,C,D,E,F,G,H,I,J,K,L,M,N,P,Q,R,U,V,W,X,Y,Z,a0,a1,a2,a3,a4,a5], S)) := by
 kernel_rfl
theorem zD.r3  : jv Try.prog ⟨false, false, false⟩ (zQ Try.prog O) (reg Try.f19 3) (reg Try.f19 3).toList ([x0,a,x2,x3,x4,x5,x6,x7,x8,x9,b,c,d,f,g,i,j,k,l,m,n,o,p,q,r,s,t,u,v,w,x,y,z,A,B,C,D,E,F,G,H,I,J,K,L,M,N,P,Q,R,U,V,W,X,Y,Z,a0,a1,a2,a3,a4,a5]) S =
  (zF (zo Try.prog 48 a 0 S) (fun v0 S1 => zF (zZ Try.prog false 3 v0 S1) (fun v1 S2 => zF (zo Try.prog 48 a 1 S2) (fun v2 S3 => zF (zZ Try.prog false 3 v2 S3) (fun v3 S4 => zF (zo Try.prog 48 a 2 S4) (fun v4 S5 => zF (zZ Try.prog false 3 v4 S5) (fun v5 S6 => zF (zo Try.prog 48 a 3 S6) (fun v6 S7 => zF (zZ Try.prog false 3 v6 S7) (fun v7 S8 => zF (zo Try.prog 48 a 4 S8) (fun v8 S9 => zF (zZ Try.prog false 3 v8 S9) (fun v9 b2 => zF (zo Try.prog 48 a 5 b2) (fun a7 b3 => zF (zZ Try.prog false 3 a7 b3) (fun a8 b4 => zF (jR Try.prog 24 6 [(0, v1), (1, v3), (2, v5), (3, v7), (4, v9), (5, a8)] b4) (fun a9 b5 => zF ((zQ Try.prog O) 35 [(dem a9)] b5) (fun a6 b6 => zF (zS a6 0 b6) (fun b0 b7 => zF (zS (zV 0 a6) 1 b7) (fun b1 b8 => some ([x0,a,x2,x3,b0,b1,x6,x7,x8,x9,b,c,d,zV 1 (zV 0 a6),v0,v1,v2,v3,v4,v5,v6,v7,v8,v9,a7,a8,a9,dem a6,dem b0,dem b1,x,y,z,A,B,C,D,E,F,G,H,I,J,K,L,M,N,P,Q,R,U,V,W,X,Y,Z,a0,a1,a2,a3,a4,a5], b8)) ()) ()) ()) ()) ()) ()) ()) ()) ()) ()) ()) ()) ()) ()) ()) ()) := by
 kernel_rfl
theorem zD.r4  : jv Try.prog ⟨false, false, false⟩ (zQ Try.prog O) (reg Try.f19 4) (reg Try.f19 4).toList ([x0,a,x2,x3,x4,x5,x6,x7,x8,x9,b,c,d,f,g,i,j,k,l,m,n,o,p,q,r,s,t,u,v,w,x,y,z,A,B,C,D,E,F,G,H,I,J,K,L,M,N,P,Q,R,U,V,W,X,Y,Z,a0,a1,a2,a3,a4,a5]) S =
  (zF (zo Try.prog 48 a 0 S) (fun v0 S1 => zF (zZ Try.prog false 3 v0 S1) (fun v1 S2 => zF (jX Try.prog BinOp.eql 3 v1 (Value.int IntKind.i64 0) S2) (fun v2 S3 => some ([x0,a,x2,x3,x4,x5,x6,x7,x8,x9,b,c,d,f,g,i,j,k,l,m,n,o,p,q,r,s,t,u,v,w,v0,v1,v2,A,B,C,D,E,F,G,H,I,J,K,L,M,N,P,Q,R,U,V,W,X,Y,Z,a0,a1,a2,a3,a4,a5], S3)) ()) ()) ()) := by
 kernel_rfl
theorem zD.r5  : jv Try.prog ⟨false, false, false⟩ (zQ Try.prog O) (reg Try.f19 5) (reg Try.f19 5).toList ([x0,a,x2,x3,x4,x5,x6,x7,x8,x9,b,c,d,f,g,i,j,k,l,m,n,o,p,q,r,s,t,u,v,w,x,y,z,A,B,C,D,E,F,G,H,I,J,K,L,M,N,P,Q,R,U,V,W,X,Y,Z,a0,a1,a2,a3,a4,a5]) S =
  (zF (zo Try.prog 48 a 6 S) (fun v0 S1 => zF (zZ Try.prog false 43 v0 S1) (fun v1 S2 => zF ((zQ Try.prog O) 36 [(dem v1)] S2) (fun v2 S3 => zF (zS v2 0 S3) (fun v4 S4 => zF (zS (zV 0 v2) 1 S4) (fun v5 S5 => some ([x0,a,x2,x3,x4,x5,v4,v5,x8,x9,b,c,d,f,g,i,j,k,l,m,n,o,p,q,r,s,t,u,v,w,x,y,z,zV 1 (zV 0 v2),v0,v1,dem v2,dem v4,dem v5,G,H,I,J,K,L,M,N,P,Q,R,U,V,W,X,Y,Z,a0,a1,a2,a3,a4,a5], S5)) ()) ()) ()) ()) ()) := by
 kernel_rfl
theorem zD.r6  : jv Try.prog ⟨false, false, false⟩ (zQ Try.prog O) (reg Try.f19 6) (reg Try.f19 6).toList ([x0,a,x2,x3,x4,x5,x6,x7,x8,x9,b,c,d,f,g,i,j,k,l,m,n,o,p,q,r,s,t,u,v,w,x,y,z,A,B,C,D,E,F,G,H,I,J,K,L,M,N,P,Q,R,U,V,W,X,Y,Z,a0,a1,a2,a3,a4,a5]) S =
  (zF (yj Try.prog 33 33 x4 (dem x6) S) (fun v2 S1 => some ([x0,a,x2,x3,v2,x5,x6,x7,x8,x9,b,c,d,f,g,i,j,k,l,m,n,o,p,q,r,s,t,u,v,w,x,y,z,A,B,C,D,E,F,dem x4,dem x6,dem v2,J,K,L,M,N,P,Q,R,U,V,W,X,Y,Z,a0,a1,a2,a3,a4,a5], S1)) ()) := by
 kernel_rfl
theorem zD.r7  : jv Try.prog ⟨false, false, false⟩ (zQ Try.prog O) (reg Try.f19 7) (reg Try.f19 7).toList ([x0,a,x2,x3,x4,x5,x6,x7,x8,x9,b,c,d,f,g,i,j,k,l,m,n,o,p,q,r,s,t,u,v,w,x,y,z,A,B,C,D,E,F,G,H,I,J,K,L,M,N,P,Q,R,U,V,W,X,Y,Z,a0,a1,a2,a3,a4,a5]) S =
  (zF (zo Try.prog 48 a 0 S) (fun v0 S1 => zF (zZ Try.prog false 3 v0 S1) (fun v1 S2 => zF (jX Try.prog BinOp.eql 3 v1 (Value.int IntKind.i64 1) S2) (fun v2 S3 => some ([x0,a,x2,x3,x4,x5,x6,x7,x8,x9,b,c,d,f,g,i,j,k,l,m,n,o,p,q,r,s,t,u,v,w,x,y,z,A,B,C,D,E,F,G,H,I,v0,v1,v2,M,N,P,Q,R,U,V,W,X,Y,Z,a0,a1,a2,a3,a4,a5], S3)) ()) ()) ()) := by
 kernel_rfl
theorem zD.r8  : jv Try.prog ⟨false, false, false⟩ (zQ Try.prog O) (reg Try.f19 8) (reg Try.f19 8).toList ([x0,a,x2,x3,x4,x5,x6,x7,x8,x9,b,c,d,f,g,i,j,k,l,m,n,o,p,q,r,s,t,u,v,w,x,y,z,A,B,C,D,E,F,G,H,I,J,K,L,M,N,P,Q,R,U,V,W,X,Y,Z,a0,a1,a2,a3,a4,a5]) S =
  (zF (zo Try.prog 48 a 7 S) (fun v0 S1 => zF (zZ Try.prog false 46 v0 S1) (fun v1 S2 => zF ((zQ Try.prog O) 37 [(dem v1)] S2) (fun v2 S3 => zF (zS v2 0 S3) (fun v4 S4 => zF (zS (zV 0 v2) 1 S4) (fun v5 S5 => some ([x0,a,x2,x3,x4,x5,x6,x7,v4,v5,b,c,d,f,g,i,j,k,l,m,n,o,p,q,r,s,t,u,v,w,x,y,z,A,B,C,D,E,F,G,H,I,J,K,L,zV 1 (zV 0 v2),v0,v1,dem v2,dem v4,dem v5,V,W,X,Y,Z,a0,a1,a2,a3,a4,a5], S5)) ()) ()) ()) ()) ()) := by
 kernel_rfl
theorem zD.r9  : jv Try.prog ⟨false, false, false⟩ (zQ Try.prog O) (reg Try.f19 9) (reg Try.f19 9).toList ([x0,a,x2,x3,x4,x5,x6,x7,x8,x9,b,c,d,f,g,i,j,k,l,m,n,o,p,q,r,s,t,u,v,w,x,y,z,A,B,C,D,E,F,G,H,I,J,K,L,M,N,P,Q,R,U,V,W,X,Y,Z,a0,a1,a2,a3,a4,a5]) S =
  (zF (yj Try.prog 33 33 x4 (dem x8) S) (fun v2 S1 => some ([x0,a,x2,x3,v2,x5,x6,x7,x8,x9,b,c,d,f,g,i,j,k,l,m,n,o,p,q,r,s,t,u,v,w,x,y,z,A,B,C,D,E,F,G,H,I,J,K,L,M,N,P,Q,R,U,dem x4,dem x8,dem v2,Y,Z,a0,a1,a2,a3,a4,a5], S1)) ()) := by
 kernel_rfl
theorem zD.r10  : jv Try.prog ⟨false, false, false⟩ (zQ Try.prog O) (reg Try.f19 10) (reg Try.f19 10).toList ([x0,a,x2,x3,x4,x5,x6,x7,x8,x9,b,c,d,f,g,i,j,k,l,m,n,o,p,q,r,s,t,u,v,w,x,y,z,A,B,C,D,E,F,G,H,I,J,K,L,M,N,P,Q,R,U,V,W,X,Y,Z,a0,a1,a2,a3,a4,a5]) S =
  (zF (zo Try.prog 48 a 1 S) (fun v0 S1 => zF (zZ Try.prog false 3 v0 S1) (fun v1 S2 => zF ((zQ Try.prog O) 40 [(dem v1)] S2) (fun v2 S3 => zF ((zQ Try.prog O) 39 [(dem v2), (dem (dem x4))] S3) (fun v4 S4 => zF ((zQ Try.prog O) 38 [(dem v4)] S4) (fun v5 S5 => zF (yj Try.prog 33 33 v5 (dem x4) S5) (fun v7 S6 => some ([x0,a,v7,Value.int IntKind.i64 0,x4,x5,x6,x7,x8,x9,b,c,d,f,g,i,j,k,l,m,n,o,p,q,r,s,t,u,v,w,x,y,z,A,B,C,D,E,F,G,H,I,J,K,L,M,N,P,Q,R,U,V,W,X,v0,v1,v2,dem x4,v4,dem v5,dem x4,dem v7], S6)) ()) ()) ()) ()) ()) ()) := by
 kernel_rfl
theorem zD.rs : type_of% (And.intro @zD.r0 (And.intro @zD.r1 (And.intro @zD.r2 (And.intro @zD.r3 (And.intro @zD.r4 (And.intro @zD.r5 (And.intro @zD.r6 (And.intro @zD.r7 (And.intro @zD.r8 (And.intro @zD.r9 (@zD.r10))))))))))) := And.intro @zD.r0 (And.intro @zD.r1 (And.intro @zD.r2 (And.intro @zD.r3 (And.intro @zD.r4 (And.intro @zD.r5 (And.intro @zD.r6 (And.intro @zD.r7 (And.intro @zD.r8 (And.intro @zD.r9 (@zD.r10))))))))))
theorem zD.runs {x0 : Value} {S S1 : zi} {e : AEx} {T : List Value} (h : zA Try.prog O false zD.code ([x0,undef,undef,undef,undef,undef,undef,undef,undef,undef,undef,undef,undef,undef,undef,undef,undef,undef,undef,undef,undef,undef,undef,undef,undef,undef,undef,undef,undef,undef,undef,undef,undef,undef,undef,undef,undef,undef,undef,undef,undef,undef,undef,undef,undef,undef,undef,undef,undef,undef,undef,undef,undef,undef,undef,undef,undef,undef,undef,undef,undef,undef]) zi.empty = some (e, T, S1)) (he : e = .normal ∨ e = .ret)  (h0 : jY (T.getD 2 undef) = true) (h1 : jY (T.getD 3 undef) = true) (hca : [x0].all (jH 16) = true) (hcv : jH 16 (Value.tuple #[T.getD 2 undef, T.getD 3 undef]) = true) : zQ Try.prog O 19 [x0] S = some (Value.tuple #[T.getD 2 undef, T.getD 3 undef], S) :=
 wZ rfl rfl Try.func19 (by decide) zD.body (by exact h) he ((ql ((show zG Try.prog T S1 Try.f19.results.toList = zG Try.prog T S1 [(ResultVar.tmp 2), (ResultVar.tmp 3)] from by kernel_rfl).trans (by simp only [zG])) (by kernel_rfl) (by simp only [List.all_cons, List.all_nil, h0, h1, Bool.and_true])).trans rfl) hca hcv
end Go.Proofs.Ytfjogganfjkckaa
namespace Go.Proofs.Ytfjogganfjkckaa
open Go.Abs
abbrev jl.id : FuncId := 58
noncomputable def jl.code : Code := (Code.seq (Code.region 0 (reg Try.f58 0) false) (Code.seq (Code.seq (Code.region 1 (reg Try.f58 1) true) (Code.cond (Operand.tmp 27) (Code.seq (Code.region 2 (reg Try.f58 2) false) Code.ret) Code.skip)) (Code.seq (Code.seq (Code.region 3 (reg Try.f58 3) false) (Code.block 0 (Code.seq (Code.region 4 (reg Try.f58 4) false) (Code.cond (Operand.tmp 30) (Code.seq (Code.region 5 (reg Try.f58 5) false) Code.ret) (Code.seq (Code.region 6 (reg Try.f58 6) false) (Code.cond (Operand.tmp 35) (Code.seq (Code.region 7 (reg Try.f58 7) false) Code.ret) (Code.seq (Code.region 8 (reg Try.f58 8) false) (Code.cond (Operand.tmp 40) (Code.seq (Code.region 9 (reg Try.f58 9) false) (Code.cond (Operand.tmp 51) (Code.seq (Code.region 10 (reg Try.f58 10) false) Code.ret) Code.skip)) Code.skip)))))))) (Code.seq (Code.region 11 (reg Try.f58 11) false) Code.ret))))
theorem jl.body : Try.f58.body = some jl.code := by kernel_rfl
variable (x0 b x2 x3 x4 x5 x6 x7 x8 x9 d f g i k l m n o p q r s t u w x y z c A B C D E F G H I J K L M N P Q R U V W X Y Z a0 a1 a2 a3 a4 a5 a6 a7 a8 a9 b0 b1 b2 b3 b4 b5 b6 b7 b8 b9 c0 : Value) (S : zi)
theorem jl.r0  : jv Try.prog ⟨false, false, false⟩ (zQ Try.prog O) (reg Try.f58 0) (reg Try.f58 0).toList ([x0,b,x2,x3,x4,x5,x6,x7,x8,x9,d,f,g,i,k,l,m,n,o,p,q,r,s,t,u,w,x,y,z,c,A,B,C,D,E,F,G,H,I,J,K,L,M,N,P,Q,R,U,V,W,X,Y,Z,a0,a1,a2,a3,a4,a5,a6,a7,a8,a9,b0,b1,b2,b3,b4,b5,b6,b7,b8,b9,c0]) S =
  (zF (Jo (dem x0) S) (fun v0 S1 => some ([x0,v0,Value.bool false,x3,x4,x5,x6,x7,x8,x9,d,f,g,i,k,l,m,n,o,p,q,r,s,t,u,w,x,y,z,c,A,B,C,D,E,F,G,H,I,J,K,L,M,N,P,Q,R,U,V,W,X,Y,Z,a0,a1,a2,a3,a4,a5,a6,a7,a8,a9,b0,b1,b2,b3,b4,b5,b6,b7,b8,b9,c0], S1)) ()) := by
 kernel_rfl
theorem jl.d1 : kD Try.prog (reg Try.f58 1) = true := by kernel_rfl
theorem jl.ff1 : fixed Try.prog (reg Try.f58 1) = false := by kernel_rfl
theorem jl.k1 : checked Try.prog (reg Try.f58 1) = [19] := by kernel_rfl
theorem jl.g1 : again Try.prog (reg Try.f58 1) = [(19, 21)] := by kernel_rfl
theorem jl.r1  : zA Try.prog O false (.region 1 (reg Try.f58 1) true) ([x0,b,x2,x3,x4,x5,x6,x7,x8,x9,d,f,g,i,k,l,m,n,o,p,q,r,s,t,u,w,x,y,z,c,A,B,C,D,E,F,G,H,I,J,K,L,M,N,P,Q,R,U,V,W,X,Y,Z,a0,a1,a2,a3,a4,a5,a6,a7,a8,a9,b0,b1,b2,b3,b4,b5,b6,b7,b8,b9,c0]) S =
  JE (zF (zo Try.prog 48 b 0 S) (fun v0 S1 => zF (zZ Try.prog false 3 v0 S1) (fun v1 S2 => zF (jX Try.prog BinOp.lss 3 v1 (Value.int IntKind.i64 0) S2) (fun v2 S3 => gdK (dem v2) false (zo Try.prog 48 b 0) S3 (fun v4 S4 => gdK (dem v2) false (zZ Try.prog false 3 v4) S4 (fun v5 S5 => gdK (dem v2) false (jX Try.prog BinOp.gtr 3 v5 (Value.int IntKind.i64 6)) S5 (fun v6 S6 => zF (wP (dem v2) (Value.bool true) v6 S6) (fun v7 S7 => gdK (dem v7) false (zo Try.prog 48 b 1) S7 (fun v9 S8 => gdK (dem v7) false (zZ Try.prog false 3 v9) S8 (fun c5 S9 => gdK (dem v7) false (jX Try.prog BinOp.lss 3 c5 (Value.int IntKind.i64 0)) S9 (fun c6 d4 => zF (wP (dem v7) (Value.bool true) c6 d4) (fun c2 d5 => gdK (dem c2) false (zo Try.prog 48 b 1) d5 (fun c3 d6 => gdK (dem c2) false (zZ Try.prog false 3 c3) d6 (fun c7 d7 => gdK (dem c2) false (jX Try.prog BinOp.geq 3 c7 (Value.int IntKind.i64 7)) d7 (fun c8 d8 => zF (wP (dem c2) (Value.bool true) c8 d8) (fun c1 d2 => agn (dem c1) false (zZ Try.prog false 48 b) d2 (fun c9 d9 => gdK (dem c1) false (zZ Try.prog false 48 b) d9 (fun d0 f0 => gdK (dem c1) false ((zQ Try.prog O) 67 [(dem d0)]) f0 (fun c4 d3 => gdK (dem c1) false ((zQ Try.prog O) 66 [(dem c9), (dem c4)]) d3 (fun f1 f3 => gdK (dem c1) false (aUn Try.prog UnOp.not f1) f3 (fun f2 f4 => zF (wP (dem c1) (Value.bool true) f2 f4) (fun f5 f6 => ckK (ku b d2 d3 && (true)) (some ([x0,b,x2,v0,v1,v2,dem v2,v4,v5,v6,v7,dem v7,v9,c5,c6,c2,dem c2,c3,c7,c8,c1,dem c1,c9,d0,c4,f1,f2,f5,z,c,A,B,C,D,E,F,G,H,I,J,K,L,M,N,P,Q,R,U,V,W,X,Y,Z,a0,a1,a2,a3,a4,a5,a6,a7,a8,a9,b0,b1,b2,b3,b4,b5,b6,b7,b8,b9,c0], f6)) ()) ()) ()) ()) ()) ()) ()) ()) ()) ()) ()) ()) ()) ()) ()) ()) ()) ()) ()) ()) ()) ()) := by
 rw [yQ jl.d1 jl.ff1 jl.k1 jl.g1]
 refine congrArg JE ?_
 refine uD Try.f58 1 0 (pe := undef) (fun v0 S1 => ?_)
 refine uD Try.f58 1 1 (pe := v0) (fun v1 S2 => ?_)
 refine uD Try.f58 1 2 (pe := undef) (fun v2 S3 => ?_)
 refine uP Try.f58 1 3 (v := v2) (pe := undef) ?_
 refine uG Try.f58 1 4 (j := 3) (pe := undef) (fun v4 S4 => ?_)
 refine uG Try.f58 1 5 (j := 3) (pe := v4) (fun v5 S5 => ?_)
 refine uG Try.f58 1 6 (j := 3) (pe := undef) (fun v6 S6 => ?_)
 refine uD Try.f58 1 7 (pe := undef) (fun v7 S7 => ?_)
 refine uP Try.f58 1 8 (v := v7) (pe := undef) ?_
 refine uG Try.f58 1 9 (j := 8) (pe := undef) (fun v9 S8 => ?_)
 refine uG Try.f58 1 10 (j := 8) (pe := v9) (fun c5 S9 => ?_)
 refine uG Try.f58 1 11 (j := 8) (pe := undef) (fun c6 d4 => ?_)
 refine uD Try.f58 1 12 (pe := undef) (fun c2 d5 => ?_)
 refine uP Try.f58 1 13 (v := c2) (pe := undef) ?_
 refine uG Try.f58 1 14 (j := 13) (pe := undef) (fun c3 d6 => ?_)
 refine uG Try.f58 1 15 (j := 13) (pe := c3) (fun c7 d7 => ?_)
 refine uG Try.f58 1 16 (j := 13) (pe := undef) (fun c8 d8 => ?_)
 refine uD Try.f58 1 17 (pe := undef) (fun c1 d2 => ?_)
 refine uP Try.f58 1 18 (v := c1) (pe := undef) ?_
 refine uGC Try.f58 1 19 (j := 18) (pe := b) (fun c9 d9 => ?_)
 refine uG Try.f58 1 20 (j := 18) (pe := b) (fun d0 f0 => ?_)
 refine uG Try.f58 1 21 (j := 18) (pe := undef) (fun c4 d3 => ?_)
 refine uG Try.f58 1 22 (j := 18) (pe := undef) (fun f1 f3 => ?_)
 refine uG Try.f58 1 23 (j := 18) (pe := undef) (fun f2 f4 => ?_)
 refine uD Try.f58 1 24 (pe := undef) (fun f5 f6 => ?_)
 kernel_rfl
theorem jl.r2  : jv Try.prog ⟨false, false, false⟩ (zQ Try.prog O) (reg Try.f58 2) (reg Try.f58 2).toList ([x0,b,x2,x3,x4,x5,x6,x7,x8,x9,d,f,g,i,k,l,m,n,o,p,q,r,s,t,u,w,x,y,z,c,A,B,C,D,E,F,G,H,I,J,K,L,M,N,P,Q,R,U,V,W,X,Y,Z,a0,a1,a2,a3,a4,a5,a6,a7,a8,a9,b0,b1,b2,b3,b4,b5,b6,b7,b8,b9,c0]) S =
  ( some ([x0,b,Value.bool false,x3,x4,x5,x6,x7,x8,x9,d,f,g,i,k,l,m,n,o,p,q,r,s,t,u,w,x,y,z,c,A,B,C,D,E,F,G,H,I,J,K,L,M,N,P,Q,R,U,V,W,X,Y,Z,a0,a1,a2,a3,a4,a5,a6,a7,a8,a9,b0,b1,b2,b3,b4,b5,b6,b7,b8,b9,c0], S)) := by
 kernel_rfl
theorem jl.r3  : jv Try.prog ⟨false, false, false⟩ (zQ Try.prog O) (reg Try.f58 3) (reg Try.f58 3).toList ([x0,b,x2,x3,x4,x5,x6,x7,x8,x9,d,f,g,i,k,l,m,n,o,p,q,r,s,t,u,w,x,y,z,c,A,B,C,D,E,F,G,H,I,J,K,L,M,N,P,Q,R,U,V,W,X,Y,Z,a0,a1,a2,a3,a4,a5,a6,a7,a8,a9,b0,b1,b2,b3,b4,b5,b6,b7,b8,b9,c0]) S =
  (zF (zo Try.prog 48 b 0 S) (fun v0 S1 => zF (zZ Try.prog false 3 v0 S1) (fun v1 S2 => some ([x0,b,x2,x3,x4,x5,x6,x7,x8,x9,d,f,g,i,k,l,m,n,o,p,q,r,s,t,u,w,x,y,v0,v1,A,B,C,D,E,F,G,H,I,J,K,L,M,N,P,Q,R,U,V,W,X,Y,Z,a0,a1,a2,a3,a4,a5,a6,a7,a8,a9,b0,b1,b2,b3,b4,b5,b6,b7,b8,b9,c0], S2)) ()) ()) := by
 kernel_rfl
theorem jl.r4  : jv Try.prog ⟨false, false, false⟩ (zQ Try.prog O) (reg Try.f58 4) (reg Try.f58 4).toList ([x0,b,x2,x3,x4,x5,x6,x7,x8,x9,d,f,g,i,k,l,m,n,o,p,q,r,s,t,u,w,x,y,z,c,A,B,C,D,E,F,G,H,I,J,K,L,M,N,P,Q,R,U,V,W,X,Y,Z,a0,a1,a2,a3,a4,a5,a6,a7,a8,a9,b0,b1,b2,b3,b4,b5,b6,b7,b8,b9,c0]) S =
  (zF (jX Try.prog BinOp.eql 3 c (Value.int IntKind.i64 0) S) (fun v0 S1 => some ([x0,b,x2,x3,x4,x5,x6,x7,x8,x9,d,f,g,i,k,l,m,n,o,p,q,r,s,t,u,w,x,y,z,c,v0,dem v0,C,D,E,F,G,H,I,J,K,L,M,N,P,Q,R,U,V,W,X,Y,Z,a0,a1,a2,a3,a4,a5,a6,a7,a8,a9,b0,b1,b2,b3,b4,b5,b6,b7,b8,b9,c0], S1)) ()) := by
 kernel_rfl
theorem jl.r5  : jv Try.prog ⟨false, false, false⟩ (zQ Try.prog O) (reg Try.f58 5) (reg Try.f58 5).toList ([x0,b,x2,x3,x4,x5,x6,x7,x8,x9,d,f,g,i,k,l,m,n,o,p,q,r,s,t,u,w,x,y,z,c,A,B,C,D,E,F,G,H,I,J,K,L,M,N,P,Q,R,U,V,W,X,Y,Z,a0,a1,a2,a3,a4,a5,a6,a7,a8,a9,b0,b1,b2,b3,b4,b5,b6,b7,b8,b9,c0]) S =
  (zF (zo Try.prog 48 b 6 S) (fun v0 S1 => zF (zZ Try.prog false 43 v0 S1) (fun v1 S2 => zF ((zQ Try.prog O) 68 [(dem v1)] S2) (fun v2 S3 => some ([x0,b,v2,x3,x4,x5,x6,x7,x8,x9,d,f,g,i,k,l,m,n,o,p,q,r,s,t,u,w,x,y,z,c,A,B,v0,v1,dem v2,F,G,H,I,J,K,L,M,N,P,Q,R,U,V,W,X,Y,Z,a0,a1,a2,a3,a4,a5,a6,a7,a8,a9,b0,b1,b2,b3,b4,b5,b6,b7,b8,b9,c0], S3)) ()) ()) ()) := by
 kernel_rfl
theorem jl.r6  : jv Try.prog ⟨false, false, false⟩ (zQ Try.prog O) (reg Try.f58 6) (reg Try.f58 6).toList ([x0,b,x2,x3,x4,x5,x6,x7,x8,x9,d,f,g,i,k,l,m,n,o,p,q,r,s,t,u,w,x,y,z,c,A,B,C,D,E,F,G,H,I,J,K,L,M,N,P,Q,R,U,V,W,X,Y,Z,a0,a1,a2,a3,a4,a5,a6,a7,a8,a9,b0,b1,b2,b3,b4,b5,b6,b7,b8,b9,c0]) S =
  (zF (jX Try.prog BinOp.eql 3 c (Value.int IntKind.i64 1) S) (fun v0 S1 => some ([x0,b,x2,x3,x4,x5,x6,x7,x8,x9,d,f,g,i,k,l,m,n,o,p,q,r,s,t,u,w,x,y,z,c,A,B,C,D,E,v0,dem v0,H,I,J,K,L,M,N,P,Q,R,U,V,W,X,Y,Z,a0,a1,a2,a3,a4,a5,a6,a7,a8,a9,b0,b1,b2,b3,b4,b5,b6,b7,b8,b9,c0], S1)) ()) := by
 kernel_rfl
theorem jl.r7  : jv Try.prog ⟨false, false, false⟩ (zQ Try.prog O) (reg Try.f58 7) (reg Try.f58 7).toList ([x0,b,x2,x3,x4,x5,x6,x7,x8,x9,d,f,g,i,k,l,m,n,o,p,q,r,s,t,u,w,x,y,z,c,A,B,C,D,E,F,G,H,I,J,K,L,M,N,P,Q,R,U,V,W,X,Y,Z,a0,a1,a2,a3,a4,a5,a6,a7,a8,a9,b0,b1,b2,b3,b4,b5,b6,b7,b8,b9,c0]) S =
  (zF (zo Try.prog 48 b 7 S) (fun v0 S1 => zF (zZ Try.prog false 46 v0 S1) (fun v1 S2 => zF ((zQ Try.prog O) 45 [(dem v1)] S2) (fun v2 S3 => some ([x0,b,v2,x3,x4,x5,x6,x7,x8,x9,d,f,g,i,k,l,m,n,o,p,q,r,s,t,u,w,x,y,z,c,A,B,C,D,E,F,G,v0,v1,dem v2,K,L,M,N,P,Q,R,U,V,W,X,Y,Z,a0,a1,a2,a3,a4,a5,a6,a7,a8,a9,b0,b1,b2,b3,b4,b5,b6,b7,b8,b9,c0], S3)) ()) ()) ()) := by
 kernel_rfl
theorem jl.r8  : jv Try.prog ⟨false, false, false⟩ (zQ Try.prog O) (reg Try.f58 8) (reg Try.f58 8).toList ([x0,b,x2,x3,x4,x5,x6,x7,x8,x9,d,f,g,i,k,l,m,n,o,p,q,r,s,t,u,w,x,y,z,c,A,B,C,D,E,F,G,H,I,J,K,L,M,N,P,Q,R,U,V,W,X,Y,Z,a0,a1,a2,a3,a4,a5,a6,a7,a8,a9,b0,b1,b2,b3,b4,b5,b6,b7,b8,b9,c0]) S =
  (zF (jX Try.prog BinOp.eql 3 c (Value.int IntKind.i64 3) S) (fun v0 S1 => some ([x0,b,x2,x3,x4,x5,x6,x7,x8,x9,d,f,g,i,k,l,m,n,o,p,q,r,s,t,u,w,x,y,z,c,A,B,C,D,E,F,G,H,I,J,v0,dem v0,M,N,P,Q,R,U,V,W,X,Y,Z,a0,a1,a2,a3,a4,a5,a6,a7,a8,a9,b0,b1,b2,b3,b4,b5,b6,b7,b8,b9,c0], S1)) ()) := by
 kernel_rfl
theorem jl.r9  : jv Try.prog ⟨false, false, false⟩ (zQ Try.prog O) (reg Try.f58 9) (reg Try.f58 9).toList ([x0,b,x2,x3,x4,x5,x6,x7,x8,x9,d,f,g,i,k,l,m,n,o,p,q,r,s,t,u,w,x,y,z,c,A,B,C,D,E,F,G,H,I,J,K,L,M,N,P,Q,R,U,V,W,X,Y,Z,a0,a1,a2,a3,a4,a5,a6,a7,a8,a9,b0,b1,b2,b3,b4,b5,b6,b7,b8,b9,c0]) S =
  (zF (zo Try.prog 48 b 5 S) (fun v0 S1 => zF (zZ Try.prog false 3 v0 S1) (fun v1 S2 => zF (jX Try.prog BinOp.lss 3 v1 (Value.int IntKind.i64 (-1)) S2) (fun v2 S3 => gdK (dem v2) false (zo Try.prog 48 b 5) S3 (fun v4 S4 => gdK (dem v2) false (zZ Try.prog false 3 v4) S4 (fun v5 S5 => gdK (dem v2) false (zo Try.prog 48 b 3) S5 (fun v6 S6 => gdK (dem v2) false (zZ Try.prog false 3 v6) S6 (fun v7 S7 => gdK (dem v2) false (jX Try.prog BinOp.geq 3 v5 v7) S7 (fun v8 S8 => zF (wP (dem v2) (Value.bool true) v8 S8) (fun v9 S9 => some ([x0,b,x2,x3,x4,x5,x6,x7,x8,x9,d,f,g,i,k,l,m,n,o,p,q,r,s,t,u,w,x,y,z,c,A,B,C,D,E,F,G,H,I,J,K,L,v0,v1,v2,dem v2,v4,v5,v6,v7,v8,v9,Z,a0,a1,a2,a3,a4,a5,a6,a7,a8,a9,b0,b1,b2,b3,b4,b5,b6,b7,b8,b9,c0], S9)) ()) ()) ()) ()) ()) ()) ()) ()) ()) := by
 refine sD Try.f58 9 0 (fun v0 S1 => ?_)
 refine sD Try.f58 9 1 (fun v1 S2 => ?_)
 refine sD Try.f58 9 2 (fun v2 S3 => ?_)
 refine sP Try.f58 9 3 (v := v2) ?_
 refine sG Try.f58 9 4 (j := 3) (fun v4 S4 => ?_)
 refine sG Try.f58 9 5 (j := 3) (fun v5 S5 => ?_)
 refine sG Try.f58 9 6 (j := 3) (fun v6 S6 => ?_)
 refine sG Try.f58 9 7 (j := 3) (fun v7 S7 => ?_)
 refine sG Try.f58 9 8 (j := 3) (fun v8 S8 => ?_)
 refine sD Try.f58 9 9 (fun v9 S9 => ?_)
 kernel_rfl
theorem jl.r10  : jv Try.prog ⟨false, false, false⟩ (zQ Try.prog O) (reg Try.f58 10) (reg Try.f58 10).toList ([x0,b,x2,x3,x4,x5,x6,x7,x8,x9,d,f,g,i,k,l,m,n,o,p,q,r,s,t,u,w,x,y,z,c,A,B,C,D,E,F,G,H,I,J,K,L,M,N,P,Q,R,U,V,W,X,Y,Z,a0,a1,a2,a3,a4,a5,a6,a7,a8,a9,b0,b1,b2,b3,b4,b5,b6,b7,b8,b9,c0]) S =
  ( some ([x0,b,Value.bool false,x3,x4,x5,x6,x7,x8,x9,d,f,g,i,k,l,m,n,o,p,q,r,s,t,u,w,x,y,z,c,A,B,C,D,E,F,G,H,I,J,K,L,M,N,P,Q,R,U,V,W,X,Y,Z,a0,a1,a2,a3,a4,a5,a6,a7,a8,a9,b0,b1,b2,b3,b4,b5,b6,b7,b8,b9,c0], S)) := by
 kernel_rfl
theorem jl.r11  : jv Try.prog ⟨false, false, false⟩ (zQ Try.prog O) (reg Try.f58 11) (reg Try.f58 11).toList ([x0,b,x2,x3,x4,x5,x6,x7,x8,x9,d,f,g,i,k,l,m,n,o,p,q,r,s,t,u,w,x,y,z,c,A,B,C,D,E,F,G,H,I,J,K,L,M,N,P,Q,R,U,V,W,X,Y,Z,a0,a1,a2,a3,a4,a5,a6,a7,a8,a9,b0,b1,b2,b3,b4,b5,b6,b7,b8,b9,c0]) S =
  (zF (zo Try.prog 48 b 2 S) (fun v0 S1 => zF (zZ Try.prog false 3 v0 S1) (fun v1 S2 => zF (jX Try.prog BinOp.geq 3 v1 (Value.int IntKind.i64 0) S2) (fun v2 S3 => gdK (dem v2) true (zo Try.prog 48 b 2) S3 (fun v4 S4 => gdK (dem v2) true (zZ Try.prog false 3 v4) S4 (fun v5 S5 => gdK (dem v2) true (jX Try.prog BinOp.leq 3 v5 (Value.int IntKind.i64 1000)) S5 (fun v6 S6 => zF (wP (dem v2) v6 (Value.bool false) S6) (fun v7 S7 => gdK (dem v7) true (zo Try.prog 48 b 3) S7 (fun v9 S8 => gdK (dem v7) true (zZ Try.prog false 3 v9) S8 (fun c5 S9 => gdK (dem v7) true (jX Try.prog BinOp.geq 3 c5 (Value.int IntKind.i64 0)) S9 (fun c6 d4 => zF (wP (dem v7) c6 (Value.bool false) d4) (fun c2 d5 => gdK (dem c2) true (zo Try.prog 48 b 3) d5 (fun c3 d6 => gdK (dem c2) true (zZ Try.prog false 3 c3) d6 (fun c7 d7 => gdK (dem c2) true (jX Try.prog BinOp.leq 3 c7 (Value.int IntKind.i64 1000)) d7 (fun c8 d8 => zF (wP (dem c2) c8 (Value.bool false) d8) (fun c1 d2 => gdK (dem c1) true (zZ Try.prog false 48 b) d2 (fun c9 d9 => gdK (dem c1) true ((zQ Try.prog O) 69 [(dem c9)]) d9 (fun d0 f0 => zF (wP (dem c1) d0 (Value.bool false) f0) (fun c4 d3 => some ([x0,b,c4,x3,x4,x5,x6,x7,x8,x9,d,f,g,i,k,l,m,n,o,p,q,r,s,t,u,w,x,y,z,c,A,B,C,D,E,F,G,H,I,J,K,L,M,N,P,Q,R,U,V,W,X,Y,v0,v1,v2,dem v2,v4,v5,v6,v7,dem v7,v9,c5,c6,c2,dem c2,c3,c7,c8,c1,dem c1,c9,d0,dem c4], d3)) ()) ()) ()) ()) ()) ()) ()) ()) ()) ()) ()) ()) ()) ()) ()) ()) ()) ()) := by
 refine sD Try.f58 11 0 (fun v0 S1 => ?_)
 refine sD Try.f58 11 1 (fun v1 S2 => ?_)
 refine sD Try.f58 11 2 (fun v2 S3 => ?_)
 refine sP Try.f58 11 3 (v := v2) ?_
 refine sG Try.f58 11 4 (j := 3) (fun v4 S4 => ?_)
 refine sG Try.f58 11 5 (j := 3) (fun v5 S5 => ?_)
 refine sG Try.f58 11 6 (j := 3) (fun v6 S6 => ?_)
 refine sD Try.f58 11 7 (fun v7 S7 => ?_)
 refine sP Try.f58 11 8 (v := v7) ?_
 refine sG Try.f58 11 9 (j := 8) (fun v9 S8 => ?_)
 refine sG Try.f58 11 10 (j := 8) (fun c5 S9 => ?_)
 refine sG Try.f58 11 11 (j := 8) (fun c6 d4 => ?_)
 refine sD Try.f58 11 12 (fun c2 d5 => ?_)
 refine sP Try.f58 11 13 (v := c2) ?_
 refine sG Try.f58 11 14 (j := 13) (fun c3 d6 => ?_)
 refine sG Try.f58 11 15 (j := 13) (fun c7 d7 => ?_)
 refine sG Try.f58 11 16 (j := 13) (fun c8 d8 => ?_)
 refine sD Try.f58 11 17 (fun c1 d2 => ?_)
 refine sP Try.f58 11 18 (v := c1) ?_
 refine sG Try.f58 11 19 (j := 18) (fun c9 d9 => ?_)
 refine sG Try.f58 11 20 (j := 18) (fun d0 f0 => ?_)
 refine sD Try.f58 11 21 (fun c4 d3 => ?_)
 refine sP Try.f58 11 22 (v := c4) ?_
 kernel_rfl
theorem jl.rs : type_of% (And.intro @jl.r0 (And.intro @jl.r1 (And.intro @jl.r2 (And.intro @jl.r3 (And.intro @jl.r4 (And.intro @jl.r5 (And.intro @jl.r6 (And.intro @jl.r7 (And.intro @jl.r8 (And.intro @jl.r9 (And.intro @jl.r10 (@jl.r11)))))))))))) := And.intro @jl.r0 (And.intro @jl.r1 (And.intro @jl.r2 (And.intro @jl.r3 (And.intro @jl.r4 (And.intro @jl.r5 (And.intro @jl.r6 (And.intro @jl.r7 (And.intro @jl.r8 (And.intro @jl.r9 (And.intro @jl.r10 (@jl.r11)))))))))))
theorem jl.runs {x0 : Value} {S S1 : zi} {e : AEx} {T : List Value} (h : zA Try.prog O false jl.code ([x0,undef,undef,undef,undef,undef,undef,undef,undef,undef,undef,undef,undef,undef,undef,undef,undef,undef,undef,undef,undef,undef,undef,undef,undef,undef,undef,undef,undef,undef,undef,undef,undef,undef,undef,undef,undef,undef,undef,undef,undef,undef,undef,undef,undef,undef,undef,undef,undef,undef,undef,undef,undef,undef,undef,undef,undef,undef,undef,undef,undef,undef,undef,undef,undef,undef,undef,undef,undef,undef,undef,undef,undef,undef]) zi.empty = some (e, T, S1)) (he : e = .normal ∨ e = .ret) (hca : [x0].all (jH 16) = true) (hcv : jH 16 (T.getD 2 undef) = true) : zQ Try.prog O 58 [x0] S = some (T.getD 2 undef, S) :=
 wZ rfl rfl Try.func58 (by decide) jl.body (by exact h) he (wV (a := T.getD 2 undef) ((show zG Try.prog T S1 Try.f58.results.toList = zG Try.prog T S1 [(ResultVar.tmp 2)] from by kernel_rfl).trans (by simp only [zG])) (by kernel_rfl)) hca hcv
end Go.Proofs.Ytfjogganfjkckaa
namespace Go.Proofs.Ytfjogganfjkckaa
open Go.Abs
abbrev zh.id : FuncId := 34
noncomputable def zh.code : Code := (Code.seq (Code.region 0 (reg Try.f34 0) false) (Code.seq (Code.seq (Code.region 1 (reg Try.f34 1) false) (Code.cond (Operand.tmp 12) (Code.seq (Code.region 2 (reg Try.f34 2) false) Code.ret) Code.skip)) (Code.seq (Code.seq (Code.region 3 (reg Try.f34 3) false) (Code.cond (Operand.tmp 42) (Code.seq (Code.region 4 (reg Try.f34 4) false) Code.ret) Code.skip)) (Code.seq (Code.region 5 (reg Try.f34 5) false) (Code.seq (Code.region 6 (reg Try.f34 6) false) (Code.seq (Code.seq (Code.region 7 (reg Try.f34 7) false) (Code.block 0 (Code.seq (Code.region 8 (reg Try.f34 8) false) (Code.cond (Operand.tmp 61) (Code.seq (Code.region 9 (reg Try.f34 9) false) Code.ret) (Code.seq (Code.region 10 (reg Try.f34 10) false) (Code.cond (Operand.tmp 81) (Code.seq (Code.region 11 (reg Try.f34 11) false) Code.ret) (Code.seq (Code.region 12 (reg Try.f34 12) false) (Code.cond (Operand.tmp 101) (Code.seq (Code.region 13 (reg Try.f34 13) false) Code.ret) (Code.seq (Code.region 14 (reg Try.f34 14) false) (Code.cond (Operand.tmp 116) (Code.seq (Code.region 15 (reg Try.f34 15) false) Code.ret) (Code.seq (Code.seq (Code.region 16 (reg Try.f34 16) false) (Code.cond (Operand.tmp 139) Code.skip (Code.region 17 (reg Try.f34 17) false))) (Code.cond (Operand.tmp 139) (Code.seq (Code.region 18 (reg Try.f34 18) false) Code.ret) (Code.seq (Code.region 19 (reg Try.f34 19) false) (Code.cond (Operand.tmp 156) (Code.seq (Code.region 20 (reg Try.f34 20) false) Code.ret) Code.skip)))))))))))))) (Code.seq (Code.region 21 (reg Try.f34 21) false) Code.ret)))))))
theorem zh.body : Try.f34.body = some zh.code := by kernel_rfl
variable (x0 x1 x2 x3 x4 x5 x6 x7 x8 x9 c6 c7 c8 c9 d0 d1 d2 d3 d4 d5 d6 d7 d8 d9 f0 f1 f2 f3 f4 f5 f6 f7 f8 f9 g0 g1 g2 g3 g4 g5 g6 g7 g8 g9 i0 i1 i2 i3 i4 i5 i6 i7 i8 i9 j0 j1 j2 j3 j4 j5 c5 j6 j7 j8 j9 k0 k1 k2 k3 k4 k5 k6 k7 k8 k9 l0 l1 l2 l3 l4 l5 l6 l7 l8 l9 m0 m1 m2 m3 m4 m5 m6 m7 m8 m9 n0 n1 n2 n3 n4 b c d f g i k l m n o p q r s t u w x y z A B C D E F G H I J K L M N P Q R U c4 V W X Y Z a0 a1 a2 a3 a4 a5 a6 a7 a8 a9 b0 b1 b2 b3 b4 b5 b6 b7 b8 b9 c0 c1 c2 c3 : Value) (S : zi)
theorem zh.r0  : jv Try.prog ⟨false, false, false⟩ (zQ Try.prog O) (reg Try.f34 0) (reg Try.f34 0).toList ([x0,x1,x2,x3,x4,x5,x6,x7,x8,x9,c6,c7,c8,c9,d0,d1,d2,d3,d4,d5,d6,d7,d8,d9,f0,f1,f2,f3,f4,f5,f6,f7,f8,f9,g0,g1,g2,g3,g4,g5,g6,g7,g8,g9,i0,i1,i2,i3,i4,i5,i6,i7,i8,i9,j0,j1,j2,j3,j4,j5,c5,j6,j7,j8,j9,k0,k1,k2,k3,k4,k5,k6,k7,k8,k9,l0,l1,l2,l3,l4,l5,l6,l7,l8,l9,m0,m1,m2,m3,m4,m5,m6,m7,m8,m9,n0,n1,n2,n3,n4,b,c,d,f,g,i,k,l,m,n,o,p,q,r,s,t,u,w,x,y,z,A,B,C,D,E,F,G,H,I,J,K,L,M,N,P,Q,R,U,c4,V,W,X,Y,Z,a0,a1,a2,a3,a4,a5,a6,a7,a8,a9,b0,b1,b2,b3,b4,b5,b6,b7,b8,b9,c0,c1,c2,c3]) S =
  (zF (Jo (dem x0) S) (fun v0 S1 => some ([x0,v0,Value.bool false,x3,x4,x5,x6,x7,x8,x9,c6,c7,c8,c9,d0,d1,d2,d3,d4,d5,d6,d7,d8,d9,f0,f1,f2,f3,f4,f5,f6,f7,f8,f9,g0,g1,g2,g3,g4,g5,g6,g7,g8,g9,i0,i1,i2,i3,i4,i5,i6,i7,i8,i9,j0,j1,j2,j3,j4,j5,c5,j6,j7,j8,j9,k0,k1,k2,k3,k4,k5,k6,k7,k8,k9,l0,l1,l2,l3,l4,l5,l6,l7,l8,l9,m0,m1,m2,m3,m4,m5,m6,m7,m8,m9,n0,n1,n2,n3,n4,b,c,d,f,g,i,k,l,m,n,o,p,q,r,s,t,u,w,x,y,z,A,B,C,D,E,F,G,H,I,J,K,L,M,N,P,Q,R,U,c4,V,W,X,Y,Z,a0,a1,a2,a3,a4,a5,a6,a7,a8,a9,b0,b1,b2,b3,b4,b5,b6,b7,b8,b9,c0,c1,c2,c3], S1)) ()) := by
 kernel_rfl
theorem zh.r1  : jv Try.prog ⟨false, false, false⟩ (zQ Try.prog O) (reg Try.f34 1) (reg Try.f34 1).toList ([x0,x1,x2,x3,x4,x5,x6,x7,x8,x9,c6,c7,c8,c9,d0,d1,d2,d3,d4,d5,d6,d7,d8,d9,f0,f1,f2,f3,f4,f5,f6,f7,f8,f9,g0,g1,g2,g3,g4,g5,g6,g7,g8,g9,i0,i1,i2,i3,i4,i5,i6,i7,i8,i9,j0,j1,j2,j3,j4,j5,c5,j6,j7,j8,j9,k0,k1,k2,k3,k4,k5,k6,k7,k8,k9,l0,l1,l2,l3,l4,l5,l6,l7,l8,l9,m0,m1,m2,m3,m4,m5,m6,m7,m8,m9,n0,n1,n2,n3,n4,b,c,d,f,g,i,k,l,m,n,o,p,q,r,s,t,u,w,x,y,z,A,B,C,D,E,F,G,H,I,J,K,L,M,N,P,Q,R,U,c4,V,W,X,Y,Z,a0,a1,a2,a3,a4,a5,a6,a7,a8,a9,b0,b1,b2,b3,b4,b5,b6,b7,b8,b9,c0,c1,c2,c3]) S =
  (zF (zo Try.prog 48 x1 1 S) (fun v0 S1 => zF (zZ Try.prog false 3 v0 S1) (fun v1 S2 => zF (jX Try.prog BinOp.lss 3 v1 (Value.int IntKind.i64 0) S2) (fun v2 S3 => gdK (dem v2) false (zo Try.prog 48 x1 1) S3 (fun v4 S4 => gdK (dem v2) false (zZ Try.prog false 3 v4) S4 (fun v5 S5 => gdK (dem v2) false (jX Try.prog BinOp.gtr 3 v5 (Value.int IntKind.i64 6)) S5 (fun v6 S6 => zF (wP (dem v2) (Value.bool true) v6 S6) (fun v7 S7 => some ([x0,x1,x2,x3,x4,v0,v1,v2,dem v2,v4,v5,v6,v7,c9,d0,d1,d2,d3,d4,d5,d6,d7,d8,d9,f0,f1,f2,f3,f4,f5,f6,f7,f8,f9,g0,g1,g2,g3,g4,g5,g6,g7,g8,g9,i0,i1,i2,i3,i4,i5,i6,i7,i8,i9,j0,j1,j2,j3,j4,j5,c5,j6,j7,j8,j9,k0,k1,k2,k3,k4,k5,k6,k7,k8,k9,l0,l1,l2,l3,l4,l5,l6,l7,l8,l9,m0,m1,m2,m3,m4,m5,m6,m7,m8,m9,n0,n1,n2,n3,n4,b,c,d,f,g,i,k,l,m,n,o,p,q,r,s,t,u,w,x,y,z,A,B,C,D,E,F,G,H,I,J,K,L,M,N,P,Q,R,U,c4,V,W,X,Y,Z,a0,a1,a2,a3,a4,a5,a6,a7,a8,a9,b0,b1,b2,b3,b4,b5,b6,b7,b8,b9,c0,c1,c2,c3], S7)) ()) ()) ()) ()) ()) ()) ()) := by
 refine sD Try.f34 1 0 (fun v0 S1 => ?_)
 refine sD Try.f34 1 1 (fun v1 S2 => ?_)
 refine sD Try.f34 1 2 (fun v2 S3 => ?_)
 refine sP Try.f34 1 3 (v := v2) ?_
 refine sG Try.f34 1 4 (j := 3) (fun v4 S4 => ?_)
 refine sG Try.f34 1 5 (j := 3) (fun v5 S5 => ?_)
 refine sG Try.f34 1 6 (j := 3) (fun v6 S6 => ?_)
 refine sD Try.f34 1 7 (fun v7 S7 => ?_)
 kernel_rfl
theorem zh.r2  : jv Try.prog ⟨false, false, false⟩ (zQ Try.prog O) (reg Try.f34 2) (reg Try.f34 2).toList ([x0,x1,x2,x3,x4,x5,x6,x7,x8,x9,c6,c7,c8,c9,d0,d1,d2,d3,d4,d5,d6,d7,d8,d9,f0,f1,f2,f3,f4,f5,f6,f7,f8,f9,g0,g1,g2,g3,g4,g5,g6,g7,g8,g9,i0,i1,i2,i3,i4,i5,i6,i7,i8,i9,j0,j1,j2,j3,j4,j5,c5,j6,j7,j8,j9,k0,k1,k2,k3,k4,k5,k6,k7,k8,k9,l0,l1,l2,l3,l4,l5,l6,l7,l8,l9,m0,m1,m2,m3,m4,m5,m6,m7,m8,m9,n0,n1,n2,n3,n4,b,c,d,f,g,i,k,l,m,n,o,p,q,r,s,t,u,w,x,y,z,A,B,C,D,E,F,G,H,I,J,K,L,M,N,P,Q,R,U,c4,V,W,X,Y,Z,a0,a1,a2,a3,a4,a5,a6,a7,a8,a9,b0,b1,b2,b3,b4,b5,b6,b7,b8,b9,c0,c1,c2,c3]) S =
  ( some ([x0,x1,Value.bool false,x3,x4,x5,x6,x7,x8,x9,c6,c7,c8,c9,d0,d1,d2,d3,d4,d5,d6,d7,d8,d9,f0,f1,f2,f3,f4,f5,f6,f7,f8,f9,g0,g1,g2,g3,g4,g5,g6,g7,g8,g9,i0,i1,i2,i3,i4,i5,i6,i7,i8,i9,j0,j1,j2,j3,j4,j5,c5,j6,j7,j8,j9,k0,k1,k2,k3,k4,k5,k6,k7,k8,k9,l0,l1,l2,l3,l4,l5,l6,l7,l8,l9,m0,m1,m2,m3,m4,m5,m6,m7,m8,m9,n0,n1,n2,n3,n4,b,c,d,f,g,i,k,l,m,n,o,p,q,r,s,t,u,w,x,y,z,A,B,C,D,E,F,G,H,I,J,K,L,M,N,P,Q,R,U,c4,V,W,X,Y,Z,a0,a1,a2,a3,a4,a5,a6,a7,a8,a9,b0,b1,b2,b3,b4,b5,b6,b7,b8,b9,c0,c1,c2,c3], S)) := by
 kernel_rfl
theorem zh.r3  : jv Try.prog ⟨false, false, false⟩ (zQ Try.prog O) (reg Try.f34 3) (reg Try.f34 3).toList ([x0,x1,x2,x3,x4,x5,x6,x7,x8,x9,c6,c7,c8,c9,d0,d1,d2,d3,d4,d5,d6,d7,d8,d9,f0,f1,f2,f3,f4,f5,f6,f7,f8,f9,g0,g1,g2,g3,g4,g5,g6,g7,g8,g9,i0,i1,i2,i3,i4,i5,i6,i7,i8,i9,j0,j1,j2,j3,j4,j5,c5,j6,j7,j8,j9,k0,k1,k2,k3,k4,k5,k6,k7,k8,k9,l0,l1,l2,l3,l4,l5,l6,l7,l8,l9,m0,m1,m2,m3,m4,m5,m6,m7,m8,m9,n0,n1,n2,n3,n4,b,c,d,f,g,i,k,l,m,n,o,p,q,r,s,t,u,w,x,y,z,A,B,C,D,E,F,G,H,I,J,K,L,M,N,P,Q,R,U,c4,V,W,X,Y,Z,a0,a1,a2,a3,a4,a5,a6,a7,a8,a9,b0,b1,b2,b3,b4,b5,b6,b7,b8,b9,c0,c1,c2,c3]) S =
  (zF (zo Try.prog 48 x1 0 S) (fun v0 S1 => zF (zZ Try.prog false 3 v0 S1) (fun v1 S2 => zF (jX Try.prog BinOp.neq 3 v1 (Value.int IntKind.i64 0) S2) (fun v2 S3 => gdK (dem v2) true (zo Try.prog 48 x1 6) S3 (fun v4 S4 => gdK (dem v2) true (zZ Try.prog false 43 v4) S4 (fun v5 S5 => gdK (dem v2) true (yu Try.prog 43 []) S5 (fun v6 S6 => gdK (dem v2) true (jX Try.prog BinOp.neq 43 v5 v6) S6 (fun v7 S7 => zF (wP (dem v2) v7 (Value.bool false) S7) (fun v8 S8 => gdK (dem v8) false (zo Try.prog 48 x1 0) S8 (fun n6 S9 => gdK (dem v8) false (zZ Try.prog false 3 n6) S9 (fun n7 n9 => gdK (dem v8) false (jX Try.prog BinOp.neq 3 n7 (Value.int IntKind.i64 1)) n9 (fun n5 o0 => gdK (dem v8) false (ret n5) o0 (fun n8 o5 => gdK (dem n8) true (zo Try.prog 48 x1 7) o5 (fun o6 o7 => gdK (dem n8) true (zZ Try.prog false 46 o6) o7 (fun o2 o8 => gdK (dem n8) true ((zQ Try.prog O) 52 [(dem o2)]) o8 (fun o3 o9 => gdK (dem n8) true (aUn Try.prog UnOp.not o3) o9 (fun o1 p2 => gdK (dem v8) false (wP (dem n8) o1 (Value.bool false)) p2 (fun p0 q1 => zF (wP (dem v8) (Value.bool true) p0 q1) (fun o4 q2 => gdK (dem o4) false (zo Try.prog 48 x1 0) q2 (fun p4 q3 => gdK (dem o4) false (zZ Try.prog false 3 p4) q3 (fun p5 q4 => gdK (dem o4) false (jX Try.prog BinOp.neq 3 p5 (Value.int IntKind.i64 3)) q4 (fun p6 q5 => gdK (dem o4) false (ret p6) q5 (fun p1 q6 => gdK (dem p1) true (zo Try.prog 48 x1 5) q6 (fun p7 q7 => gdK (dem p1) true (zZ Try.prog false 3 p7) q7 (fun p8 q8 => gdK (dem p1) true (jX Try.prog BinOp.neq 3 p8 (Value.int IntKind.i64 0)) q8 (fun p9 q9 => gdK (dem o4) false (wP (dem p1) p9 (Value.bool false)) q9 (fun q0 s0 => zF (wP (dem o4) (Value.bool true) q0 s0) (fun s1 s2 => some ([x0,x1,x2,x3,x4,x5,x6,x7,x8,x9,c6,c7,c8,v0,v1,v2,dem v2,v4,v5,v6,v7,v8,dem v8,n6,n7,n5,dem n8,o6,o2,o3,o1,p0,o4,dem o4,p4,p5,p6,dem p1,p7,p8,p9,q0,s1,g9,i0,i1,i2,i3,i4,i5,i6,i7,i8,i9,j0,j1,j2,j3,j4,j5,c5,j6,j7,j8,j9,k0,k1,k2,k3,k4,k5,k6,k7,k8,k9,l0,l1,l2,l3,l4,l5,l6,l7,l8,l9,m0,m1,m2,m3,m4,m5,m6,m7,m8,m9,n0,n1,n2,n3,n4,b,c,d,f,g,i,k,l,m,n,o,p,q,r,s,t,u,w,x,y,z,A,B,C,D,E,F,G,H,I,J,K,L,M,N,P,Q,R,U,c4,V,W,X,Y,Z,a0,a1,a2,a3,a4,a5,a6,a7,a8,a9,b0,b1,b2,b3,b4,b5,b6,b7,b8,b9,c0,c1,c2,c3], s2)) ()) ()) ()) ()) ()) ()) ()) ()) ()) ()) ()) ()) ()) ()) ()) ()) ()) ()) ()) ()) ()) ()) ()) ()) ()) ()) ()) := by
 refine sD Try.f34 3 0 (fun v0 S1 => ?_)
 refine sD Try.f34 3 1 (fun v1 S2 => ?_)
 refine sD Try.f34 3 2 (fun v2 S3 => ?_)
 refine sP Try.f34 3 3 (v := v2) ?_
 refine sG Try.f34 3 4 (j := 3) (fun v4 S4 => ?_)
 refine sG Try.f34 3 5 (j := 3) (fun v5 S5 => ?_)
 refine sG Try.f34 3 6 (j := 3) (fun v6 S6 => ?_)
 refine sG Try.f34 3 7 (j := 3) (fun v7 S7 => ?_)
 refine sD Try.f34 3 8 (fun v8 S8 => ?_)
 refine sP Try.f34 3 9 (v := v8) ?_
 refine sG Try.f34 3 10 (j := 9) (fun n6 S9 => ?_)
 refine sG Try.f34 3 11 (j := 9) (fun n7 n9 => ?_)
 refine sG Try.f34 3 12 (j := 9) (fun n5 o0 => ?_)
 refine sG Try.f34 3 13 (j := 9) (fun n8 o5 => ?_)
 refine sG Try.f34 3 14 (j := 13) (fun o6 o7 => ?_)
 refine sG Try.f34 3 15 (j := 13) (fun o2 o8 => ?_)
 refine sG Try.f34 3 16 (j := 13) (fun o3 o9 => ?_)
 refine sG Try.f34 3 17 (j := 13) (fun o1 p2 => ?_)
 refine sG Try.f34 3 18 (j := 9) (fun p0 q1 => ?_)
 refine sD Try.f34 3 19 (fun o4 q2 => ?_)
 refine sP Try.f34 3 20 (v := o4) ?_
 refine sG Try.f34 3 21 (j := 20) (fun p4 q3 => ?_)
 refine sG Try.f34 3 22 (j := 20) (fun p5 q4 => ?_)
 refine sG Try.f34 3 23 (j := 20) (fun p6 q5 => ?_)
 refine sG Try.f34 3 24 (j := 20) (fun p1 q6 => ?_)
 refine sG Try.f34 3 25 (j := 24) (fun p7 q7 => ?_)
 refine sG Try.f34 3 26 (j := 24) (fun p8 q8 => ?_)
 refine sG Try.f34 3 27 (j := 24) (fun p9 q9 => ?_)
 refine sG Try.f34 3 28 (j := 20) (fun q0 s0 => ?_)
 refine sD Try.f34 3 29 (fun s1 s2 => ?_)
 kernel_rfl
theorem zh.r4  : jv Try.prog ⟨false, false, false⟩ (zQ Try.prog O) (reg Try.f34 4) (reg Try.f34 4).toList ([x0,x1,x2,x3,x4,x5,x6,x7,x8,x9,c6,c7,c8,c9,d0,d1,d2,d3,d4,d5,d6,d7,d8,d9,f0,f1,f2,f3,f4,f5,f6,f7,f8,f9,g0,g1,g2,g3,g4,g5,g6,g7,g8,g9,i0,i1,i2,i3,i4,i5,i6,i7,i8,i9,j0,j1,j2,j3,j4,j5,c5,j6,j7,j8,j9,k0,k1,k2,k3,k4,k5,k6,k7,k8,k9,l0,l1,l2,l3,l4,l5,l6,l7,l8,l9,m0,m1,m2,m3,m4,m5,m6,m7,m8,m9,n0,n1,n2,n3,n4,b,c,d,f,g,i,k,l,m,n,o,p,q,r,s,t,u,w,x,y,z,A,B,C,D,E,F,G,H,I,J,K,L,M,N,P,Q,R,U,c4,V,W,X,Y,Z,a0,a1,a2,a3,a4,a5,a6,a7,a8,a9,b0,b1,b2,b3,b4,b5,b6,b7,b8,b9,c0,c1,c2,c3]) S =
  ( some ([x0,x1,Value.bool false,x3,x4,x5,x6,x7,x8,x9,c6,c7,c8,c9,d0,d1,d2,d3,d4,d5,d6,d7,d8,d9,f0,f1,f2,f3,f4,f5,f6,f7,f8,f9,g0,g1,g2,g3,g4,g5,g6,g7,g8,g9,i0,i1,i2,i3,i4,i5,i6,i7,i8,i9,j0,j1,j2,j3,j4,j5,c5,j6,j7,j8,j9,k0,k1,k2,k3,k4,k5,k6,k7,k8,k9,l0,l1,l2,l3,l4,l5,l6,l7,l8,l9,m0,m1,m2,m3,m4,m5,m6,m7,m8,m9,n0,n1,n2,n3,n4,b,c,d,f,g,i,k,l,m,n,o,p,q,r,s,t,u,w,x,y,z,A,B,C,D,E,F,G,H,I,J,K,L,M,N,P,Q,R,U,c4,V,W,X,Y,Z,a0,a1,a2,a3,a4,a5,a6,a7,a8,a9,b0,b1,b2,b3,b4,b5,b6,b7,b8,b9,c0,c1,c2,c3], S)) := by
 kernel_rfl
theorem zh.r5  : jv Try.prog ⟨false, false, false⟩ (zQ Try.prog O) (reg Try.f34 5) (reg Try.f34 5).toList ([x0,x1,x2,x3,x4,x5,x6,x7,x8,x9,c6,c7,c8,c9,d0,d1,d2,d3,d4,d5,d6,d7,d8,d9,f0,f1,f2,f3,f4,f5,f6,f7,f8,f9,g0,g1,g2,g3,g4,g5,g6,g7,g8,g9,i0,i1,i2,i3,i4,i5,i6,i7,i8,i9,j0,j1,j2,j3,j4,j5,c5,j6,j7,j8,j9,k0,k1,k2,k3,k4,k5,k6,k7,k8,k9,l0,l1,l2,l3,l4,l5,l6,l7,l8,l9,m0,m1,m2,m3,m4,m5,m6,m7,m8,m9,n0,n1,n2,n3,n4,b,c,d,f,g,i,k,l,m,n,o,p,q,r,s,t,u,w,x,y,z,A,B,C,D,E,F,G,H,I,J,K,L,M,N,P,Q,R,U,c4,V,W,X,Y,Z,a0,a1,a2,a3,a4,a5,a6,a7,a8,a9,b0,b1,b2,b3,b4,b5,b6,b7,b8,b9,c0,c1,c2,c3]) S =
  (zF (zo Try.prog 48 x1 3 S) (fun v0 S1 => zF (zZ Try.prog false 3 v0 S1) (fun v1 S2 => zF (jX Try.prog BinOp.geq 3 v1 (Value.int IntKind.i64 0) S2) (fun v2 S3 => gdK (dem v2) true (zo Try.prog 48 x1 3) S3 (fun v4 S4 => gdK (dem v2) true (zZ Try.prog false 3 v4) S4 (fun v5 S5 => gdK (dem v2) true (jX Try.prog BinOp.leq 3 v5 (Value.int IntKind.i64 1000)) S5 (fun v6 S6 => zF (wP (dem v2) v6 (Value.bool false) S6) (fun v7 S7 => some ([x0,x1,x2,v7,x4,x5,x6,x7,x8,x9,c6,c7,c8,c9,d0,d1,d2,d3,d4,d5,d6,d7,d8,d9,f0,f1,f2,f3,f4,f5,f6,f7,f8,f9,g0,g1,g2,g3,g4,g5,g6,g7,g8,v0,v1,v2,dem v2,v4,v5,v6,dem v7,i7,i8,i9,j0,j1,j2,j3,j4,j5,c5,j6,j7,j8,j9,k0,k1,k2,k3,k4,k5,k6,k7,k8,k9,l0,l1,l2,l3,l4,l5,l6,l7,l8,l9,m0,m1,m2,m3,m4,m5,m6,m7,m8,m9,n0,n1,n2,n3,n4,b,c,d,f,g,i,k,l,m,n,o,p,q,r,s,t,u,w,x,y,z,A,B,C,D,E,F,G,H,I,J,K,L,M,N,P,Q,R,U,c4,V,W,X,Y,Z,a0,a1,a2,a3,a4,a5,a6,a7,a8,a9,b0,b1,b2,b3,b4,b5,b6,b7,b8,b9,c0,c1,c2,c3], S7)) ()) ()) ()) ()) ()) ()) ()) := by
 refine sD Try.f34 5 0 (fun v0 S1 => ?_)
 refine sD Try.f34 5 1 (fun v1 S2 => ?_)
 refine sD Try.f34 5 2 (fun v2 S3 => ?_)
 refine sP Try.f34 5 3 (v := v2) ?_
 refine sG Try.f34 5 4 (j := 3) (fun v4 S4 => ?_)
 refine sG Try.f34 5 5 (j := 3) (fun v5 S5 => ?_)
 refine sG Try.f34 5 6 (j := 3) (fun v6 S6 => ?_)
 refine sD Try.f34 5 7 (fun v7 S7 => ?_)
 refine sP Try.f34 5 8 (v := v7) ?_
 kernel_rfl
theorem zh.r6  : jv Try.prog ⟨false, false, false⟩ (zQ Try.prog O) (reg Try.f34 6) (reg Try.f34 6).toList ([x0,x1,x2,x3,x4,x5,x6,x7,x8,x9,c6,c7,c8,c9,d0,d1,d2,d3,d4,d5,d6,d7,d8,d9,f0,f1,f2,f3,f4,f5,f6,f7,f8,f9,g0,g1,g2,g3,g4,g5,g6,g7,g8,g9,i0,i1,i2,i3,i4,i5,i6,i7,i8,i9,j0,j1,j2,j3,j4,j5,c5,j6,j7,j8,j9,k0,k1,k2,k3,k4,k5,k6,k7,k8,k9,l0,l1,l2,l3,l4,l5,l6,l7,l8,l9,m0,m1,m2,m3,m4,m5,m6,m7,m8,m9,n0,n1,n2,n3,n4,b,c,d,f,g,i,k,l,m,n,o,p,q,r,s,t,u,w,x,y,z,A,B,C,D,E,F,G,H,I,J,K,L,M,N,P,Q,R,U,c4,V,W,X,Y,Z,a0,a1,a2,a3,a4,a5,a6,a7,a8,a9,b0,b1,b2,b3,b4,b5,b6,b7,b8,b9,c0,c1,c2,c3]) S =
  (zF (zo Try.prog 48 x1 2 S) (fun v0 S1 => zF (zZ Try.prog false 3 v0 S1) (fun v1 S2 => zF (jX Try.prog BinOp.geq 3 v1 (Value.int IntKind.i64 0) S2) (fun v2 S3 => gdK (dem v2) true (zo Try.prog 48 x1 2) S3 (fun v4 S4 => gdK (dem v2) true (zZ Try.prog false 3 v4) S4 (fun v5 S5 => gdK (dem v2) true (jX Try.prog BinOp.leq 3 v5 (Value.int IntKind.i64 1000)) S5 (fun v6 S6 => zF (wP (dem v2) v6 (Value.bool false) S6) (fun v7 S7 => some ([x0,x1,x2,x3,v7,x5,x6,x7,x8,x9,c6,c7,c8,c9,d0,d1,d2,d3,d4,d5,d6,d7,d8,d9,f0,f1,f2,f3,f4,f5,f6,f7,f8,f9,g0,g1,g2,g3,g4,g5,g6,g7,g8,g9,i0,i1,i2,i3,i4,i5,i6,v0,v1,v2,dem v2,v4,v5,v6,dem v7,j5,c5,j6,j7,j8,j9,k0,k1,k2,k3,k4,k5,k6,k7,k8,k9,l0,l1,l2,l3,l4,l5,l6,l7,l8,l9,m0,m1,m2,m3,m4,m5,m6,m7,m8,m9,n0,n1,n2,n3,n4,b,c,d,f,g,i,k,l,m,n,o,p,q,r,s,t,u,w,x,y,z,A,B,C,D,E,F,G,H,I,J,K,L,M,N,P,Q,R,U,c4,V,W,X,Y,Z,a0,a1,a2,a3,a4,a5,a6,a7,a8,a9,b0,b1,b2,b3,b4,b5,b6,b7,b8,b9,c0,c1,c2,c3], S7)) ()) ()) ()) ()) ()) ()) ()) := by
 refine sD Try.f34 6 0 (fun v0 S1 => ?_)
 refine sD Try.f34 6 1 (fun v1 S2 => ?_)
 refine sD Try.f34 6 2 (fun v2 S3 => ?_)
 refine sP Try.f34 6 3 (v := v2) ?_
 refine sG Try.f34 6 4 (j := 3) (fun v4 S4 => ?_)
 refine sG Try.f34 6 5 (j := 3) (fun v5 S5 => ?_)
 refine sG Try.f34 6 6 (j := 3) (fun v6 S6 => ?_)
 refine sD Try.f34 6 7 (fun v7 S7 => ?_)
 refine sP Try.f34 6 8 (v := v7) ?_
 kernel_rfl
theorem zh.r7  : jv Try.prog ⟨false, false, false⟩ (zQ Try.prog O) (reg Try.f34 7) (reg Try.f34 7).toList ([x0,x1,x2,x3,x4,x5,x6,x7,x8,x9,c6,c7,c8,c9,d0,d1,d2,d3,d4,d5,d6,d7,d8,d9,f0,f1,f2,f3,f4,f5,f6,f7,f8,f9,g0,g1,g2,g3,g4,g5,g6,g7,g8,g9,i0,i1,i2,i3,i4,i5,i6,i7,i8,i9,j0,j1,j2,j3,j4,j5,c5,j6,j7,j8,j9,k0,k1,k2,k3,k4,k5,k6,k7,k8,k9,l0,l1,l2,l3,l4,l5,l6,l7,l8,l9,m0,m1,m2,m3,m4,m5,m6,m7,m8,m9,n0,n1,n2,n3,n4,b,c,d,f,g,i,k,l,m,n,o,p,q,r,s,t,u,w,x,y,z,A,B,C,D,E,F,G,H,I,J,K,L,M,N,P,Q,R,U,c4,V,W,X,Y,Z,a0,a1,a2,a3,a4,a5,a6,a7,a8,a9,b0,b1,b2,b3,b4,b5,b6,b7,b8,b9,c0,c1,c2,c3]) S =
  (zF (zo Try.prog 48 x1 0 S) (fun v0 S1 => zF (zZ Try.prog false 3 v0 S1) (fun v1 S2 => some ([x0,x1,x2,x3,x4,x5,x6,x7,x8,x9,c6,c7,c8,c9,d0,d1,d2,d3,d4,d5,d6,d7,d8,d9,f0,f1,f2,f3,f4,f5,f6,f7,f8,f9,g0,g1,g2,g3,g4,g5,g6,g7,g8,g9,i0,i1,i2,i3,i4,i5,i6,i7,i8,i9,j0,j1,j2,j3,j4,v0,v1,j6,j7,j8,j9,k0,k1,k2,k3,k4,k5,k6,k7,k8,k9,l0,l1,l2,l3,l4,l5,l6,l7,l8,l9,m0,m1,m2,m3,m4,m5,m6,m7,m8,m9,n0,n1,n2,n3,n4,b,c,d,f,g,i,k,l,m,n,o,p,q,r,s,t,u,w,x,y,z,A,B,C,D,E,F,G,H,I,J,K,L,M,N,P,Q,R,U,c4,V,W,X,Y,Z,a0,a1,a2,a3,a4,a5,a6,a7,a8,a9,b0,b1,b2,b3,b4,b5,b6,b7,b8,b9,c0,c1,c2,c3], S2)) ()) ()) := by
 kernel_rfl
theorem zh.r8  : jv Try.prog ⟨false, false, false⟩ (zQ Try.prog O) (reg Try.f34 8) (reg Try.f34 8).toList ([x0,x1,x2,x3,x4,x5,x6,x7,x8,x9,c6,c7,c8,c9,d0,d1,d2,d3,d4,d5,d6,d7,d8,d9,f0,f1,f2,f3,f4,f5,f6,f7,f8,f9,g0,g1,g2,g3,g4,g5,g6,g7,g8,g9,i0,i1,i2,i3,i4,i5,i6,i7,i8,i9,j0,j1,j2,j3,j4,j5,c5,j6,j7,j8,j9,k0,k1,k2,k3,k4,k5,k6,k7,k8,k9,l0,l1,l2,l3,l4,l5,l6,l7,l8,l9,m0,m1,m2,m3,m4,m5,m6,m7,m8,m9,n0,n1,n2,n3,n4,b,c,d,f,g,i,k,l,m,n,o,p,q,r,s,t,u,w,x,y,z,A,B,C,D,E,F,G,H,I,J,K,L,M,N,P,Q,R,U,c4,V,W,X,Y,Z,a0,a1,a2,a3,a4,a5,a6,a7,a8,a9,b0,b1,b2,b3,b4,b5,b6,b7,b8,b9,c0,c1,c2,c3]) S =
  (zF (jX Try.prog BinOp.eql 3 c5 (Value.int IntKind.i64 0) S) (fun v0 S1 => some ([x0,x1,x2,x3,x4,x5,x6,x7,x8,x9,c6,c7,c8,c9,d0,d1,d2,d3,d4,d5,d6,d7,d8,d9,f0,f1,f2,f3,f4,f5,f6,f7,f8,f9,g0,g1,g2,g3,g4,g5,g6,g7,g8,g9,i0,i1,i2,i3,i4,i5,i6,i7,i8,i9,j0,j1,j2,j3,j4,j5,c5,v0,dem v0,j8,j9,k0,k1,k2,k3,k4,k5,k6,k7,k8,k9,l0,l1,l2,l3,l4,l5,l6,l7,l8,l9,m0,m1,m2,m3,m4,m5,m6,m7,m8,m9,n0,n1,n2,n3,n4,b,c,d,f,g,i,k,l,m,n,o,p,q,r,s,t,u,w,x,y,z,A,B,C,D,E,F,G,H,I,J,K,L,M,N,P,Q,R,U,c4,V,W,X,Y,Z,a0,a1,a2,a3,a4,a5,a6,a7,a8,a9,b0,b1,b2,b3,b4,b5,b6,b7,b8,b9,c0,c1,c2,c3], S1)) ()) := by
 kernel_rfl
theorem zh.r9  : jv Try.prog ⟨false, false, false⟩ (zQ Try.prog O) (reg Try.f34 9) (reg Try.f34 9).toList ([x0,x1,x2,x3,x4,x5,x6,x7,x8,x9,c6,c7,c8,c9,d0,d1,d2,d3,d4,d5,d6,d7,d8,d9,f0,f1,f2,f3,f4,f5,f6,f7,f8,f9,g0,g1,g2,g3,g4,g5,g6,g7,g8,g9,i0,i1,i2,i3,i4,i5,i6,i7,i8,i9,j0,j1,j2,j3,j4,j5,c5,j6,j7,j8,j9,k0,k1,k2,k3,k4,k5,k6,k7,k8,k9,l0,l1,l2,l3,l4,l5,l6,l7,l8,l9,m0,m1,m2,m3,m4,m5,m6,m7,m8,m9,n0,n1,n2,n3,n4,b,c,d,f,g,i,k,l,m,n,o,p,q,r,s,t,u,w,x,y,z,A,B,C,D,E,F,G,H,I,J,K,L,M,N,P,Q,R,U,c4,V,W,X,Y,Z,a0,a1,a2,a3,a4,a5,a6,a7,a8,a9,b0,b1,b2,b3,b4,b5,b6,b7,b8,b9,c0,c1,c2,c3]) S =
  (zF (zo Try.prog 48 x1 2 S) (fun v0 S1 => zF (zZ Try.prog false 3 v0 S1) (fun v1 S2 => zF (jX Try.prog BinOp.eql 3 v1 (Value.int IntKind.i64 0) S2) (fun v2 S3 => gdK (dem v2) true (zo Try.prog 48 x1 3) S3 (fun v4 S4 => gdK (dem v2) true (zZ Try.prog false 3 v4) S4 (fun v5 S5 => gdK (dem v2) true (jX Try.prog BinOp.eql 3 v5 (Value.int IntKind.i64 0)) S5 (fun v6 S6 => zF (wP (dem v2) v6 (Value.bool false) S6) (fun v7 S7 => gdK (dem v7) true (zo Try.prog 48 x1 4) S7 (fun v9 S8 => gdK (dem v7) true (zZ Try.prog false 3 v9) S8 (fun n6 S9 => gdK (dem v7) true (jX Try.prog BinOp.eql 3 n6 (Value.int IntKind.i64 0)) S9 (fun n7 n9 => zF (wP (dem v7) n7 (Value.bool false) n9) (fun n5 o0 => gdK (dem n5) true (zo Try.prog 48 x1 6) o0 (fun o6 o5 => gdK (dem n5) true (zZ Try.prog false 43 o6) o5 (fun o2 o7 => gdK (dem n5) true ((zQ Try.prog O) 48 [(dem o2)]) o7 (fun o3 o8 => zF (wP (dem n5) o3 (Value.bool false) o8) (fun o1 o9 => some ([x0,x1,o1,x3,x4,x5,x6,x7,x8,x9,c6,c7,c8,c9,d0,d1,d2,d3,d4,d5,d6,d7,d8,d9,f0,f1,f2,f3,f4,f5,f6,f7,f8,f9,g0,g1,g2,g3,g4,g5,g6,g7,g8,g9,i0,i1,i2,i3,i4,i5,i6,i7,i8,i9,j0,j1,j2,j3,j4,j5,c5,j6,j7,v0,v1,v2,dem v2,v4,v5,v6,v7,dem v7,v9,n6,n7,n5,dem n5,o6,o2,o3,dem o1,l6,l7,l8,l9,m0,m1,m2,m3,m4,m5,m6,m7,m8,m9,n0,n1,n2,n3,n4,b,c,d,f,g,i,k,l,m,n,o,p,q,r,s,t,u,w,x,y,z,A,B,C,D,E,F,G,H,I,J,K,L,M,N,P,Q,R,U,c4,V,W,X,Y,Z,a0,a1,a2,a3,a4,a5,a6,a7,a8,a9,b0,b1,b2,b3,b4,b5,b6,b7,b8,b9,c0,c1,c2,c3], o9)) ()) ()) ()) ()) ()) ()) ()) ()) ()) ()) ()) ()) ()) ()) ()) := by
 refine sD Try.f34 9 0 (fun v0 S1 => ?_)
 refine sD Try.f34 9 1 (fun v1 S2 => ?_)
 refine sD Try.f34 9 2 (fun v2 S3 => ?_)
 refine sP Try.f34 9 3 (v := v2) ?_
 refine sG Try.f34 9 4 (j := 3) (fun v4 S4 => ?_)
 refine sG Try.f34 9 5 (j := 3) (fun v5 S5 => ?_)
 refine sG Try.f34 9 6 (j := 3) (fun v6 S6 => ?_)
 refine sD Try.f34 9 7 (fun v7 S7 => ?_)
 refine sP Try.f34 9 8 (v := v7) ?_
 refine sG Try.f34 9 9 (j := 8) (fun v9 S8 => ?_)
 refine sG Try.f34 9 10 (j := 8) (fun n6 S9 => ?_)
 refine sG Try.f34 9 11 (j := 8) (fun n7 n9 => ?_)
 refine sD Try.f34 9 12 (fun n5 o0 => ?_)
 refine sP Try.f34 9 13 (v := n5) ?_
 refine sG Try.f34 9 14 (j := 13) (fun o6 o5 => ?_)
 refine sG Try.f34 9 15 (j := 13) (fun o2 o7 => ?_)
 refine sG Try.f34 9 16 (j := 13) (fun o3 o8 => ?_)
 refine sD Try.f34 9 17 (fun o1 o9 => ?_)
 refine sP Try.f34 9 18 (v := o1) ?_
 kernel_rfl
theorem zh.r10  : jv Try.prog ⟨false, false, false⟩ (zQ Try.prog O) (reg Try.f34 10) (reg Try.f34 10).toList ([x0,x1,x2,x3,x4,x5,x6,x7,x8,x9,c6,c7,c8,c9,d0,d1,d2,d3,d4,d5,d6,d7,d8,d9,f0,f1,f2,f3,f4,f5,f6,f7,f8,f9,g0,g1,g2,g3,g4,g5,g6,g7,g8,g9,i0,i1,i2,i3,i4,i5,i6,i7,i8,i9,j0,j1,j2,j3,j4,j5,c5,j6,j7,j8,j9,k0,k1,k2,k3,k4,k5,k6,k7,k8,k9,l0,l1,l2,l3,l4,l5,l6,l7,l8,l9,m0,m1,m2,m3,m4,m5,m6,m7,m8,m9,n0,n1,n2,n3,n4,b,c,d,f,g,i,k,l,m,n,o,p,q,r,s,t,u,w,x,y,z,A,B,C,D,E,F,G,H,I,J,K,L,M,N,P,Q,R,U,c4,V,W,X,Y,Z,a0,a1,a2,a3,a4,a5,a6,a7,a8,a9,b0,b1,b2,b3,b4,b5,b6,b7,b8,b9,c0,c1,c2,c3]) S =
  (zF (jX Try.prog BinOp.eql 3 c5 (Value.int IntKind.i64 1) S) (fun v0 S1 => some ([x0,x1,x2,x3,x4,x5,x6,x7,x8,x9,c6,c7,c8,c9,d0,d1,d2,d3,d4,d5,d6,d7,d8,d9,f0,f1,f2,f3,f4,f5,f6,f7,f8,f9,g0,g1,g2,g3,g4,g5,g6,g7,g8,g9,i0,i1,i2,i3,i4,i5,i6,i7,i8,i9,j0,j1,j2,j3,j4,j5,c5,j6,j7,j8,j9,k0,k1,k2,k3,k4,k5,k6,k7,k8,k9,l0,l1,l2,l3,l4,l5,v0,dem v0,l8,l9,m0,m1,m2,m3,m4,m5,m6,m7,m8,m9,n0,n1,n2,n3,n4,b,c,d,f,g,i,k,l,m,n,o,p,q,r,s,t,u,w,x,y,z,A,B,C,D,E,F,G,H,I,J,K,L,M,N,P,Q,R,U,c4,V,W,X,Y,Z,a0,a1,a2,a3,a4,a5,a6,a7,a8,a9,b0,b1,b2,b3,b4,b5,b6,b7,b8,b9,c0,c1,c2,c3], S1)) ()) := by
 kernel_rfl
theorem zh.r11  : jv Try.prog ⟨false, false, false⟩ (zQ Try.prog O) (reg Try.f34 11) (reg Try.f34 11).toList ([x0,x1,x2,x3,x4,x5,x6,x7,x8,x9,c6,c7,c8,c9,d0,d1,d2,d3,d4,d5,d6,d7,d8,d9,f0,f1,f2,f3,f4,f5,f6,f7,f8,f9,g0,g1,g2,g3,g4,g5,g6,g7,g8,g9,i0,i1,i2,i3,i4,i5,i6,i7,i8,i9,j0,j1,j2,j3,j4,j5,c5,j6,j7,j8,j9,k0,k1,k2,k3,k4,k5,k6,k7,k8,k9,l0,l1,l2,l3,l4,l5,l6,l7,l8,l9,m0,m1,m2,m3,m4,m5,m6,m7,m8,m9,n0,n1,n2,n3,n4,b,c,d,f,g,i,k,l,m,n,o,p,q,r,s,t,u,w,x,y,z,A,B,C,D,E,F,G,H,I,J,K,L,M,N,P,Q,R,U,c4,V,W,X,Y,Z,a0,a1,a2,a3,a4,a5,a6,a7,a8,a9,b0,b1,b2,b3,b4,b5,b6,b7,b8,b9,c0,c1,c2,c3]) S =
  (zF (zo Try.prog 48 x1 2 S) (fun v0 S1 => zF (zZ Try.prog false 3 v0 S1) (fun v1 S2 => zF (jX Try.prog BinOp.eql 3 v1 (Value.int IntKind.i64 0) S2) (fun v2 S3 => gdK (dem v2) true (zo Try.prog 48 x1 3) S3 (fun v4 S4 => gdK (dem v2) true (zZ Try.prog false 3 v4) S4 (fun v5 S5 => gdK (dem v2) true (jX Try.prog BinOp.eql 3 v5 (Value.int IntKind.i64 0)) S5 (fun v6 S6 => zF (wP (dem v2) v6 (Value.bool false) S6) (fun v7 S7 => gdK (dem v7) true (zo Try.prog 48 x1 4) S7 (fun v9 S8 => gdK (dem v7) true (zZ Try.prog false 3 v9) S8 (fun n6 S9 => gdK (dem v7) true (jX Try.prog BinOp.eql 3 n6 (Value.int IntKind.i64 0)) S9 (fun n7 n9 => zF (wP (dem v7) n7 (Value.bool false) n9) (fun n5 o0 => gdK (dem n5) true (zo Try.prog 48 x1 7) o0 (fun o6 o5 => gdK (dem n5) true (zZ Try.prog false 46 o6) o5 (fun o2 o7 => gdK (dem n5) true ((zQ Try.prog O) 32 [(dem o2)]) o7 (fun o3 o8 => zF (wP (dem n5) o3 (Value.bool false) o8) (fun o1 o9 => some ([x0,x1,o1,x3,x4,x5,x6,x7,x8,x9,c6,c7,c8,c9,d0,d1,d2,d3,d4,d5,d6,d7,d8,d9,f0,f1,f2,f3,f4,f5,f6,f7,f8,f9,g0,g1,g2,g3,g4,g5,g6,g7,g8,g9,i0,i1,i2,i3,i4,i5,i6,i7,i8,i9,j0,j1,j2,j3,j4,j5,c5,j6,j7,j8,j9,k0,k1,k2,k3,k4,k5,k6,k7,k8,k9,l0,l1,l2,l3,l4,l5,l6,l7,v0,v1,v2,dem v2,v4,v5,v6,v7,dem v7,v9,n6,n7,n5,dem n5,o6,o2,o3,dem o1,c,d,f,g,i,k,l,m,n,o,p,q,r,s,t,u,w,x,y,z,A,B,C,D,E,F,G,H,I,J,K,L,M,N,P,Q,R,U,c4,V,W,X,Y,Z,a0,a1,a2,a3,a4,a5,a6,a7,a8,a9,b0,b1,b2,b3,b4,b5,b6,b7,b8,b9,c0,c1,c2,c3], o9)) ()) ()) ()) ()) ()) ()) ()) ()) ()) ()) ()) ()) ()) ()) ()) := by
 refine sD Try.f34 11 0 (fun v0 S1 => ?_)
 refine sD Try.f34 11 1 (fun v1 S2 => ?_)
 refine sD Try.f34 11 2 (fun v2 S3 => ?_)
 refine sP Try.f34 11 3 (v := v2) ?_
 refine sG Try.f34 11 4 (j := 3) (fun v4 S4 => ?_)
 refine sG Try.f34 11 5 (j := 3) (fun v5 S5 => ?_)
 refine sG Try.f34 11 6 (j := 3) (fun v6 S6 => ?_)
 refine sD Try.f34 11 7 (fun v7 S7 => ?_)
 refine sP Try.f34 11 8 (v := v7) ?_
 refine sG Try.f34 11 9 (j := 8) (fun v9 S8 => ?_)
 refine sG Try.f34 11 10 (j := 8) (fun n6 S9 => ?_)
 refine sG Try.f34 11 11 (j := 8) (fun n7 n9 => ?_)
 refine sD Try.f34 11 12 (fun n5 o0 => ?_)
 refine sP Try.f34 11 13 (v := n5) ?_
 refine sG Try.f34 11 14 (j := 13) (fun o6 o5 => ?_)
 refine sG Try.f34 11 15 (j := 13) (fun o2 o7 => ?_)
 refine sG Try.f34 11 16 (j := 13) (fun o3 o8 => ?_)
 refine sD Try.f34 11 17 (fun o1 o9 => ?_)
 refine sP Try.f34 11 18 (v := o1) ?_
 kernel_rfl
theorem zh.r12  : jv Try.prog ⟨false, false, false⟩ (zQ Try.prog O) (reg Try.f34 12) (reg Try.f34 12).toList ([x0,x1,x2,x3,x4,x5,x6,x7,x8,x9,c6,c7,c8,c9,d0,d1,d2,d3,d4,d5,d6,d7,d8,d9,f0,f1,f2,f3,f4,f5,f6,f7,f8,f9,g0,g1,g2,g3,g4,g5,g6,g7,g8,g9,i0,i1,i2,i3,i4,i5,i6,i7,i8,i9,j0,j1,j2,j3,j4,j5,c5,j6,j7,j8,j9,k0,k1,k2,k3,k4,k5,k6,k7,k8,k9,l0,l1,l2,l3,l4,l5,l6,l7,l8,l9,m0,m1,m2,m3,m4,m5,m6,m7,m8,m9,n0,n1,n2,n3,n4,b,c,d,f,g,i,k,l,m,n,o,p,q,r,s,t,u,w,x,y,z,A,B,C,D,E,F,G,H,I,J,K,L,M,N,P,Q,R,U,c4,V,W,X,Y,Z,a0,a1,a2,a3,a4,a5,a6,a7,a8,a9,b0,b1,b2,b3,b4,b5,b6,b7,b8,b9,c0,c1,c2,c3]) S =
  (zF (jX Try.prog BinOp.eql 3 c5 (Value.int IntKind.i64 2) S) (fun v0 S1 => some ([x0,x1,x2,x3,x4,x5,x6,x7,x8,x9,c6,c7,c8,c9,d0,d1,d2,d3,d4,d5,d6,d7,d8,d9,f0,f1,f2,f3,f4,f5,f6,f7,f8,f9,g0,g1,g2,g3,g4,g5,g6,g7,g8,g9,i0,i1,i2,i3,i4,i5,i6,i7,i8,i9,j0,j1,j2,j3,j4,j5,c5,j6,j7,j8,j9,k0,k1,k2,k3,k4,k5,k6,k7,k8,k9,l0,l1,l2,l3,l4,l5,l6,l7,l8,l9,m0,m1,m2,m3,m4,m5,m6,m7,m8,m9,n0,n1,n2,n3,n4,b,v0,dem v0,f,g,i,k,l,m,n,o,p,q,r,s,t,u,w,x,y,z,A,B,C,D,E,F,G,H,I,J,K,L,M,N,P,Q,R,U,c4,V,W,X,Y,Z,a0,a1,a2,a3,a4,a5,a6,a7,a8,a9,b0,b1,b2,b3,b4,b5,b6,b7,b8,b9,c0,c1,c2,c3], S1)) ()) := by
 kernel_rfl
theorem zh.r13  : jv Try.prog ⟨false, false, false⟩ (zQ Try.prog O) (reg Try.f34 13) (reg Try.f34 13).toList ([x0,x1,x2,x3,x4,x5,x6,x7,x8,x9,c6,c7,c8,c9,d0,d1,d2,d3,d4,d5,d6,d7,d8,d9,f0,f1,f2,f3,f4,f5,f6,f7,f8,f9,g0,g1,g2,g3,g4,g5,g6,g7,g8,g9,i0,i1,i2,i3,i4,i5,i6,i7,i8,i9,j0,j1,j2,j3,j4,j5,c5,j6,j7,j8,j9,k0,k1,k2,k3,k4,k5,k6,k7,k8,k9,l0,l1,l2,l3,l4,l5,l6,l7,l8,l9,m0,m1,m2,m3,m4,m5,m6,m7,m8,m9,n0,n1,n2,n3,n4,b,c,d,f,g,i,k,l,m,n,o,p,q,r,s,t,u,w,x,y,z,A,B,C,D,E,F,G,H,I,J,K,L,M,N,P,Q,R,U,c4,V,W,X,Y,Z,a0,a1,a2,a3,a4,a5,a6,a7,a8,a9,b0,b1,b2,b3,b4,b5,b6,b7,b8,b9,c0,c1,c2,c3]) S =
  (zF (zo Try.prog 48 x1 2 S) (fun v0 S1 => zF (zZ Try.prog false 3 v0 S1) (fun v1 S2 => zF (jX Try.prog BinOp.eql 3 v1 (Value.int IntKind.i64 0) S2) (fun v2 S3 => gdK (dem v2) true (zo Try.prog 48 x1 3) S3 (fun v4 S4 => gdK (dem v2) true (zZ Try.prog false 3 v4) S4 (fun v5 S5 => gdK (dem v2) true (jX Try.prog BinOp.eql 3 v5 (Value.int IntKind.i64 0)) S5 (fun v6 S6 => zF (wP (dem v2) v6 (Value.bool false) S6) (fun v7 S7 => gdK (dem v7) true (zo Try.prog 48 x1 4) S7 (fun v9 S8 => gdK (dem v7) true (zZ Try.prog false 3 v9) S8 (fun n6 S9 => gdK (dem v7) true ((zQ Try.prog O) 53 [(dem n6)]) S9 (fun n7 n9 => zF (wP (dem v7) n7 (Value.bool false) n9) (fun n5 o0 => some ([x0,x1,n5,x3,x4,x5,x6,x7,x8,x9,c6,c7,c8,c9,d0,d1,d2,d3,d4,d5,d6,d7,d8,d9,f0,f1,f2,f3,f4,f5,f6,f7,f8,f9,g0,g1,g2,g3,g4,g5,g6,g7,g8,g9,i0,i1,i2,i3,i4,i5,i6,i7,i8,i9,j0,j1,j2,j3,j4,j5,c5,j6,j7,j8,j9,k0,k1,k2,k3,k4,k5,k6,k7,k8,k9,l0,l1,l2,l3,l4,l5,l6,l7,l8,l9,m0,m1,m2,m3,m4,m5,m6,m7,m8,m9,n0,n1,n2,n3,n4,b,c,d,v0,v1,v2,dem v2,v4,v5,v6,v7,dem v7,v9,n6,n7,dem n5,u,w,x,y,z,A,B,C,D,E,F,G,H,I,J,K,L,M,N,P,Q,R,U,c4,V,W,X,Y,Z,a0,a1,a2,a3,a4,a5,a6,a7,a8,a9,b0,b1,b2,b3,b4,b5,b6,b7,b8,b9,c0,c1,c2,c3], o0)) ()) ()) ()) ()) ()) ()) ()) ()) ()) ()) ()) := by
 refine sD Try.f34 13 0 (fun v0 S1 => ?_)
 refine sD Try.f34 13 1 (fun v1 S2 => ?_)
 refine sD Try.f34 13 2 (fun v2 S3 => ?_)
 refine sP Try.f34 13 3 (v := v2) ?_
 refine sG Try.f34 13 4 (j := 3) (fun v4 S4 => ?_)
 refine sG Try.f34 13 5 (j := 3) (fun v5 S5 => ?_)
 refine sG Try.f34 13 6 (j := 3) (fun v6 S6 => ?_)
 refine sD Try.f34 13 7 (fun v7 S7 => ?_)
 refine sP Try.f34 13 8 (v := v7) ?_
 refine sG Try.f34 13 9 (j := 8) (fun v9 S8 => ?_)
 refine sG Try.f34 13 10 (j := 8) (fun n6 S9 => ?_)
 refine sG Try.f34 13 11 (j := 8) (fun n7 n9 => ?_)
 refine sD Try.f34 13 12 (fun n5 o0 => ?_)
 refine sP Try.f34 13 13 (v := n5) ?_
 kernel_rfl
theorem zh.r14  : jv Try.prog ⟨false, false, false⟩ (zQ Try.prog O) (reg Try.f34 14) (reg Try.f34 14).toList ([x0,x1,x2,x3,x4,x5,x6,x7,x8,x9,c6,c7,c8,c9,d0,d1,d2,d3,d4,d5,d6,d7,d8,d9,f0,f1,f2,f3,f4,f5,f6,f7,f8,f9,g0,g1,g2,g3,g4,g5,g6,g7,g8,g9,i0,i1,i2,i3,i4,i5,i6,i7,i8,i9,j0,j1,j2,j3,j4,j5,c5,j6,j7,j8,j9,k0,k1,k2,k3,k4,k5,k6,k7,k8,k9,l0,l1,l2,l3,l4,l5,l6,l7,l8,l9,m0,m1,m2,m3,m4,m5,m6,m7,m8,m9,n0,n1,n2,n3,n4,b,c,d,f,g,i,k,l,m,n,o,p,q,r,s,t,u,w,x,y,z,A,B,C,D,E,F,G,H,I,J,K,L,M,N,P,Q,R,U,c4,V,W,X,Y,Z,a0,a1,a2,a3,a4,a5,a6,a7,a8,a9,b0,b1,b2,b3,b4,b5,b6,b7,b8,b9,c0,c1,c2,c3]) S =
  (zF (jX Try.prog BinOp.eql 3 c5 (Value.int IntKind.i64 3) S) (fun v0 S1 => some ([x0,x1,x2,x3,x4,x5,x6,x7,x8,x9,c6,c7,c8,c9,d0,d1,d2,d3,d4,d5,d6,d7,d8,d9,f0,f1,f2,f3,f4,f5,f6,f7,f8,f9,g0,g1,g2,g3,g4,g5,g6,g7,g8,g9,i0,i1,i2,i3,i4,i5,i6,i7,i8,i9,j0,j1,j2,j3,j4,j5,c5,j6,j7,j8,j9,k0,k1,k2,k3,k4,k5,k6,k7,k8,k9,l0,l1,l2,l3,l4,l5,l6,l7,l8,l9,m0,m1,m2,m3,m4,m5,m6,m7,m8,m9,n0,n1,n2,n3,n4,b,c,d,f,g,i,k,l,m,n,o,p,q,r,s,t,v0,dem v0,x,y,z,A,B,C,D,E,F,G,H,I,J,K,L,M,N,P,Q,R,U,c4,V,W,X,Y,Z,a0,a1,a2,a3,a4,a5,a6,a7,a8,a9,b0,b1,b2,b3,b4,b5,b6,b7,b8,b9,c0,c1,c2,c3], S1)) ()) := by
 kernel_rfl
theorem zh.r15  : jv Try.prog ⟨false, false, false⟩ (zQ Try.prog O) (reg Try.f34 15) (reg Try.f34 15).toList ([x0,x1,x2,x3,x4,x5,x6,x7,x8,x9,c6,c7,c8,c9,d0,d1,d2,d3,d4,d5,d6,d7,d8,d9,f0,f1,f2,f3,f4,f5,f6,f7,f8,f9,g0,g1,g2,g3,g4,g5,g6,g7,g8,g9,i0,i1,i2,i3,i4,i5,i6,i7,i8,i9,j0,j1,j2,j3,j4,j5,c5,j6,j7,j8,j9,k0,k1,k2,k3,k4,k5,k6,k7,k8,k9,l0,l1,l2,l3,l4,l5,l6,l7,l8,l9,m0,m1,m2,m3,m4,m5,m6,m7,m8,m9,n0,n1,n2,n3,n4,b,c,d,f,g,i,k,l,m,n,o,p,q,r,s,t,u,w,x,y,z,A,B,C,D,E,F,G,H,I,J,K,L,M,N,P,Q,R,U,c4,V,W,X,Y,Z,a0,a1,a2,a3,a4,a5,a6,a7,a8,a9,b0,b1,b2,b3,b4,b5,b6,b7,b8,b9,c0,c1,c2,c3]) S =
  (gdK (dem x4) true (ret x3) S (fun v2 S1 => zF (wP (dem x4) (dem v2) (Value.bool false) S1) (fun v3 S2 => gdK (dem v3) true (zo Try.prog 48 x1 4) S2 (fun v5 S3 => gdK (dem v3) true (zZ Try.prog false 3 v5) S3 (fun v6 S4 => gdK (dem v3) true ((zQ Try.prog O) 53 [(dem v6)]) S4 (fun v7 S5 => zF (wP (dem v3) v7 (Value.bool false) S5) (fun v8 S6 => gdK (dem v8) true (zo Try.prog 48 x1 5) S6 (fun n6 S7 => gdK (dem v8) true (zZ Try.prog false 3 n6) S7 (fun n7 S8 => gdK (dem v8) true (jX Try.prog BinOp.geq 3 n7 (Value.int IntKind.i64 (-1))) S8 (fun n5 S9 => zF (wP (dem v8) n5 (Value.bool false) S9) (fun n8 n9 => gdK (dem n8) true (zo Try.prog 48 x1 5) n9 (fun o2 o0 => gdK (dem n8) true (zZ Try.prog false 3 o2) o0 (fun o3 o5 => gdK (dem n8) true (zo Try.prog 48 x1 3) o5 (fun o1 o7 => gdK (dem n8) true (zZ Try.prog false 3 o1) o7 (fun p0 o8 => gdK (dem n8) true (jX Try.prog BinOp.lss 3 o3 p0) o8 (fun o4 o9 => zF (wP (dem n8) o4 (Value.bool false) o9) (fun p3 p2 => some ([x0,x1,p3,x3,dem x4,x5,x6,x7,x8,x9,c6,c7,c8,c9,d0,d1,d2,d3,d4,d5,d6,d7,d8,d9,f0,f1,f2,f3,f4,f5,f6,f7,f8,f9,g0,g1,g2,g3,g4,g5,g6,g7,g8,g9,i0,i1,i2,i3,i4,i5,i6,i7,i8,i9,j0,j1,j2,j3,j4,j5,c5,j6,j7,j8,j9,k0,k1,k2,k3,k4,k5,k6,k7,k8,k9,l0,l1,l2,l3,l4,l5,l6,l7,l8,l9,m0,m1,m2,m3,m4,m5,m6,m7,m8,m9,n0,n1,n2,n3,n4,b,c,d,f,g,i,k,l,m,n,o,p,q,r,s,t,u,w,x4,dem x4,dem v2,v3,dem v3,v5,v6,v7,v8,dem v8,n6,n7,n5,n8,dem n8,o2,o3,o1,p0,o4,dem p3,c4,V,W,X,Y,Z,a0,a1,a2,a3,a4,a5,a6,a7,a8,a9,b0,b1,b2,b3,b4,b5,b6,b7,b8,b9,c0,c1,c2,c3], p2)) ()) ()) ()) ()) ()) ()) ()) ()) ()) ()) ()) ()) ()) ()) ()) ()) := by
 refine sP Try.f34 15 0 (v := x4) ?_
 refine sP Try.f34 15 1 (v := x4) ?_
 refine sG Try.f34 15 2 (j := 1) (fun v2 S1 => ?_)
 refine sD Try.f34 15 3 (fun v3 S2 => ?_)
 refine sP Try.f34 15 4 (v := v3) ?_
 refine sG Try.f34 15 5 (j := 4) (fun v5 S3 => ?_)
 refine sG Try.f34 15 6 (j := 4) (fun v6 S4 => ?_)
 refine sG Try.f34 15 7 (j := 4) (fun v7 S5 => ?_)
 refine sD Try.f34 15 8 (fun v8 S6 => ?_)
 refine sP Try.f34 15 9 (v := v8) ?_
 refine sG Try.f34 15 10 (j := 9) (fun n6 S7 => ?_)
 refine sG Try.f34 15 11 (j := 9) (fun n7 S8 => ?_)
 refine sG Try.f34 15 12 (j := 9) (fun n5 S9 => ?_)
 refine sD Try.f34 15 13 (fun n8 n9 => ?_)
 refine sP Try.f34 15 14 (v := n8) ?_
 refine sG Try.f34 15 15 (j := 14) (fun o2 o0 => ?_)
 refine sG Try.f34 15 16 (j := 14) (fun o3 o5 => ?_)
 refine sG Try.f34 15 17 (j := 14) (fun o1 o7 => ?_)
 refine sG Try.f34 15 18 (j := 14) (fun p0 o8 => ?_)
 refine sG Try.f34 15 19 (j := 14) (fun o4 o9 => ?_)
 refine sD Try.f34 15 20 (fun p3 p2 => ?_)
 refine sP Try.f34 15 21 (v := p3) ?_
 kernel_rfl
theorem zh.r16  : jv Try.prog ⟨false, false, false⟩ (zQ Try.prog O) (reg Try.f34 16) (reg Try.f34 16).toList ([x0,x1,x2,x3,x4,x5,x6,x7,x8,x9,c6,c7,c8,c9,d0,d1,d2,d3,d4,d5,d6,d7,d8,d9,f0,f1,f2,f3,f4,f5,f6,f7,f8,f9,g0,g1,g2,g3,g4,g5,g6,g7,g8,g9,i0,i1,i2,i3,i4,i5,i6,i7,i8,i9,j0,j1,j2,j3,j4,j5,c5,j6,j7,j8,j9,k0,k1,k2,k3,k4,k5,k6,k7,k8,k9,l0,l1,l2,l3,l4,l5,l6,l7,l8,l9,m0,m1,m2,m3,m4,m5,m6,m7,m8,m9,n0,n1,n2,n3,n4,b,c,d,f,g,i,k,l,m,n,o,p,q,r,s,t,u,w,x,y,z,A,B,C,D,E,F,G,H,I,J,K,L,M,N,P,Q,R,U,c4,V,W,X,Y,Z,a0,a1,a2,a3,a4,a5,a6,a7,a8,a9,b0,b1,b2,b3,b4,b5,b6,b7,b8,b9,c0,c1,c2,c3]) S =
  (zF (jX Try.prog BinOp.eql 3 c5 (Value.int IntKind.i64 4) S) (fun v0 S1 => some ([x0,x1,x2,x3,x4,x5,x6,x7,x8,x9,c6,c7,c8,c9,d0,d1,d2,d3,d4,d5,d6,d7,d8,d9,f0,f1,f2,f3,f4,f5,f6,f7,f8,f9,g0,g1,g2,g3,g4,g5,g6,g7,g8,g9,i0,i1,i2,i3,i4,i5,i6,i7,i8,i9,j0,j1,j2,j3,j4,j5,c5,j6,j7,j8,j9,k0,k1,k2,k3,k4,k5,k6,k7,k8,k9,l0,l1,l2,l3,l4,l5,l6,l7,l8,l9,m0,m1,m2,m3,m4,m5,m6,m7,m8,m9,n0,n1,n2,n3,n4,b,c,d,f,g,i,k,l,m,n,o,p,q,r,s,t,u,w,x,y,z,A,B,C,D,E,F,G,H,I,J,K,L,M,N,P,Q,R,U,v0,dem v0,W,X,Y,Z,a0,a1,a2,a3,a4,a5,a6,a7,a8,a9,b0,b1,b2,b3,b4,b5,b6,b7,b8,b9,c0,c1,c2,c3], S1)) ()) := by
 kernel_rfl
theorem zh.r17  : jv Try.prog ⟨false, false, false⟩ (zQ Try.prog O) (reg Try.f34 17) (reg Try.f34 17).toList ([x0,x1,x2,x3,x4,x5,x6,x7,x8,x9,c6,c7,c8,c9,d0,d1,d2,d3,d4,d5,d6,d7,d8,d9,f0,f1,f2,f3,f4,f5,f6,f7,f8,f9,g0,g1,g2,g3,g4,g5,g6,g7,g8,g9,i0,i1,i2,i3,i4,i5,i6,i7,i8,i9,j0,j1,j2,j3,j4,j5,c5,j6,j7,j8,j9,k0,k1,k2,k3,k4,k5,k6,k7,k8,k9,l0,l1,l2,l3,l4,l5,l6,l7,l8,l9,m0,m1,m2,m3,m4,m5,m6,m7,m8,m9,n0,n1,n2,n3,n4,b,c,d,f,g,i,k,l,m,n,o,p,q,r,s,t,u,w,x,y,z,A,B,C,D,E,F,G,H,I,J,K,L,M,N,P,Q,R,U,c4,V,W,X,Y,Z,a0,a1,a2,a3,a4,a5,a6,a7,a8,a9,b0,b1,b2,b3,b4,b5,b6,b7,b8,b9,c0,c1,c2,c3]) S =
  (zF (jX Try.prog BinOp.eql 3 c5 (Value.int IntKind.i64 5) S) (fun v0 S1 => some ([x0,x1,x2,x3,x4,x5,x6,x7,x8,x9,c6,c7,c8,c9,d0,d1,d2,d3,d4,d5,d6,d7,d8,d9,f0,f1,f2,f3,f4,f5,f6,f7,f8,f9,g0,g1,g2,g3,g4,g5,g6,g7,g8,g9,i0,i1,i2,i3,i4,i5,i6,i7,i8,i9,j0,j1,j2,j3,j4,j5,c5,j6,j7,j8,j9,k0,k1,k2,k3,k4,k5,k6,k7,k8,k9,l0,l1,l2,l3,l4,l5,l6,l7,l8,l9,m0,m1,m2,m3,m4,m5,m6,m7,m8,m9,n0,n1,n2,n3,n4,b,c,d,f,g,i,k,l,m,n,o,p,q,r,s,t,u,w,x,y,z,A,B,C,D,E,F,G,H,I,J,K,L,M,N,P,Q,R,U,v0,V,dem v0,X,Y,Z,a0,a1,a2,a3,a4,a5,a6,a7,a8,a9,b0,b1,b2,b3,b4,b5,b6,b7,b8,b9,c0,c1,c2,c3], S1)) ()) := by
 kernel_rfl
theorem zh.r18  : jv Try.prog ⟨false, false, false⟩ (zQ Try.prog O) (reg Try.f34 18) (reg Try.f34 18).toList ([x0,x1,x2,x3,x4,x5,x6,x7,x8,x9,c6,c7,c8,c9,d0,d1,d2,d3,d4,d5,d6,d7,d8,d9,f0,f1,f2,f3,f4,f5,f6,f7,f8,f9,g0,g1,g2,g3,g4,g5,g6,g7,g8,g9,i0,i1,i2,i3,i4,i5,i6,i7,i8,i9,j0,j1,j2,j3,j4,j5,c5,j6,j7,j8,j9,k0,k1,k2,k3,k4,k5,k6,k7,k8,k9,l0,l1,l2,l3,l4,l5,l6,l7,l8,l9,m0,m1,m2,m3,m4,m5,m6,m7,m8,m9,n0,n1,n2,n3,n4,b,c,d,f,g,i,k,l,m,n,o,p,q,r,s,t,u,w,x,y,z,A,B,C,D,E,F,G,H,I,J,K,L,M,N,P,Q,R,U,c4,V,W,X,Y,Z,a0,a1,a2,a3,a4,a5,a6,a7,a8,a9,b0,b1,b2,b3,b4,b5,b6,b7,b8,b9,c0,c1,c2,c3]) S =
  (gdK (dem x4) true (ret x3) S (fun v2 S1 => zF (wP (dem x4) (dem v2) (Value.bool false) S1) (fun v3 S2 => gdK (dem v3) true (zo Try.prog 48 x1 4) S2 (fun v5 S3 => gdK (dem v3) true (zZ Try.prog false 3 v5) S3 (fun v6 S4 => gdK (dem v3) true (jX Try.prog BinOp.eql 3 v6 (Value.int IntKind.i64 (-1))) S4 (fun v7 S5 => gdK (dem v3) true (ret v7) S5 (fun v8 S6 => gdK (dem v8) false (zo Try.prog 48 x1 4) S6 (fun v9 S7 => gdK (dem v8) false (zZ Try.prog false 3 v9) S7 (fun n6 S8 => gdK (dem v8) false ((zQ Try.prog O) 53 [(dem n6)]) S8 (fun n7 S9 => gdK (dem v3) true (wP (dem v8) (Value.bool true) n7) S9 (fun n5 n9 => zF (wP (dem v3) n5 (Value.bool false) n9) (fun n8 o0 => some ([x0,x1,n8,x3,dem x4,x5,x6,x7,x8,x9,c6,c7,c8,c9,d0,d1,d2,d3,d4,d5,d6,d7,d8,d9,f0,f1,f2,f3,f4,f5,f6,f7,f8,f9,g0,g1,g2,g3,g4,g5,g6,g7,g8,g9,i0,i1,i2,i3,i4,i5,i6,i7,i8,i9,j0,j1,j2,j3,j4,j5,c5,j6,j7,j8,j9,k0,k1,k2,k3,k4,k5,k6,k7,k8,k9,l0,l1,l2,l3,l4,l5,l6,l7,l8,l9,m0,m1,m2,m3,m4,m5,m6,m7,m8,m9,n0,n1,n2,n3,n4,b,c,d,f,g,i,k,l,m,n,o,p,q,r,s,t,u,w,x,y,z,A,B,C,D,E,F,G,H,I,J,K,L,M,N,P,Q,R,U,c4,V,W,x4,dem x4,dem v2,v3,dem v3,v5,v6,v7,dem v8,v9,n6,n7,n5,dem n8,b1,b2,b3,b4,b5,b6,b7,b8,b9,c0,c1,c2,c3], o0)) ()) ()) ()) ()) ()) ()) ()) ()) ()) ()) ()) := by
 refine sP Try.f34 18 0 (v := x4) ?_
 refine sP Try.f34 18 1 (v := x4) ?_
 refine sG Try.f34 18 2 (j := 1) (fun v2 S1 => ?_)
 refine sD Try.f34 18 3 (fun v3 S2 => ?_)
 refine sP Try.f34 18 4 (v := v3) ?_
 refine sG Try.f34 18 5 (j := 4) (fun v5 S3 => ?_)
 refine sG Try.f34 18 6 (j := 4) (fun v6 S4 => ?_)
 refine sG Try.f34 18 7 (j := 4) (fun v7 S5 => ?_)
 refine sG Try.f34 18 8 (j := 4) (fun v8 S6 => ?_)
 refine sG Try.f34 18 9 (j := 8) (fun v9 S7 => ?_)
 refine sG Try.f34 18 10 (j := 8) (fun n6 S8 => ?_)
 refine sG Try.f34 18 11 (j := 8) (fun n7 S9 => ?_)
 refine sG Try.f34 18 12 (j := 4) (fun n5 n9 => ?_)
 refine sD Try.f34 18 13 (fun n8 o0 => ?_)
 refine sP Try.f34 18 14 (v := n8) ?_
 kernel_rfl
theorem zh.r19  : jv Try.prog ⟨false, false, false⟩ (zQ Try.prog O) (reg Try.f34 19) (reg Try.f34 19).toList ([x0,x1,x2,x3,x4,x5,x6,x7,x8,x9,c6,c7,c8,c9,d0,d1,d2,d3,d4,d5,d6,d7,d8,d9,f0,f1,f2,f3,f4,f5,f6,f7,f8,f9,g0,g1,g2,g3,g4,g5,g6,g7,g8,g9,i0,i1,i2,i3,i4,i5,i6,i7,i8,i9,j0,j1,j2,j3,j4,j5,c5,j6,j7,j8,j9,k0,k1,k2,k3,k4,k5,k6,k7,k8,k9,l0,l1,l2,l3,l4,l5,l6,l7,l8,l9,m0,m1,m2,m3,m4,m5,m6,m7,m8,m9,n0,n1,n2,n3,n4,b,c,d,f,g,i,k,l,m,n,o,p,q,r,s,t,u,w,x,y,z,A,B,C,D,E,F,G,H,I,J,K,L,M,N,P,Q,R,U,c4,V,W,X,Y,Z,a0,a1,a2,a3,a4,a5,a6,a7,a8,a9,b0,b1,b2,b3,b4,b5,b6,b7,b8,b9,c0,c1,c2,c3]) S =
  (zF (jX Try.prog BinOp.eql 3 c5 (Value.int IntKind.i64 6) S) (fun v0 S1 => some ([x0,x1,x2,x3,x4,x5,x6,x7,x8,x9,c6,c7,c8,c9,d0,d1,d2,d3,d4,d5,d6,d7,d8,d9,f0,f1,f2,f3,f4,f5,f6,f7,f8,f9,g0,g1,g2,g3,g4,g5,g6,g7,g8,g9,i0,i1,i2,i3,i4,i5,i6,i7,i8,i9,j0,j1,j2,j3,j4,j5,c5,j6,j7,j8,j9,k0,k1,k2,k3,k4,k5,k6,k7,k8,k9,l0,l1,l2,l3,l4,l5,l6,l7,l8,l9,m0,m1,m2,m3,m4,m5,m6,m7,m8,m9,n0,n1,n2,n3,n4,b,c,d,f,g,i,k,l,m,n,o,p,q,r,s,t,u,w,x,y,z,A,B,C,D,E,F,G,H,I,J,K,L,M,N,P,Q,R,U,c4,V,W,X,Y,Z,a0,a1,a2,a3,a4,a5,a6,a7,a8,a9,b0,v0,dem v0,b3,b4,b5,b6,b7,b8,b9,c0,c1,c2,c3], S1)) ()) := by
 kernel_rfl
theorem zh.r20  : jv Try.prog ⟨false, false, false⟩ (zQ Try.prog O) (reg Try.f34 20) (reg Try.f34 20).toList ([x0,x1,x2,x3,x4,x5,x6,x7,x8,x9,c6,c7,c8,c9,d0,d1,d2,d3,d4,d5,d6,d7,d8,d9,f0,f1,f2,f3,f4,f5,f6,f7,f8,f9,g0,g1,g2,g3,g4,g5,g6,g7,g8,g9,i0,i1,i2,i3,i4,i5,i6,i7,i8,i9,j0,j1,j2,j3,j4,j5,c5,j6,j7,j8,j9,k0,k1,k2,k3,k4,k5,k6,k7,k8,k9,l0,l1,l2,l3,l4,l5,l6,l7,l8,l9,m0,m1,m2,m3,m4,m5,m6,m7,m8,m9,n0,n1,n2,n3,n4,b,c,d,f,g,i,k,l,m,n,o,p,q,r,s,t,u,w,x,y,z,A,B,C,D,E,F,G,H,I,J,K,L,M,N,P,Q,R,U,c4,V,W,X,Y,Z,a0,a1,a2,a3,a4,a5,a6,a7,a8,a9,b0,b1,b2,b3,b4,b5,b6,b7,b8,b9,c0,c1,c2,c3]) S =
  (gdK (dem x4) true (zo Try.prog 48 x1 3) S (fun v2 S1 => gdK (dem x4) true (zZ Try.prog false 3 v2) S1 (fun v3 S2 => gdK (dem x4) true (jX Try.prog BinOp.eql 3 v3 (Value.int IntKind.i64 0)) S2 (fun v4 S3 => zF (wP (dem x4) v4 (Value.bool false) S3) (fun v5 S4 => gdK (dem v5) true (zo Try.prog 48 x1 4) S4 (fun v7 S5 => gdK (dem v5) true (zZ Try.prog false 3 v7) S5 (fun v8 S6 => gdK (dem v5) true ((zQ Try.prog O) 53 [(dem v8)]) S6 (fun v9 S7 => zF (wP (dem v5) v9 (Value.bool false) S7) (fun n6 S8 => some ([x0,x1,n6,x3,dem x4,x5,x6,x7,x8,x9,c6,c7,c8,c9,d0,d1,d2,d3,d4,d5,d6,d7,d8,d9,f0,f1,f2,f3,f4,f5,f6,f7,f8,f9,g0,g1,g2,g3,g4,g5,g6,g7,g8,g9,i0,i1,i2,i3,i4,i5,i6,i7,i8,i9,j0,j1,j2,j3,j4,j5,c5,j6,j7,j8,j9,k0,k1,k2,k3,k4,k5,k6,k7,k8,k9,l0,l1,l2,l3,l4,l5,l6,l7,l8,l9,m0,m1,m2,m3,m4,m5,m6,m7,m8,m9,n0,n1,n2,n3,n4,b,c,d,f,g,i,k,l,m,n,o,p,q,r,s,t,u,w,x,y,z,A,B,C,D,E,F,G,H,I,J,K,L,M,N,P,Q,R,U,c4,V,W,X,Y,Z,a0,a1,a2,a3,a4,a5,a6,a7,a8,a9,b0,b1,b2,x4,dem x4,v2,v3,v4,v5,dem v5,v7,v8,v9,dem n6], S8)) ()) ()) ()) ()) ()) ()) ()) ()) := by
 refine sP Try.f34 20 0 (v := x4) ?_
 refine sP Try.f34 20 1 (v := x4) ?_
 refine sG Try.f34 20 2 (j := 1) (fun v2 S1 => ?_)
 refine sG Try.f34 20 3 (j := 1) (fun v3 S2 => ?_)
 refine sG Try.f34 20 4 (j := 1) (fun v4 S3 => ?_)
 refine sD Try.f34 20 5 (fun v5 S4 => ?_)
 refine sP Try.f34 20 6 (v := v5) ?_
 refine sG Try.f34 20 7 (j := 6) (fun v7 S5 => ?_)
 refine sG Try.f34 20 8 (j := 6) (fun v8 S6 => ?_)
 refine sG Try.f34 20 9 (j := 6) (fun v9 S7 => ?_)
 refine sD Try.f34 20 10 (fun n6 S8 => ?_)
 refine sP Try.f34 20 11 (v := n6) ?_
 kernel_rfl
theorem zh.r21  : jv Try.prog ⟨false, false, false⟩ (zQ Try.prog O) (reg Try.f34 21) (reg Try.f34 21).toList ([x0,x1,x2,x3,x4,x5,x6,x7,x8,x9,c6,c7,c8,c9,d0,d1,d2,d3,d4,d5,d6,d7,d8,d9,f0,f1,f2,f3,f4,f5,f6,f7,f8,f9,g0,g1,g2,g3,g4,g5,g6,g7,g8,g9,i0,i1,i2,i3,i4,i5,i6,i7,i8,i9,j0,j1,j2,j3,j4,j5,c5,j6,j7,j8,j9,k0,k1,k2,k3,k4,k5,k6,k7,k8,k9,l0,l1,l2,l3,l4,l5,l6,l7,l8,l9,m0,m1,m2,m3,m4,m5,m6,m7,m8,m9,n0,n1,n2,n3,n4,b,c,d,f,g,i,k,l,m,n,o,p,q,r,s,t,u,w,x,y,z,A,B,C,D,E,F,G,H,I,J,K,L,M,N,P,Q,R,U,c4,V,W,X,Y,Z,a0,a1,a2,a3,a4,a5,a6,a7,a8,a9,b0,b1,b2,b3,b4,b5,b6,b7,b8,b9,c0,c1,c2,c3]) S =
  ( some ([x0,x1,Value.bool false,x3,x4,x5,x6,x7,x8,x9,c6,c7,c8,c9,d0,d1,d2,d3,d4,d5,d6,d7,d8,d9,f0,f1,f2,f3,f4,f5,f6,f7,f8,f9,g0,g1,g2,g3,g4,g5,g6,g7,g8,g9,i0,i1,i2,i3,i4,i5,i6,i7,i8,i9,j0,j1,j2,j3,j4,j5,c5,j6,j7,j8,j9,k0,k1,k2,k3,k4,k5,k6,k7,k8,k9,l0,l1,l2,l3,l4,l5,l6,l7,l8,l9,m0,m1,m2,m3,m4,m5,m6,m7,m8,m9,n0,n1,n2,n3,n4,b,c,d,f,g,i,k,l,m,n,o,p,q,r,s,t,u,w,x,y,z,A,B,C,D,E,F,G,H,I,J,K,L,M,N,P,Q,R,U,c4,V,W,X,Y,Z,a0,a1,a2,a3,a4,a5,a6,a7,a8,a9,b0,b1,b2,b3,b4,b5,b6,b7,b8,b9,c0,c1,c2,c3], S)) := by
 kernel_rfl
theorem zh.rs : type_of% (And.intro @zh.r0 (And.intro @zh.r1 (And.intro @zh.r2 (And.intro @zh.r3 (And.intro @zh.r4 (And.intro @zh.r5 (And.intro @zh.r6 (And.intro @zh.r7 (And.intro @zh.r8 (And.intro @zh.r9 (And.intro @zh.r10 (And.intro @zh.r11 (And.intro @zh.r12 (And.intro @zh.r13 (And.intro @zh.r14 (And.intro @zh.r15 (And.intro @zh.r16 (And.intro @zh.r17 (And.intro @zh.r18 (And.intro @zh.r19 (And.intro @zh.r20 (@zh.r21)))))))))))))))))))))) := And.intro @zh.r0 (And.intro @zh.r1 (And.intro @zh.r2 (And.intro @zh.r3 (And.intro @zh.r4 (And.intro @zh.r5 (And.intro @zh.r6 (And.intro @zh.r7 (And.intro @zh.r8 (And.intro @zh.r9 (And.intro @zh.r10 (And.intro @zh.r11 (And.intro @zh.r12 (And.intro @zh.r13 (And.intro @zh.r14 (And.intro @zh.r15 (And.intro @zh.r16 (And.intro @zh.r17 (And.intro @zh.r18 (And.intro @zh.r19 (And.intro @zh.r20 (@zh.r21)))))))))))))))))))))
theorem zh.runs {x0 : Value} {S S1 : zi} {e : AEx} {T : List Value} (h : zA Try.prog O false zh.code ([x0,undef,undef,undef,undef,undef,undef,undef,undef,undef,undef,undef,undef,undef,undef,undef,undef,undef,undef,undef,undef,undef,undef,undef,undef,undef,undef,undef,undef,undef,undef,undef,undef,undef,undef,undef,undef,undef,undef,undef,undef,undef,undef,undef,undef,undef,undef,undef,undef,undef,undef,undef,undef,undef,undef,undef,undef,undef,undef,undef,undef,undef,undef,undef,undef,undef,undef,undef,undef,undef,undef,undef,undef,undef,undef,undef,undef,undef,undef,undef,undef,undef,undef,undef,undef,undef,undef,undef,undef,undef,undef,undef,undef,undef,undef,undef,undef,undef,undef,undef,undef,undef,undef,undef,undef,undef,undef,undef,undef,undef,undef,undef,undef,undef,undef,undef,undef,undef,undef,undef,undef,undef,undef,undef,undef,undef,undef,undef,undef,undef,undef,undef,undef,undef,undef,undef,undef,undef,undef,undef,undef,undef,undef,undef,undef,undef,undef,undef,undef,undef,undef,undef,undef,undef,undef,undef,undef,undef,undef,undef,undef,undef,undef,undef,undef,undef,undef,undef,undef]) zi.empty = some (e, T, S1)) (he : e = .normal ∨ e = .ret) (hca : [x0].all (jH 16) = true) (hcv : jH 16 (T.getD 2 undef) = true) : zQ Try.prog O 34 [x0] S = some (T.getD 2 undef, S) :=
 wZ rfl rfl Try.func34 (by decide) zh.body (by exact h) he (wV (a := T.getD 2 undef) ((show zG Try.prog T S1 Try.f34.results.toList = zG Try.prog T S1 [(ResultVar.tmp 2)] from by kernel_rfl).trans (by simp only [zG])) (by kernel_rfl)) hca hcv
end Go.Proofs.Ytfjogganfjkckaa
namespace Go.Proofs.Ytfjogganfjkckaa
open Go.Abs
abbrev jo.id : FuncId := 53
noncomputable def jo.code : Code := (Code.seq (Code.region 0 (reg Try.f53 0) false) (Code.seq (Code.region 1 (reg Try.f53 1) false) (Code.seq (Code.region 2 (reg Try.f53 2) false) Code.ret)))
theorem jo.body : Try.f53.body = some jo.code := by kernel_rfl
variable (b r B u w x s y z A f g i k l m n o p : Value) (S : zi)
theorem jo.r0  : jv Try.prog ⟨false, false, false⟩ (zQ Try.prog O) (reg Try.f53 0) (reg Try.f53 0).toList ([b,r,B,u,w,x,s,y,z,A,f,g,i,k,l,m,n,o,p]) S =
  ( some ([b,r,Value.bool false,u,w,x,s,y,z,A,f,g,i,k,l,m,n,o,p], S)) := by
 kernel_rfl
theorem jo.r1  : jv Try.prog ⟨false, false, false⟩ (zQ Try.prog O) (reg Try.f53 1) (reg Try.f53 1).toList ([b,r,B,u,w,x,s,y,z,A,f,g,i,k,l,m,n,o,p]) S =
  (zF ((zQ Try.prog O) 51 [(dem (dem b))] S) (fun c d => zF (zS c 0 d) (fun t C => zF (zS (zV 0 c) 1 C) (fun q D => zF (zS (zV 1 (zV 0 c)) 2 D) (fun E G => zF (zS (zV 2 (zV 1 (zV 0 c))) 3 G) (fun F H => some ([b,r,B,t,q,E,F,zV 3 (zV 2 (zV 1 (zV 0 c))),dem b,dem c,dem t,dem q,dem E,dem F,l,m,n,o,p], H)) ()) ()) ()) ()) ()) := by
 kernel_rfl
theorem jo.r2  : jv Try.prog ⟨false, false, false⟩ (zQ Try.prog O) (reg Try.f53 2) (reg Try.f53 2).toList ([b,r,B,u,w,x,s,y,z,A,f,g,i,k,l,m,n,o,p]) S =
  (zF (jX Try.prog BinOp.eql 3 (dem b) (Value.int IntKind.i64 0) S) (fun c d => gdK (dem c) false (ret s) d (fun t C => zF (wP (dem c) (Value.bool true) (dem t) C) (fun q D => some ([b,r,q,u,w,x,s,y,z,A,f,g,i,k,dem b,c,dem c,dem t,dem q], D)) ()) ()) ()) := by
 refine sP Try.f53 2 0 (v := b) ?_
 refine sD Try.f53 2 1 (fun c d => ?_)
 refine sP Try.f53 2 2 (v := c) ?_
 refine sG Try.f53 2 3 (j := 2) (fun t C => ?_)
 refine sD Try.f53 2 4 (fun q D => ?_)
 refine sP Try.f53 2 5 (v := q) ?_
 kernel_rfl
theorem jo.rs : type_of% (And.intro @jo.r0 (And.intro @jo.r1 (@jo.r2))) := And.intro @jo.r0 (And.intro @jo.r1 (@jo.r2))
theorem jo.runs {b : Value} {S d : zi} {e : AEx} {T : List Value} (h : zA Try.prog O false jo.code ([b,undef,undef,undef,undef,undef,undef,undef,undef,undef,undef,undef,undef,undef,undef,undef,undef,undef,undef]) S = some (e, T, d)) (he : e = .normal ∨ e = .ret) : zQ Try.prog O 53 [b] S = some (T.getD 2 undef, d) :=
 yB rfl rfl Try.func53 (by decide) jo.body (by exact h) he (wV (a := T.getD 2 undef) ((show zG Try.prog T d Try.f53.results.toList = zG Try.prog T d [(ResultVar.tmp 2)] from by kernel_rfl).trans (by simp only [zG])) (by kernel_rfl))
end Go.Proofs.Ytfjogganfjkckaa
namespace Go.Proofs.Ytfjogganfjkckaa
open Go.Abs
abbrev jq.id : FuncId := 52
noncomputable def jq.code : Code := (Code.seq (Code.region 0 (reg Try.f52 0) false) (Code.seq (Code.region 1 (reg Try.f52 1) false) Code.ret))
theorem jq.body : Try.f52.body = some jq.code := by kernel_rfl
variable (b d k g i j : Value) (S : zi)
theorem jq.r0  : jv Try.prog ⟨false, false, false⟩ (zQ Try.prog O) (reg Try.f52 0) (reg Try.f52 0).toList ([b,d,k,g,i,j]) S =
  (zF (Jo (dem b) S) (fun f c => some ([b,f,Value.bool false,g,i,j], c)) ()) := by
 kernel_rfl
theorem jq.r1  : jv Try.prog ⟨false, false, false⟩ (zQ Try.prog O) (reg Try.f52 1) (reg Try.f52 1).toList ([b,d,k,g,i,j]) S =
  (zF (zZ Try.prog false 46 d S) (fun f c => zF (yu Try.prog 46 [] c) (fun l n => zF ((zQ Try.prog O) 18 [(dem f), (dem l)] n) (fun m o => some ([b,d,m,f,l,dem m], o)) ()) ()) ()) := by
 kernel_rfl
theorem jq.rs : type_of% (And.intro @jq.r0 (@jq.r1)) := And.intro @jq.r0 (@jq.r1)
theorem jq.runs {b : Value} {S c : zi} {e : AEx} {T : List Value} (h : zA Try.prog O false jq.code ([b,undef,undef,undef,undef,undef]) zi.empty = some (e, T, c)) (he : e = .normal ∨ e = .ret) (hca : [b].all (jH 16) = true) (hcv : jH 16 (T.getD 2 undef) = true) : zQ Try.prog O 52 [b] S = some (T.getD 2 undef, S) :=
 wZ rfl rfl Try.func52 (by decide) jq.body (by exact h) he (wV (a := T.getD 2 undef) ((show zG Try.prog T c Try.f52.results.toList = zG Try.prog T c [(ResultVar.tmp 2)] from by kernel_rfl).trans (by simp only [zG])) (by kernel_rfl)) hca hcv
end Go.Proofs.Ytfjogganfjkckaa
namespace Go.Proofs.Ytfjogganfjkckaa
open Go.Abs
abbrev zY.id : FuncId := 67
noncomputable def zY.code : Code := (Code.seq (Code.region 0 (reg Try.f67 0) false) (Code.seq (Code.region 1 (reg Try.f67 1) false) (Code.seq (Code.seq (Code.region 2 (reg Try.f67 2) false) (Code.block 0 (Code.seq (Code.block 6 (Code.seq (Code.block 5 (Code.seq (Code.block 4 (Code.seq (Code.block 3 (Code.seq (Code.block 2 (Code.seq (Code.block 1 (Code.seq (Code.seq (Code.seq (Code.region 3 (reg Try.f67 3) false) (Code.cond (Operand.tmp 11) (Code.exit 1) Code.skip)) (Code.seq (Code.seq (Code.region 4 (reg Try.f67 4) false) (Code.cond (Operand.tmp 13) (Code.exit 2) Code.skip)) (Code.seq (Code.seq (Code.region 5 (reg Try.f67 5) false) (Code.cond (Operand.tmp 15) (Code.exit 3) Code.skip)) (Code.seq (Code.seq (Code.region 6 (reg Try.f67 6) false) (Code.cond (Operand.tmp 17) (Code.exit 4) Code.skip)) (Code.seq (Code.seq (Code.seq (Code.region 7 (reg Try.f67 7) false) (Code.cond (Operand.tmp 19) Code.skip (Code.region 8 (reg Try.f67 8) false))) (Code.cond (Operand.tmp 19) (Code.exit 5) Code.skip)) (Code.seq (Code.region 9 (reg Try.f67 9) false) (Code.cond (Operand.tmp 22) (Code.exit 6) Code.skip))))))) (Code.exit 0))) (Code.seq (Code.region 10 (reg Try.f67 10) false) (Code.exit 0)))) (Code.seq (Code.region 11 (reg Try.f67 11) false) (Code.exit 0)))) (Code.seq (Code.region 12 (reg Try.f67 12) false) (Code.exit 0)))) (Code.region 13 (reg Try.f67 13) false))) (Code.region 14 (reg Try.f67 14) false))) (Code.seq (Code.region 15 (reg Try.f67 15) true) (Code.exit 0))))) (Code.seq (Code.region 16 (reg Try.f67 16) false) Code.ret))))
theorem zY.body : Try.f67.body = some zY.code := by kernel_rfl
variable (U P V Q W X Y Z x8 x9 b d f g i j k l m N n o p q r s t u v w x y z A B C D E F G H I J K L M : Value) (S : zi)
theorem zY.r0  : jv Try.prog ⟨false, false, false⟩ (zQ Try.prog O) (reg Try.f67 0) (reg Try.f67 0).toList ([U,P,V,Q,W,X,Y,Z,x8,x9,b,d,f,g,i,j,k,l,m,N,n,o,p,q,r,s,t,u,v,w,x,y,z,A,B,C,D,E,F,G,H,I,J,K,L,M]) S =
  (zF (Jo (dem U) S) (fun c R => zF (yJ Try.prog 48 R) (fun v1 S2 => some ([U,c,v1,Q,W,X,Y,Z,x8,x9,b,d,f,g,i,j,k,l,m,N,n,o,p,q,r,s,t,u,v,w,x,y,z,A,B,C,D,E,F,G,H,I,J,K,L,M], S2)) ()) ()) := by
 kernel_rfl
theorem zY.r1  : jv Try.prog ⟨false, false, false⟩ (zQ Try.prog O) (reg Try.f67 1) (reg Try.f67 1).toList ([U,P,V,Q,W,X,Y,Z,x8,x9,b,d,f,g,i,j,k,l,m,N,n,o,p,q,r,s,t,u,v,w,x,y,z,A,B,C,D,E,F,G,H,I,J,K,L,M]) S =
  (zF (zo Try.prog 48 P 0 S) (fun c R => zF (zZ Try.prog false 3 c R) (fun v1 S2 => zF (zo Try.prog 48 P 1 S2) (fun v2 S3 => zF (zZ Try.prog false 3 v2 S3) (fun v3 S4 => zF (yu Try.prog 48 [(0, (dem v1)), (1, (dem v3))] S4) (fun v4 S5 => zF (yJ Try.prog 48 S5) (fun v5 S6 => zF (wU Try.prog 48 v5 (dem v4) S6) (fun v6 S7 => some ([U,P,V,v5,c,v1,v2,v3,v4,x9,b,d,f,g,i,j,k,l,m,N,n,o,p,q,r,s,t,u,v,w,x,y,z,A,B,C,D,E,F,G,H,I,J,K,L,M], S7)) ()) ()) ()) ()) ()) ()) ()) := by
 kernel_rfl
theorem zY.r2  : jv Try.prog ⟨false, false, false⟩ (zQ Try.prog O) (reg Try.f67 2) (reg Try.f67 2).toList ([U,P,V,Q,W,X,Y,Z,x8,x9,b,d,f,g,i,j,k,l,m,N,n,o,p,q,r,s,t,u,v,w,x,y,z,A,B,C,D,E,F,G,H,I,J,K,L,M]) S =
  (zF (zo Try.prog 48 P 0 S) (fun c R => zF (zZ Try.prog false 3 c R) (fun v1 S2 => some ([U,P,V,Q,W,X,Y,Z,x8,c,v1,d,f,g,i,j,k,l,m,N,n,o,p,q,r,s,t,u,v,w,x,y,z,A,B,C,D,E,F,G,H,I,J,K,L,M], S2)) ()) ()) := by
 kernel_rfl
theorem zY.r3  : jv Try.prog ⟨false, false, false⟩ (zQ Try.prog O) (reg Try.f67 3) (reg Try.f67 3).toList ([U,P,V,Q,W,X,Y,Z,x8,x9,b,d,f,g,i,j,k,l,m,N,n,o,p,q,r,s,t,u,v,w,x,y,z,A,B,C,D,E,F,G,H,I,J,K,L,M]) S =
  (zF (jX Try.prog BinOp.eql 3 b (Value.int IntKind.i64 0) S) (fun c R => some ([U,P,V,Q,W,X,Y,Z,x8,x9,b,c,dem c,g,i,j,k,l,m,N,n,o,p,q,r,s,t,u,v,w,x,y,z,A,B,C,D,E,F,G,H,I,J,K,L,M], R)) ()) := by
 kernel_rfl
theorem zY.r4  : jv Try.prog ⟨false, false, false⟩ (zQ Try.prog O) (reg Try.f67 4) (reg Try.f67 4).toList ([U,P,V,Q,W,X,Y,Z,x8,x9,b,d,f,g,i,j,k,l,m,N,n,o,p,q,r,s,t,u,v,w,x,y,z,A,B,C,D,E,F,G,H,I,J,K,L,M]) S =
  (zF (jX Try.prog BinOp.eql 3 b (Value.int IntKind.i64 1) S) (fun c R => some ([U,P,V,Q,W,X,Y,Z,x8,x9,b,d,f,c,dem c,j,k,l,m,N,n,o,p,q,r,s,t,u,v,w,x,y,z,A,B,C,D,E,F,G,H,I,J,K,L,M], R)) ()) := by
 kernel_rfl
theorem zY.r5  : jv Try.prog ⟨false, false, false⟩ (zQ Try.prog O) (reg Try.f67 5) (reg Try.f67 5).toList ([U,P,V,Q,W,X,Y,Z,x8,x9,b,d,f,g,i,j,k,l,m,N,n,o,p,q,r,s,t,u,v,w,x,y,z,A,B,C,D,E,F,G,H,I,J,K,L,M]) S =
  (zF (jX Try.prog BinOp.eql 3 b (Value.int IntKind.i64 2) S) (fun c R => some ([U,P,V,Q,W,X,Y,Z,x8,x9,b,d,f,g,i,c,dem c,l,m,N,n,o,p,q,r,s,t,u,v,w,x,y,z,A,B,C,D,E,F,G,H,I,J,K,L,M], R)) ()) := by
 kernel_rfl
theorem zY.r6  : jv Try.prog ⟨false, false, false⟩ (zQ Try.prog O) (reg Try.f67 6) (reg Try.f67 6).toList ([U,P,V,Q,W,X,Y,Z,x8,x9,b,d,f,g,i,j,k,l,m,N,n,o,p,q,r,s,t,u,v,w,x,y,z,A,B,C,D,E,F,G,H,I,J,K,L,M]) S =
  (zF (jX Try.prog BinOp.eql 3 b (Value.int IntKind.i64 3) S) (fun c R => some ([U,P,V,Q,W,X,Y,Z,x8,x9,b,d,f,g,i,j,k,c,dem c,N,n,o,p,q,r,s,t,u,v,w,x,y,z,A,B,C,D,E,F,G,H,I,J,K,L,M], R)) ()) := by
 kernel_rfl
theorem zY.r7  : jv Try.prog ⟨false, false, false⟩ (zQ Try.prog O) (reg Try.f67 7) (reg Try.f67 7).toList ([U,P,V,Q,W,X,Y,Z,x8,x9,b,d,f,g,i,j,k,l,m,N,n,o,p,q,r,s,t,u,v,w,x,y,z,A,B,C,D,E,F,G,H,I,J,K,L,M]) S =
  (zF (jX Try.prog BinOp.eql 3 b (Value.int IntKind.i64 4) S) (fun c R => some ([U,P,V,Q,W,X,Y,Z,x8,x9,b,d,f,g,i,j,k,l,m,c,dem c,o,p,q,r,s,t,u,v,w,x,y,z,A,B,C,D,E,F,G,H,I,J,K,L,M], R)) ()) := by
 kernel_rfl
theorem zY.r8  : jv Try.prog ⟨false, false, false⟩ (zQ Try.prog O) (reg Try.f67 8) (reg Try.f67 8).toList ([U,P,V,Q,W,X,Y,Z,x8,x9,b,d,f,g,i,j,k,l,m,N,n,o,p,q,r,s,t,u,v,w,x,y,z,A,B,C,D,E,F,G,H,I,J,K,L,M]) S =
  (zF (jX Try.prog BinOp.eql 3 b (Value.int IntKind.i64 5) S) (fun c R => some ([U,P,V,Q,W,X,Y,Z,x8,x9,b,d,f,g,i,j,k,l,m,c,n,dem c,p,q,r,s,t,u,v,w,x,y,z,A,B,C,D,E,F,G,H,I,J,K,L,M], R)) ()) := by
 kernel_rfl
theorem zY.r9  : jv Try.prog ⟨false, false, false⟩ (zQ Try.prog O) (reg Try.f67 9) (reg Try.f67 9).toList ([U,P,V,Q,W,X,Y,Z,x8,x9,b,d,f,g,i,j,k,l,m,N,n,o,p,q,r,s,t,u,v,w,x,y,z,A,B,C,D,E,F,G,H,I,J,K,L,M]) S =
  (zF (jX Try.prog BinOp.eql 3 b (Value.int IntKind.i64 6) S) (fun c R => some ([U,P,V,Q,W,X,Y,Z,x8,x9,b,d,f,g,i,j,k,l,m,N,n,o,c,dem c,r,s,t,u,v,w,x,y,z,A,B,C,D,E,F,G,H,I,J,K,L,M], R)) ()) := by
 kernel_rfl
theorem zY.r10  : jv Try.prog ⟨false, false, false⟩ (zQ Try.prog O) (reg Try.f67 10) (reg Try.f67 10).toList ([U,P,V,Q,W,X,Y,Z,x8,x9,b,d,f,g,i,j,k,l,m,N,n,o,p,q,r,s,t,u,v,w,x,y,z,A,B,C,D,E,F,G,H,I,J,K,L,M]) S =
  (zF (zo Try.prog 48 P 6 S) (fun c R => zF (zZ Try.prog false 43 c R) (fun v1 S2 => zF (zo Try.prog 48 Q 6 S2) (fun v2 S3 => zF (wU Try.prog 43 v2 (dem v1) S3) (fun v3 S4 => some ([U,P,V,Q,W,X,Y,Z,x8,x9,b,d,f,g,i,j,k,l,m,N,n,o,p,q,c,v1,v2,u,v,w,x,y,z,A,B,C,D,E,F,G,H,I,J,K,L,M], S4)) ()) ()) ()) ()) := by
 kernel_rfl
theorem zY.r11  : jv Try.prog ⟨false, false, false⟩ (zQ Try.prog O) (reg Try.f67 11) (reg Try.f67 11).toList ([U,P,V,Q,W,X,Y,Z,x8,x9,b,d,f,g,i,j,k,l,m,N,n,o,p,q,r,s,t,u,v,w,x,y,z,A,B,C,D,E,F,G,H,I,J,K,L,M]) S =
  (zF (zo Try.prog 48 P 7 S) (fun c R => zF (zZ Try.prog false 46 c R) (fun v1 S2 => zF (zo Try.prog 48 Q 7 S2) (fun v2 S3 => zF (wU Try.prog 46 v2 (dem v1) S3) (fun v3 S4 => some ([U,P,V,Q,W,X,Y,Z,x8,x9,b,d,f,g,i,j,k,l,m,N,n,o,p,q,r,s,t,c,v1,v2,x,y,z,A,B,C,D,E,F,G,H,I,J,K,L,M], S4)) ()) ()) ()) ()) := by
 kernel_rfl
theorem zY.r12  : jv Try.prog ⟨false, false, false⟩ (zQ Try.prog O) (reg Try.f67 12) (reg Try.f67 12).toList ([U,P,V,Q,W,X,Y,Z,x8,x9,b,d,f,g,i,j,k,l,m,N,n,o,p,q,r,s,t,u,v,w,x,y,z,A,B,C,D,E,F,G,H,I,J,K,L,M]) S =
  (zF (zo Try.prog 48 P 4 S) (fun c R => zF (zZ Try.prog false 3 c R) (fun v1 S2 => zF (zo Try.prog 48 Q 4 S2) (fun v2 S3 => zF (wU Try.prog 3 v2 (dem v1) S3) (fun v3 S4 => some ([U,P,V,Q,W,X,Y,Z,x8,x9,b,d,f,g,i,j,k,l,m,N,n,o,p,q,r,s,t,u,v,w,c,v1,v2,A,B,C,D,E,F,G,H,I,J,K,L,M], S4)) ()) ()) ()) ()) := by
 kernel_rfl
theorem zY.r13  : jv Try.prog ⟨false, false, false⟩ (zQ Try.prog O) (reg Try.f67 13) (reg Try.f67 13).toList ([U,P,V,Q,W,X,Y,Z,x8,x9,b,d,f,g,i,j,k,l,m,N,n,o,p,q,r,s,t,u,v,w,x,y,z,A,B,C,D,E,F,G,H,I,J,K,L,M]) S =
  (zF (zo Try.prog 48 P 5 S) (fun c R => zF (zZ Try.prog false 3 c R) (fun v1 S2 => zF (zo Try.prog 48 Q 5 S2) (fun v2 S3 => zF (wU Try.prog 3 v2 (dem v1) S3) (fun v3 S4 => some ([U,P,V,Q,W,X,Y,Z,x8,x9,b,d,f,g,i,j,k,l,m,N,n,o,p,q,r,s,t,u,v,w,x,y,z,c,v1,v2,D,E,F,G,H,I,J,K,L,M], S4)) ()) ()) ()) ()) := by
 kernel_rfl
theorem zY.r14  : jv Try.prog ⟨false, false, false⟩ (zQ Try.prog O) (reg Try.f67 14) (reg Try.f67 14).toList ([U,P,V,Q,W,X,Y,Z,x8,x9,b,d,f,g,i,j,k,l,m,N,n,o,p,q,r,s,t,u,v,w,x,y,z,A,B,C,D,E,F,G,H,I,J,K,L,M]) S =
  (zF (zo Try.prog 48 P 3 S) (fun c R => zF (zZ Try.prog false 3 c R) (fun v1 S2 => zF (zo Try.prog 48 Q 3 S2) (fun v2 S3 => zF (wU Try.prog 3 v2 (dem v1) S3) (fun v3 S4 => some ([U,P,V,Q,W,X,Y,Z,x8,x9,b,d,f,g,i,j,k,l,m,N,n,o,p,q,r,s,t,u,v,w,x,y,z,A,B,C,c,v1,v2,G,H,I,J,K,L,M], S4)) ()) ()) ()) ()) := by
 kernel_rfl
theorem zY.d15 : kD Try.prog (reg Try.f67 15) = true := by kernel_rfl
theorem zY.akz : fixed Try.prog (reg Try.f67 15) = false := by kernel_rfl
theorem zY.k15 : checked Try.prog (reg Try.f67 15) = [2, 3] := by kernel_rfl
theorem zY.g15 : again Try.prog (reg Try.f67 15) = [(3, 5)] := by kernel_rfl
theorem zY.r15  : zA Try.prog O false (.region 15 (reg Try.f67 15) true) ([U,P,V,Q,W,X,Y,Z,x8,x9,b,d,f,g,i,j,k,l,m,N,n,o,p,q,r,s,t,u,v,w,x,y,z,A,B,C,D,E,F,G,H,I,J,K,L,M]) S =
  JE (zF (zo Try.prog 48 P 2 S) (fun c R => zF (zZ Try.prog false 3 c R) (fun v1 S2 => zF (zo Try.prog 48 P 4 S2) (fun v2 S3 => okK v2 ( zF (zZ Try.prog false 3 v2 S3) (fun v3 S4 => okK v3 ( zF (zo Try.prog 48 Q 2 S4) (fun v4 S5 => zF (wU Try.prog 3 v4 (dem v1) S5) (fun v5 S6 => zF (zo Try.prog 48 Q 4 S6) (fun v6 S7 => zF (wU Try.prog 3 v6 (dem v3) S7) (fun v7 S8 => ckK (ku v2 S3 S6 && (true)) (some ([U,P,V,Q,W,X,Y,Z,x8,x9,b,d,f,g,i,j,k,l,m,N,n,o,p,q,r,s,t,u,v,w,x,y,z,A,B,C,D,E,F,c,v1,v2,v3,v4,v6,M], S8)) ()) ()) ()) ()) ()) ()) ()) ()) ()) ()) ()) := by
 rw [yQ zY.d15 zY.akz zY.k15 zY.g15]
 refine congrArg JE ?_
 refine uD Try.f67 15 0 (pe := undef) (fun c R => ?_)
 refine uD Try.f67 15 1 (pe := c) (fun v1 S2 => ?_)
 refine uDC Try.f67 15 2 (pe := undef) (fun v2 S3 => ?_)
 refine uDC Try.f67 15 3 (pe := v2) (fun v3 S4 => ?_)
 refine uD Try.f67 15 4 (pe := undef) (fun v4 S5 => ?_)
 refine uD Try.f67 15 5 (pe := undef) (fun v5 S6 => ?_)
 refine uD Try.f67 15 6 (pe := undef) (fun v6 S7 => ?_)
 refine uD Try.f67 15 7 (pe := undef) (fun v7 S8 => ?_)
 kernel_rfl
theorem zY.r16  : jv Try.prog ⟨false, false, false⟩ (zQ Try.prog O) (reg Try.f67 16) (reg Try.f67 16).toList ([U,P,V,Q,W,X,Y,Z,x8,x9,b,d,f,g,i,j,k,l,m,N,n,o,p,q,r,s,t,u,v,w,x,y,z,A,B,C,D,E,F,G,H,I,J,K,L,M]) S =
  (zF (zZ Try.prog false 48 Q S) (fun c R => zF (wU Try.prog 48 V (dem c) R) (fun v1 S2 => some ([U,P,V,Q,W,X,Y,Z,x8,x9,b,d,f,g,i,j,k,l,m,N,n,o,p,q,r,s,t,u,v,w,x,y,z,A,B,C,D,E,F,G,H,I,J,K,L,c], S2)) ()) ()) := by
 kernel_rfl
theorem zY.rs : type_of% (And.intro @zY.r0 (And.intro @zY.r1 (And.intro @zY.r2 (And.intro @zY.r3 (And.intro @zY.r4 (And.intro @zY.r5 (And.intro @zY.r6 (And.intro @zY.r7 (And.intro @zY.r8 (And.intro @zY.r9 (And.intro @zY.r10 (And.intro @zY.r11 (And.intro @zY.r12 (And.intro @zY.r13 (And.intro @zY.r14 (And.intro @zY.r15 (@zY.r16))))))))))))))))) := And.intro @zY.r0 (And.intro @zY.r1 (And.intro @zY.r2 (And.intro @zY.r3 (And.intro @zY.r4 (And.intro @zY.r5 (And.intro @zY.r6 (And.intro @zY.r7 (And.intro @zY.r8 (And.intro @zY.r9 (And.intro @zY.r10 (And.intro @zY.r11 (And.intro @zY.r12 (And.intro @zY.r13 (And.intro @zY.r14 (And.intro @zY.r15 (@zY.r16))))))))))))))))
theorem zY.runs {U : Value} {S R : zi} {e : AEx} {T : List Value} (h : zA Try.prog O false zY.code ([U,undef,undef,undef,undef,undef,undef,undef,undef,undef,undef,undef,undef,undef,undef,undef,undef,undef,undef,undef,undef,undef,undef,undef,undef,undef,undef,undef,undef,undef,undef,undef,undef,undef,undef,undef,undef,undef,undef,undef,undef,undef,undef,undef,undef,undef]) zi.empty = some (e, T, R)) (he : e = .normal ∨ e = .ret) {w0 : Value} (c0 : zZ Try.prog false 48 (T.getD 2 undef) R = some (w0, R)) (hca : [U].all (jH 16) = true) (hcv : jH 16 (w0) = true) : zQ Try.prog O 67 [U] S = some (w0, S) :=
 wZ rfl rfl Try.func67 (by decide) zY.body (by exact h) he (wV (a := w0) ((show zG Try.prog T R Try.f67.results.toList = zG Try.prog T R [(ResultVar.cell 2 48)] from by kernel_rfl).trans (by simp only [zG, c0])) (by kernel_rfl)) hca hcv
end Go.Proofs.Ytfjogganfjkckaa
namespace Go.Proofs.Ytfjogganfjkckaa
open Go.Abs
abbrev wG.id : FuncId := 66
noncomputable def wG.code : Code := (Code.seq (Code.region 0 (reg Try.f66 0) false) (Code.seq (Code.region 1 (reg Try.f66 1) false) (Code.seq (Code.region 2 (reg Try.f66 2) false) Code.ret)))
theorem wG.body : Try.f66.body = some wG.code := by kernel_rfl
variable (o p l m x4 g x6 x7 x8 x9 z A B C D E F G H I J K L M N P Q R U V W X Y Z a0 a1 a2 a3 a4 a5 a6 a7 a8 a9 b0 b1 b2 b3 b4 b5 b6 b7 b8 b9 c0 c1 c2 c3 c4 c5 c6 : Value) (S : zi)
theorem wG.r0  : jv Try.prog ⟨false, false, false⟩ (zQ Try.prog O) (reg Try.f66 0) (reg Try.f66 0).toList ([o,p,l,m,x4,g,x6,x7,x8,x9,z,A,B,C,D,E,F,G,H,I,J,K,L,M,N,P,Q,R,U,V,W,X,Y,Z,a0,a1,a2,a3,a4,a5,a6,a7,a8,a9,b0,b1,b2,b3,b4,b5,b6,b7,b8,b9,c0,c1,c2,c3,c4,c5,c6]) S =
  (zF (Jo (dem o) S) (fun v0 q => zF (Jo (dem p) q) (fun v1 S2 => some ([o,p,v0,v1,Value.bool false,g,x6,x7,x8,x9,z,A,B,C,D,E,F,G,H,I,J,K,L,M,N,P,Q,R,U,V,W,X,Y,Z,a0,a1,a2,a3,a4,a5,a6,a7,a8,a9,b0,b1,b2,b3,b4,b5,b6,b7,b8,b9,c0,c1,c2,c3,c4,c5,c6], S2)) ()) ()) := by
 kernel_rfl
theorem wG.r1  : jv Try.prog ⟨false, false, false⟩ (zQ Try.prog O) (reg Try.f66 1) (reg Try.f66 1).toList ([o,p,l,m,x4,g,x6,x7,x8,x9,z,A,B,C,D,E,F,G,H,I,J,K,L,M,N,P,Q,R,U,V,W,X,Y,Z,a0,a1,a2,a3,a4,a5,a6,a7,a8,a9,b0,b1,b2,b3,b4,b5,b6,b7,b8,b9,c0,c1,c2,c3,c4,c5,c6]) S =
  (zF (zo Try.prog 48 l 0 S) (fun v0 q => zF (zZ Try.prog false 3 v0 q) (fun v1 S2 => zF (zo Try.prog 48 m 0 S2) (fun v2 S3 => zF (zZ Try.prog false 3 v2 S3) (fun v3 S4 => zF (jX Try.prog BinOp.eql 3 v1 v3 S4) (fun i S5 => gdK (dem i) true (zo Try.prog 48 l 1) S5 (fun v6 S6 => gdK (dem i) true (zZ Try.prog false 3 v6) S6 (fun k S7 => gdK (dem i) true (zo Try.prog 48 m 1) S7 (fun v8 S8 => gdK (dem i) true (zZ Try.prog false 3 v8) S8 (fun v9 S9 => gdK (dem i) true (jX Try.prog BinOp.eql 3 k v9) S9 (fun r c7 => zF (wP (dem i) r (Value.bool false) c7) (fun b c8 => gdK (dem b) true (zo Try.prog 48 l 2) c8 (fun s c9 => gdK (dem b) true (zZ Try.prog false 3 s) c9 (fun c d0 => gdK (dem b) true (zo Try.prog 48 m 2) d0 (fun f2 d1 => gdK (dem b) true (zZ Try.prog false 3 f2) d1 (fun t d2 => gdK (dem b) true (jX Try.prog BinOp.eql 3 c t) d2 (fun u d3 => zF (wP (dem b) u (Value.bool false) d3) (fun d d4 => gdK (dem d) true (zo Try.prog 48 l 3) d4 (fun w d5 => gdK (dem d) true (zZ Try.prog false 3 w) d5 (fun f d6 => gdK (dem d) true (zo Try.prog 48 m 3) d6 (fun f3 d7 => gdK (dem d) true (zZ Try.prog false 3 f3) d7 (fun x d8 => gdK (dem d) true (jX Try.prog BinOp.eql 3 f x) d8 (fun y d9 => zF (wP (dem d) y (Value.bool false) d9) (fun n f0 => some ([o,p,l,m,x4,n,v0,v1,v2,v3,i,dem i,v6,k,v8,v9,r,b,dem b,s,c,f2,t,u,d,dem d,w,f,f3,x,y,dem n,Y,Z,a0,a1,a2,a3,a4,a5,a6,a7,a8,a9,b0,b1,b2,b3,b4,b5,b6,b7,b8,b9,c0,c1,c2,c3,c4,c5,c6], f0)) ()) ()) ()) ()) ()) ()) ()) ()) ()) ()) ()) ()) ()) ()) ()) ()) ()) ()) ()) ()) ()) ()) ()) := by
 refine sD Try.f66 1 0 (fun v0 q => ?_)
 refine sD Try.f66 1 1 (fun v1 S2 => ?_)
 refine sD Try.f66 1 2 (fun v2 S3 => ?_)
 refine sD Try.f66 1 3 (fun v3 S4 => ?_)
 refine sD Try.f66 1 4 (fun i S5 => ?_)
 refine sP Try.f66 1 5 (v := i) ?_
 refine sG Try.f66 1 6 (j := 5) (fun v6 S6 => ?_)
 refine sG Try.f66 1 7 (j := 5) (fun k S7 => ?_)
 refine sG Try.f66 1 8 (j := 5) (fun v8 S8 => ?_)
 refine sG Try.f66 1 9 (j := 5) (fun v9 S9 => ?_)
 refine sG Try.f66 1 10 (j := 5) (fun r c7 => ?_)
 refine sD Try.f66 1 11 (fun b c8 => ?_)
 refine sP Try.f66 1 12 (v := b) ?_
 refine sG Try.f66 1 13 (j := 12) (fun s c9 => ?_)
 refine sG Try.f66 1 14 (j := 12) (fun c d0 => ?_)
 refine sG Try.f66 1 15 (j := 12) (fun f2 d1 => ?_)
 refine sG Try.f66 1 16 (j := 12) (fun t d2 => ?_)
 refine sG Try.f66 1 17 (j := 12) (fun u d3 => ?_)
 refine sD Try.f66 1 18 (fun d d4 => ?_)
 refine sP Try.f66 1 19 (v := d) ?_
 refine sG Try.f66 1 20 (j := 19) (fun w d5 => ?_)
 refine sG Try.f66 1 21 (j := 19) (fun f d6 => ?_)
 refine sG Try.f66 1 22 (j := 19) (fun f3 d7 => ?_)
 refine sG Try.f66 1 23 (j := 19) (fun x d8 => ?_)
 refine sG Try.f66 1 24 (j := 19) (fun y d9 => ?_)
 refine sD Try.f66 1 25 (fun n f0 => ?_)
 refine sP Try.f66 1 26 (v := n) ?_
 kernel_rfl
theorem wG.r2  : jv Try.prog ⟨false, false, false⟩ (zQ Try.prog O) (reg Try.f66 2) (reg Try.f66 2).toList ([o,p,l,m,x4,g,x6,x7,x8,x9,z,A,B,C,D,E,F,G,H,I,J,K,L,M,N,P,Q,R,U,V,W,X,Y,Z,a0,a1,a2,a3,a4,a5,a6,a7,a8,a9,b0,b1,b2,b3,b4,b5,b6,b7,b8,b9,c0,c1,c2,c3,c4,c5,c6]) S =
  (gdK (dem g) true (zo Try.prog 48 l 4) S (fun v2 q => gdK (dem g) true (zZ Try.prog false 3 v2) q (fun v3 S2 => gdK (dem g) true (zo Try.prog 48 m 4) S2 (fun i S3 => gdK (dem g) true (zZ Try.prog false 3 i) S3 (fun v5 S4 => gdK (dem g) true (jX Try.prog BinOp.eql 3 v3 v5) S4 (fun v6 S5 => zF (wP (dem g) v6 (Value.bool false) S5) (fun k S6 => gdK (dem k) true (zo Try.prog 48 l 5) S6 (fun v9 S7 => gdK (dem k) true (zZ Try.prog false 3 v9) S7 (fun r S8 => gdK (dem k) true (zo Try.prog 48 m 5) S8 (fun b S9 => gdK (dem k) true (zZ Try.prog false 3 b) S9 (fun f4 c7 => gdK (dem k) true (jX Try.prog BinOp.eql 3 r f4) c7 (fun s c8 => zF (wP (dem k) s (Value.bool false) c8) (fun c c9 => gdK (dem c) true (zo Try.prog 48 l 6) c9 (fun t d0 => gdK (dem c) true (zZ Try.prog false 43 t) d0 (fun u d1 => gdK (dem c) true (zo Try.prog 48 m 6) d1 (fun d d2 => gdK (dem c) true (zZ Try.prog false 43 d) d2 (fun f5 d3 => gdK (dem c) true (jX Try.prog BinOp.eql 43 u f5) d3 (fun w d4 => zF (wP (dem c) w (Value.bool false) d4) (fun f d5 => gdK (dem f) true (zo Try.prog 48 l 7) d5 (fun x d6 => gdK (dem f) true (zZ Try.prog false 46 x) d6 (fun y d7 => gdK (dem f) true (zo Try.prog 48 m 7) d7 (fun n d8 => gdK (dem f) true (zZ Try.prog false 46 n) d8 (fun f6 d9 => gdK (dem f) true ((zQ Try.prog O) 73 [(dem y), (dem f6)]) d9 (fun f7 f0 => zF (wP (dem f) f7 (Value.bool false) f0) (fun f1 f8 => some ([o,p,l,m,f1,dem g,x6,x7,x8,x9,z,A,B,C,D,E,F,G,H,I,J,K,L,M,N,P,Q,R,U,V,W,X,g,dem g,v2,v3,i,v5,v6,k,dem k,v9,r,b,f4,s,c,dem c,t,u,d,f5,w,f,dem f,x,y,n,f6,f7,dem f1], f8)) ()) ()) ()) ()) ()) ()) ()) ()) ()) ()) ()) ()) ()) ()) ()) ()) ()) ()) ()) ()) ()) ()) ()) ()) := by
 refine sP Try.f66 2 0 (v := g) ?_
 refine sP Try.f66 2 1 (v := g) ?_
 refine sG Try.f66 2 2 (j := 1) (fun v2 q => ?_)
 refine sG Try.f66 2 3 (j := 1) (fun v3 S2 => ?_)
 refine sG Try.f66 2 4 (j := 1) (fun i S3 => ?_)
 refine sG Try.f66 2 5 (j := 1) (fun v5 S4 => ?_)
 refine sG Try.f66 2 6 (j := 1) (fun v6 S5 => ?_)
 refine sD Try.f66 2 7 (fun k S6 => ?_)
 refine sP Try.f66 2 8 (v := k) ?_
 refine sG Try.f66 2 9 (j := 8) (fun v9 S7 => ?_)
 refine sG Try.f66 2 10 (j := 8) (fun r S8 => ?_)
 refine sG Try.f66 2 11 (j := 8) (fun b S9 => ?_)
 refine sG Try.f66 2 12 (j := 8) (fun f4 c7 => ?_)
 refine sG Try.f66 2 13 (j := 8) (fun s c8 => ?_)
 refine sD Try.f66 2 14 (fun c c9 => ?_)
 refine sP Try.f66 2 15 (v := c) ?_
 refine sG Try.f66 2 16 (j := 15) (fun t d0 => ?_)
 refine sG Try.f66 2 17 (j := 15) (fun u d1 => ?_)
 refine sG Try.f66 2 18 (j := 15) (fun d d2 => ?_)
 refine sG Try.f66 2 19 (j := 15) (fun f5 d3 => ?_)
 refine sG Try.f66 2 20 (j := 15) (fun w d4 => ?_)
 refine sD Try.f66 2 21 (fun f d5 => ?_)
 refine sP Try.f66 2 22 (v := f) ?_
 refine sG Try.f66 2 23 (j := 22) (fun x d6 => ?_)
 refine sG Try.f66 2 24 (j := 22) (fun y d7 => ?_)
 refine sG Try.f66 2 25 (j := 22) (fun n d8 => ?_)
 refine sG Try.f66 2 26 (j := 22) (fun f6 d9 => ?_)
 refine sG Try.f66 2 27 (j := 22) (fun f7 f0 => ?_)
 refine sD Try.f66 2 28 (fun f1 f8 => ?_)
 refine sP Try.f66 2 29 (v := f1) ?_
 kernel_rfl
theorem wG.rs : type_of% (And.intro @wG.r0 (And.intro @wG.r1 (@wG.r2))) := And.intro @wG.r0 (And.intro @wG.r1 (@wG.r2))
theorem wG.runs {o p : Value} {S q : zi} {e : AEx} {T : List Value} (h : zA Try.prog O false wG.code ([o,p,undef,undef,undef,undef,undef,undef,undef,undef,undef,undef,undef,undef,undef,undef,undef,undef,undef,undef,undef,undef,undef,undef,undef,undef,undef,undef,undef,undef,undef,undef,undef,undef,undef,undef,undef,undef,undef,undef,undef,undef,undef,undef,undef,undef,undef,undef,undef,undef,undef,undef,undef,undef,undef,undef,undef,undef,undef,undef,undef]) zi.empty = some (e, T, q)) (he : e = .normal ∨ e = .ret) (hca : [o, p].all (jH 16) = true) (hcv : jH 16 (T.getD 4 undef) = true) : zQ Try.prog O 66 [o, p] S = some (T.getD 4 undef, S) :=
 wZ rfl rfl Try.func66 (by decide) wG.body (by exact h) he (wV (a := T.getD 4 undef) ((show zG Try.prog T q Try.f66.results.toList = zG Try.prog T q [(ResultVar.tmp 4)] from by kernel_rfl).trans (by simp only [zG])) (by kernel_rfl)) hca hcv
end Go.Proofs.Ytfjogganfjkckaa
namespace Go.Proofs.Ytfjogganfjkckaa
open Go.Abs
abbrev jL.id : FuncId := 69
noncomputable def jL.code : Code := (Code.seq (Code.region 0 (reg Try.f69 0) false) (Code.seq (Code.region 1 (reg Try.f69 1) false) (Code.seq (Code.region 2 (reg Try.f69 2) false) Code.ret)))
theorem jL.body : Try.f69.body = some jL.code := by kernel_rfl
variable (c f x2 L M N P Q R U k l m n o p q r s t u w x y z A B C D : Value) (S : zi)
theorem jL.r0  : jv Try.prog ⟨false, false, false⟩ (zQ Try.prog O) (reg Try.f69 0) (reg Try.f69 0).toList ([c,f,x2,L,M,N,P,Q,R,U,k,l,m,n,o,p,q,r,s,t,u,w,x,y,z,A,B,C,D]) S =
  (zF (Jo (dem c) S) (fun i d => some ([c,i,Value.bool false,L,M,N,P,Q,R,U,k,l,m,n,o,p,q,r,s,t,u,w,x,y,z,A,B,C,D], d)) ()) := by
 kernel_rfl
theorem jL.r1  : jv Try.prog ⟨false, false, false⟩ (zQ Try.prog O) (reg Try.f69 1) (reg Try.f69 1).toList ([c,f,x2,L,M,N,P,Q,R,U,k,l,m,n,o,p,q,r,s,t,u,w,x,y,z,A,B,C,D]) S =
  (zF (zo Try.prog 48 f 0 S) (fun i d => zF (zZ Try.prog false 3 i d) (fun G V => zF (jX Try.prog BinOp.eql 3 G (Value.int IntKind.i64 4) V) (fun b W => gdK (dem b) false (zo Try.prog 48 f 0) W (fun H X => gdK (dem b) false (zZ Try.prog false 3 H) X (fun I Y => gdK (dem b) false (jX Try.prog BinOp.eql 3 I (Value.int IntKind.i64 5)) Y (fun J Z => zF (wP (dem b) (Value.bool true) J Z) (fun E S7 => some ([c,f,x2,E,i,G,b,dem b,H,I,J,dem E,m,n,o,p,q,r,s,t,u,w,x,y,z,A,B,C,D], S7)) ()) ()) ()) ()) ()) ()) ()) := by
 refine sD Try.f69 1 0 (fun i d => ?_)
 refine sD Try.f69 1 1 (fun G V => ?_)
 refine sD Try.f69 1 2 (fun b W => ?_)
 refine sP Try.f69 1 3 (v := b) ?_
 refine sG Try.f69 1 4 (j := 3) (fun H X => ?_)
 refine sG Try.f69 1 5 (j := 3) (fun I Y => ?_)
 refine sG Try.f69 1 6 (j := 3) (fun J Z => ?_)
 refine sD Try.f69 1 7 (fun E S7 => ?_)
 refine sP Try.f69 1 8 (v := E) ?_
 kernel_rfl
theorem jL.r2  : jv Try.prog ⟨false, false, false⟩ (zQ Try.prog O) (reg Try.f69 2) (reg Try.f69 2).toList ([c,f,x2,L,M,N,P,Q,R,U,k,l,m,n,o,p,q,r,s,t,u,w,x,y,z,A,B,C,D]) S =
  (zF (zo Try.prog 48 f 4 S) (fun i d => zF (zZ Try.prog false 3 i d) (fun G V => zF (jX Try.prog BinOp.eql 3 G (Value.int IntKind.i64 0) V) (fun b W => gdK (dem b) false (zo Try.prog 48 f 4) W (fun H X => gdK (dem b) false (zZ Try.prog false 3 H) X (fun I Y => gdK (dem b) false ((zQ Try.prog O) 74 [(dem I)]) Y (fun J Z => gdK (dem b) false (jX Try.prog BinOp.gtr 3 J (Value.int IntKind.i64 0)) Z (fun E S7 => zF (wP (dem b) (Value.bool true) E S7) (fun F S8 => gdK (dem F) false (ret L) S8 (fun a0 S9 => gdK (dem F) false (ret a0) S9 (fun g a5 => gdK (dem g) true (zo Try.prog 48 f 4) a5 (fun a1 a6 => gdK (dem g) true (zZ Try.prog false 3 a1) a6 (fun a2 a7 => gdK (dem g) true (jX Try.prog BinOp.eql 3 a2 (Value.int IntKind.i64 (-1))) a7 (fun a3 a8 => gdK (dem F) false (wP (dem g) a3 (Value.bool false)) a8 (fun a4 a9 => zF (wP (dem F) (Value.bool true) a4 a9) (fun K b0 => some ([c,f,K,dem L,M,N,P,Q,R,U,k,l,i,G,b,dem b,H,I,J,E,F,dem F,a0,dem g,a1,a2,a3,a4,dem K], b0)) ()) ()) ()) ()) ()) ()) ()) ()) ()) ()) ()) ()) ()) ()) ()) := by
 refine sD Try.f69 2 0 (fun i d => ?_)
 refine sD Try.f69 2 1 (fun G V => ?_)
 refine sD Try.f69 2 2 (fun b W => ?_)
 refine sP Try.f69 2 3 (v := b) ?_
 refine sG Try.f69 2 4 (j := 3) (fun H X => ?_)
 refine sG Try.f69 2 5 (j := 3) (fun I Y => ?_)
 refine sG Try.f69 2 6 (j := 3) (fun J Z => ?_)
 refine sG Try.f69 2 7 (j := 3) (fun E S7 => ?_)
 refine sD Try.f69 2 8 (fun F S8 => ?_)
 refine sP Try.f69 2 9 (v := F) ?_
 refine sG Try.f69 2 10 (j := 9) (fun a0 S9 => ?_)
 refine sG Try.f69 2 11 (j := 9) (fun g a5 => ?_)
 refine sG Try.f69 2 12 (j := 11) (fun a1 a6 => ?_)
 refine sG Try.f69 2 13 (j := 11) (fun a2 a7 => ?_)
 refine sG Try.f69 2 14 (j := 11) (fun a3 a8 => ?_)
 refine sG Try.f69 2 15 (j := 9) (fun a4 a9 => ?_)
 refine sD Try.f69 2 16 (fun K b0 => ?_)
 refine sP Try.f69 2 17 (v := K) ?_
 kernel_rfl
theorem jL.rs : type_of% (And.intro @jL.r0 (And.intro @jL.r1 (@jL.r2))) := And.intro @jL.r0 (And.intro @jL.r1 (@jL.r2))
theorem jL.runs {c : Value} {S d : zi} {e : AEx} {T : List Value} (h : zA Try.prog O false jL.code ([c,undef,undef,undef,undef,undef,undef,undef,undef,undef,undef,undef,undef,undef,undef,undef,undef,undef,undef,undef,undef,undef,undef,undef,undef,undef,undef,undef,undef]) zi.empty = some (e, T, d)) (he : e = .normal ∨ e = .ret) (hca : [c].all (jH 16) = true) (hcv : jH 16 (T.getD 2 undef) = true) : zQ Try.prog O 69 [c] S = some (T.getD 2 undef, S) :=
 wZ rfl rfl Try.func69 (by decide) jL.body (by exact h) he (wV (a := T.getD 2 undef) ((show zG Try.prog T d Try.f69.results.toList = zG Try.prog T d [(ResultVar.tmp 2)] from by kernel_rfl).trans (by simp only [zG])) (by kernel_rfl)) hca hcv
end Go.Proofs.Ytfjogganfjkckaa
namespace Go.Proofs.Ytfjogganfjkckaa
open Go.Abs
abbrev qX.id : FuncId := 44
noncomputable def qX.code : Code := (Code.seq (Code.region 0 (reg Try.f44 0) false) (Code.seq (Code.region 1 (reg Try.f44 1) false) Code.ret))
theorem qX.body : Try.f44.body = some qX.code := by kernel_rfl
variable (b d k f g i j : Value) (S : zi)
theorem qX.r0  : jv Try.prog ⟨false, false, false⟩ (zQ Try.prog O) (reg Try.f44 0) (reg Try.f44 0).toList ([b,d,k,f,g,i,j]) S =
  ( some ([b,d,Value.int IntKind.u64 0,f,g,i,j], S)) := by
 kernel_rfl
theorem qX.r1  : jv Try.prog ⟨false, false, false⟩ (zQ Try.prog O) (reg Try.f44 1) (reg Try.f44 1).toList ([b,d,k,f,g,i,j]) S =
  (zF (qN Try.prog false false 3 73 (dem b) S) (fun l c => zF (jX Try.prog BinOp.add 73 l (Value.int IntKind.u64 1) c) (fun m o => zF (jX Try.prog BinOp.mul 73 m (Value.int IntKind.u64 11400714819323198485) o) (fun n p => some ([b,d,n,dem b,l,m,dem n], p)) ()) ()) ()) := by
 kernel_rfl
theorem qX.rs : type_of% (And.intro @qX.r0 (@qX.r1)) := And.intro @qX.r0 (@qX.r1)
theorem qX.runs {b : Value} {S c : zi} {e : AEx} {T : List Value} (h : zA Try.prog O false qX.code ([b,undef,undef,undef,undef,undef,undef]) S = some (e, T, c)) (he : e = .normal ∨ e = .ret) : zQ Try.prog O 44 [b] S = some (T.getD 2 undef, c) :=
 yB rfl rfl Try.func44 (by decide) qX.body (by exact h) he (wV (a := T.getD 2 undef) ((show zG Try.prog T c Try.f44.results.toList = zG Try.prog T c [(ResultVar.tmp 2)] from by kernel_rfl).trans (by simp only [zG])) (by kernel_rfl))
end Go.Proofs.Ytfjogganfjkckaa
namespace Go.Proofs.Ytfjogganfjkckaa
open Go.Abs
abbrev jW.id : FuncId := 59
noncomputable def jW.jP : Code := (Code.seq (Code.region 6 (reg Try.f59 6) false) (Code.seq (Code.cond (Operand.tmp 21) Code.skip (Code.exit 2)) (Code.seq (Code.block 3 (Code.seq (Code.region 7 (reg Try.f59 7) false) (Code.region 8 (reg Try.f59 8) false))) (Code.region 9 (reg Try.f59 9) false))))
noncomputable def jW.ZY : Code := (Code.seq (Code.region 3 (reg Try.f59 3) false) (Code.seq (Code.cond (Operand.tmp 15) Code.skip (Code.exit 0)) (Code.seq (Code.block 1 (Code.seq (Code.region 4 (reg Try.f59 4) false) (Code.seq (Code.region 5 (reg Try.f59 5) false) (Code.block 2 (Code.loop jW.jP))))) (Code.region 10 (reg Try.f59 10) false))))
noncomputable def jW.code : Code := (Code.seq (Code.region 0 (reg Try.f59 0) false) (Code.seq (Code.region 1 (reg Try.f59 1) false) (Code.seq (Code.seq (Code.region 2 (reg Try.f59 2) false) (Code.block 0 (Code.loop jW.ZY))) (Code.seq (Code.region 11 (reg Try.f59 11) false) Code.ret))))
theorem jW.body : Try.f59.body = some jW.code := by kernel_rfl
theorem jW.eta {T : List Value} (h : T.length = 35) : T = [T.getD 0 undef,T.getD 1 undef,T.getD 2 undef,T.getD 3 undef,T.getD 4 undef,T.getD 5 undef,T.getD 6 undef,T.getD 7 undef,T.getD 8 undef,T.getD 9 undef,T.getD 10 undef,T.getD 11 undef,T.getD 12 undef,T.getD 13 undef,T.getD 14 undef,T.getD 15 undef,T.getD 16 undef,T.getD 17 undef,T.getD 18 undef,T.getD 19 undef,T.getD 20 undef,T.getD 21 undef,T.getD 22 undef,T.getD 23 undef,T.getD 24 undef,T.getD 25 undef,T.getD 26 undef,T.getD 27 undef,T.getD 28 undef,T.getD 29 undef,T.getD 30 undef,T.getD 31 undef,T.getD 32 undef,T.getD 33 undef,T.getD 34 undef] := (qG T 35 h).trans (by kernel_rfl)
variable (C D I J M E K G L H j k d f b l m n g i c o p q r s t u v w x y z A B : Value) (S : zi)
theorem jW.r0  : jv Try.prog ⟨false, false, false⟩ (zQ Try.prog O) (reg Try.f59 0) (reg Try.f59 0).toList ([C,D,I,J,M,E,K,G,L,H,j,k,d,f,b,l,m,n,g,i,c,o,p,q,r,s,t,u,v,w,x,y,z,A,B]) S =
  ( some ([C,D,I,J,Value.int IntKind.u64 0,E,K,G,L,H,j,k,d,f,b,l,m,n,g,i,c,o,p,q,r,s,t,u,v,w,x,y,z,A,B], S)) := by
 kernel_rfl
theorem jW.r1  : jv Try.prog ⟨false, false, false⟩ (zQ Try.prog O) (reg Try.f59 1) (reg Try.f59 1).toList ([C,D,I,J,M,E,K,G,L,H,j,k,d,f,b,l,m,n,g,i,c,o,p,q,r,s,t,u,v,w,x,y,z,A,B]) S =
  (zF (jX Try.prog BinOp.xor 73 (dem C) (Value.int IntKind.u64 14695981039346656037) S) (fun P F => some ([C,D,I,J,M,P,K,G,L,H,dem C,dem P,d,f,b,l,m,n,g,i,c,o,p,q,r,s,t,u,v,w,x,y,z,A,B], F)) ()) := by
 kernel_rfl
theorem jW.r2  : jv Try.prog ⟨false, false, false⟩ (zQ Try.prog O) (reg Try.f59 2) (reg Try.f59 2).toList ([C,D,I,J,M,E,K,G,L,H,j,k,d,f,b,l,m,n,g,i,c,o,p,q,r,s,t,u,v,w,x,y,z,A,B]) S =
  (zF (ZM Try.prog 29 (dem D) S) (fun P F => some ([C,D,I,J,M,E,K,G,L,H,j,k,dem D,P,Value.int IntKind.i64 0,l,m,n,g,i,c,o,p,q,r,s,t,u,v,w,x,y,z,A,B], F)) ()) := by
 kernel_rfl
theorem jW.r3  : jv Try.prog ⟨false, false, false⟩ (zQ Try.prog O) (reg Try.f59 3) (reg Try.f59 3).toList ([C,D,I,J,M,E,K,G,L,H,j,k,d,f,b,l,m,n,g,i,c,o,p,q,r,s,t,u,v,w,x,y,z,A,B]) S =
  (zF (jX Try.prog BinOp.lss 3 b f S) (fun N F => some ([C,D,I,J,M,E,K,G,L,H,j,k,d,f,b,N,m,n,g,i,c,o,p,q,r,s,t,u,v,w,x,y,z,A,B], F)) ()) := by
 kernel_rfl
theorem jW.r4  : jv Try.prog ⟨false, false, false⟩ (zQ Try.prog O) (reg Try.f59 4) (reg Try.f59 4).toList ([C,D,I,J,M,E,K,G,L,H,j,k,d,f,b,l,m,n,g,i,c,o,p,q,r,s,t,u,v,w,x,y,z,A,B]) S =
  (zF (jB Try.prog 29 d b S) (fun N F => zF (zZ Try.prog false 33 N F) (fun P Q => some ([C,D,I,J,M,E,K,P,L,H,j,k,d,f,b,l,N,dem P,g,i,c,o,p,q,r,s,t,u,v,w,x,y,z,A,B], Q)) ()) ()) := by
 kernel_rfl
theorem jW.r5  : jv Try.prog ⟨false, false, false⟩ (zQ Try.prog O) (reg Try.f59 5) (reg Try.f59 5).toList ([C,D,I,J,M,E,K,G,L,H,j,k,d,f,b,l,m,n,g,i,c,o,p,q,r,s,t,u,v,w,x,y,z,A,B]) S =
  (zF (ZM Try.prog 33 (dem G) S) (fun P F => some ([C,D,I,J,M,E,K,G,L,H,j,k,d,f,b,l,m,n,dem G,P,Value.int IntKind.i64 0,o,p,q,r,s,t,u,v,w,x,y,z,A,B], F)) ()) := by
 kernel_rfl
theorem jW.r6  : jv Try.prog ⟨false, false, false⟩ (zQ Try.prog O) (reg Try.f59 6) (reg Try.f59 6).toList ([C,D,I,J,M,E,K,G,L,H,j,k,d,f,b,l,m,n,g,i,c,o,p,q,r,s,t,u,v,w,x,y,z,A,B]) S =
  (zF (jX Try.prog BinOp.lss 3 c i S) (fun N F => some ([C,D,I,J,M,E,K,G,L,H,j,k,d,f,b,l,m,n,g,i,c,N,p,q,r,s,t,u,v,w,x,y,z,A,B], F)) ()) := by
 kernel_rfl
theorem jW.r7  : jv Try.prog ⟨false, false, false⟩ (zQ Try.prog O) (reg Try.f59 7) (reg Try.f59 7).toList ([C,D,I,J,M,E,K,G,L,H,j,k,d,f,b,l,m,n,g,i,c,o,p,q,r,s,t,u,v,w,x,y,z,A,B]) S =
  (zF (jB Try.prog 33 g c S) (fun N F => zF (zZ Try.prog false 5 N F) (fun P Q => some ([C,D,I,J,M,E,K,G,L,P,j,k,d,f,b,l,m,n,g,i,c,o,N,dem P,r,s,t,u,v,w,x,y,z,A,B], Q)) ()) ()) := by
 kernel_rfl
theorem jW.r8  : jv Try.prog ⟨false, false, false⟩ (zQ Try.prog O) (reg Try.f59 8) (reg Try.f59 8).toList ([C,D,I,J,M,E,K,G,L,H,j,k,d,f,b,l,m,n,g,i,c,o,p,q,r,s,t,u,v,w,x,y,z,A,B]) S =
  (zF (qN Try.prog false false 5 73 (dem H) S) (fun R F => zF (jX Try.prog BinOp.xor 73 (dem E) R F) (fun U Q => zF (jX Try.prog BinOp.mul 73 U (Value.int IntKind.u64 1099511628211) Q) (fun V W => some ([C,D,I,J,M,V,K,G,L,H,j,k,d,f,b,l,m,n,g,i,c,o,p,q,dem E,dem H,R,U,dem V,w,x,y,z,A,B], W)) ()) ()) ()) := by
 kernel_rfl
theorem jW.r9  : jv Try.prog ⟨false, false, false⟩ (zQ Try.prog O) (reg Try.f59 9) (reg Try.f59 9).toList ([C,D,I,J,M,E,K,G,L,H,j,k,d,f,b,l,m,n,g,i,c,o,p,q,r,s,t,u,v,w,x,y,z,A,B]) S =
  (zF (jX Try.prog BinOp.add 3 c (Value.int IntKind.i64 1) S) (fun N F => some ([C,D,I,J,M,E,K,G,L,H,j,k,d,f,b,l,m,n,g,i,dem N,o,p,q,r,s,t,u,v,N,x,y,z,A,B], F)) ()) := by
 kernel_rfl
theorem jW.r10  : jv Try.prog ⟨false, false, false⟩ (zQ Try.prog O) (reg Try.f59 10) (reg Try.f59 10).toList ([C,D,I,J,M,E,K,G,L,H,j,k,d,f,b,l,m,n,g,i,c,o,p,q,r,s,t,u,v,w,x,y,z,A,B]) S =
  (zF (jX Try.prog BinOp.add 3 b (Value.int IntKind.i64 1) S) (fun N F => some ([C,D,I,J,M,E,K,G,L,H,j,k,d,f,dem N,l,m,n,g,i,c,o,p,q,r,s,t,u,v,w,N,y,z,A,B], F)) ()) := by
 kernel_rfl
theorem jW.r11  : jv Try.prog ⟨false, false, false⟩ (zQ Try.prog O) (reg Try.f59 11) (reg Try.f59 11).toList ([C,D,I,J,M,E,K,G,L,H,j,k,d,f,b,l,m,n,g,i,c,o,p,q,r,s,t,u,v,w,x,y,z,A,B]) S =
  (zF (jX Try.prog BinOp.shr 73 (dem E) (Value.int IntKind.u64 29) S) (fun R F => zF (jX Try.prog BinOp.xor 73 (dem E) R F) (fun U Q => some ([C,D,I,J,U,E,K,G,L,H,j,k,d,f,b,l,m,n,g,i,c,o,p,q,r,s,t,u,v,w,x,dem E,dem E,R,dem U], Q)) ()) ()) := by
 kernel_rfl
theorem jW.rs : type_of% (And.intro @jW.r0 (And.intro @jW.r1 (And.intro @jW.r2 (And.intro @jW.r3 (And.intro @jW.r4 (And.intro @jW.r5 (And.intro @jW.r6 (And.intro @jW.r7 (And.intro @jW.r8 (And.intro @jW.r9 (And.intro @jW.r10 (@jW.r11)))))))))))) := And.intro @jW.r0 (And.intro @jW.r1 (And.intro @jW.r2 (And.intro @jW.r3 (And.intro @jW.r4 (And.intro @jW.r5 (And.intro @jW.r6 (And.intro @jW.r7 (And.intro @jW.r8 (And.intro @jW.r9 (And.intro @jW.r10 (@jW.r11)))))))))))
theorem jW.runs {C D : Value} {S F : zi} {e : AEx} {T : List Value} (h : zA Try.prog O false jW.code ([C,D,undef,undef,undef,undef,undef,undef,undef,undef,undef,undef,undef,undef,undef,undef,undef,undef,undef,undef,undef,undef,undef,undef,undef,undef,undef,undef,undef,undef,undef,undef,undef,undef,undef]) S = some (e, T, F)) (he : e = .normal ∨ e = .ret) : zQ Try.prog O 59 [C, D] S = some (T.getD 4 undef, F) :=
 yB rfl rfl Try.func59 (by decide) jW.body (by exact h) he (wV (a := T.getD 4 undef) ((show zG Try.prog T F Try.f59.results.toList = zG Try.prog T F [(ResultVar.tmp 4)] from by kernel_rfl).trans (by simp only [zG])) (by kernel_rfl))
end Go.Proofs.Ytfjogganfjkckaa
namespace Go.Proofs.Ytfjogganfjkckaa
open Go.Abs
abbrev yU.id : FuncId := 43
noncomputable def yU.code : Code := (Code.seq (Code.region 0 (reg Try.f43 0) false) (Code.seq (Code.region 1 (reg Try.f43 1) false) Code.ret))
theorem yU.body : Try.f43.body = some yU.code := by kernel_rfl
variable (b c d k l m q n o p g i j : Value) (S : zi)
theorem yU.r0  : jv Try.prog ⟨false, false, false⟩ (zQ Try.prog O) (reg Try.f43 0) (reg Try.f43 0).toList ([b,c,d,k,l,m,q,n,o,p,g,i,j]) S =
  ( some ([b,c,d,k,l,m,Value.bool false,n,o,p,g,i,j], S)) := by
 kernel_rfl
theorem yU.r1  : jv Try.prog ⟨false, false, false⟩ (zQ Try.prog O) (reg Try.f43 1) (reg Try.f43 1).toList ([b,c,d,k,l,m,q,n,o,p,g,i,j]) S =
  (zF (jR Try.prog 29 1 [(0, (dem d))] S) (fun r f => zF ((zQ Try.prog O) 59 [(dem (dem b)), (dem r)] f) (fun s u => zF (jX Try.prog BinOp.eql 73 s (dem c) u) (fun t v => some ([b,c,d,k,l,m,t,dem b,dem d,r,s,dem c,dem t], v)) ()) ()) ()) := by
 kernel_rfl
theorem yU.rs : type_of% (And.intro @yU.r0 (@yU.r1)) := And.intro @yU.r0 (@yU.r1)
theorem yU.runs {b c d : Value} {S f : zi} {e : AEx} {T : List Value} (h : zA Try.prog O false yU.code ([b,c,d,undef,undef,undef,undef,undef,undef,undef,undef,undef,undef]) S = some (e, T, f)) (he : e = .normal ∨ e = .ret) : zQ Try.prog O 43 [b, c, d] S = some (T.getD 6 undef, f) :=
 yB rfl rfl Try.func43 (by decide) yU.body (by exact h) he (wV (a := T.getD 6 undef) ((show zG Try.prog T f Try.f43.results.toList = zG Try.prog T f [(ResultVar.tmp 6)] from by kernel_rfl).trans (by simp only [zG])) (by kernel_rfl))
end Go.Proofs.Ytfjogganfjkckaa
namespace Go.Proofs.Ytfjogganfjkckaa
open Go.Abs
abbrev yG.id : FuncId := 40
variable (p q r s t u v w x y a b c d f g i j k l m n o : Value) (S : zi)
end Go.Proofs.Ytfjogganfjkckaa
namespace Go.Proofs.Ytfjogganfjkckaa
open Go.Abs
abbrev zK.id : FuncId := 39
noncomputable def zK.jP : Code := (Code.seq (Code.seq (Code.region 3 (reg Try.f39 3) false) (Code.cond (Operand.tmp 12) Code.skip (Code.exit 0))) (Code.seq (Code.block 1 (Code.seq (Code.region 5 (reg Try.f39 5) false) (Code.region 6 (reg Try.f39 6) false))) (Code.region 4 (reg Try.f39 4) false)))
noncomputable def zK.code : Code := (Code.seq (Code.region 0 (reg Try.f39 0) false) (Code.seq (Code.region 1 (reg Try.f39 1) false) (Code.seq (Code.seq (Code.region 2 (reg Try.f39 2) false) (Code.block 0 (Code.loop zK.jP))) (Code.seq (Code.region 7 (reg Try.f39 7) false) Code.ret))))
theorem zK.body : Try.f39.body = some zK.code := by kernel_rfl
theorem zK.eta {T : List Value} (h : T.length = 34) : T = [T.getD 0 undef,T.getD 1 undef,T.getD 2 undef,T.getD 3 undef,T.getD 4 undef,T.getD 5 undef,T.getD 6 undef,T.getD 7 undef,T.getD 8 undef,T.getD 9 undef,T.getD 10 undef,T.getD 11 undef,T.getD 12 undef,T.getD 13 undef,T.getD 14 undef,T.getD 15 undef,T.getD 16 undef,T.getD 17 undef,T.getD 18 undef,T.getD 19 undef,T.getD 20 undef,T.getD 21 undef,T.getD 22 undef,T.getD 23 undef,T.getD 24 undef,T.getD 25 undef,T.getD 26 undef,T.getD 27 undef,T.getD 28 undef,T.getD 29 undef,T.getD 30 undef,T.getD 31 undef,T.getD 32 undef,T.getD 33 undef] := (qG T 34 h).trans (by kernel_rfl)
variable (D c F G L b E I J K d f g i j k l m n o p q r s t u v w x y z A B C : Value) (S : zi)
theorem zK.r0  : jv Try.prog ⟨false, false, false⟩ (zQ Try.prog O) (reg Try.f39 0) (reg Try.f39 0).toList ([D,c,F,G,L,b,E,I,J,K,d,f,g,i,j,k,l,m,n,o,p,q,r,s,t,u,v,w,x,y,z,A,B,C]) S =
  ( some ([D,c,F,G,Value.int IntKind.u64 0,b,E,I,J,K,d,f,g,i,j,k,l,m,n,o,p,q,r,s,t,u,v,w,x,y,z,A,B,C], S)) := by
 kernel_rfl
theorem zK.r1  : jv Try.prog ⟨false, false, false⟩ (zQ Try.prog O) (reg Try.f39 1) (reg Try.f39 1).toList ([D,c,F,G,L,b,E,I,J,K,d,f,g,i,j,k,l,m,n,o,p,q,r,s,t,u,v,w,x,y,z,A,B,C]) S =
  (zF (jX Try.prog BinOp.xor 73 (dem D) (Value.int IntKind.u64 14695981039346656037) S) (fun N H => some ([D,c,F,G,L,N,E,dem D,dem N,K,d,f,g,i,j,k,l,m,n,o,p,q,r,s,t,u,v,w,x,y,z,A,B,C], H)) ()) := by
 kernel_rfl
theorem zK.r2  : jv Try.prog ⟨false, false, false⟩ (zQ Try.prog O) (reg Try.f39 2) (reg Try.f39 2).toList ([D,c,F,G,L,b,E,I,J,K,d,f,g,i,j,k,l,m,n,o,p,q,r,s,t,u,v,w,x,y,z,A,B,C]) S =
  ( some ([D,c,F,G,L,b,Value.int IntKind.i64 0,I,J,K,d,f,g,i,j,k,l,m,n,o,p,q,r,s,t,u,v,w,x,y,z,A,B,C], S)) := by
 kernel_rfl
theorem zK.r3  : jv Try.prog ⟨false, false, false⟩ (zQ Try.prog O) (reg Try.f39 3) (reg Try.f39 3).toList ([D,c,F,G,L,b,E,I,J,K,d,f,g,i,j,k,l,m,n,o,p,q,r,s,t,u,v,w,x,y,z,A,B,C]) S =
  (zF (ZM Try.prog 33 (dem c) S) (fun Q H => zF (jX Try.prog BinOp.lss 3 (dem E) Q H) (fun M P => some ([D,c,F,G,L,b,E,I,J,dem E,dem c,Q,M,i,j,k,l,m,n,o,p,q,r,s,t,u,v,w,x,y,z,A,B,C], P)) ()) ()) := by
 kernel_rfl
theorem zK.r5  : jv Try.prog ⟨false, false, false⟩ (zQ Try.prog O) (reg Try.f39 5) (reg Try.f39 5).toList ([D,c,F,G,L,b,E,I,J,K,d,f,g,i,j,k,l,m,n,o,p,q,r,s,t,u,v,w,x,y,z,A,B,C]) S =
  (zF (jB Try.prog 33 (dem c) (dem E) S) (fun M H => zF (zZ Try.prog false 5 M H) (fun R P => zF (qN Try.prog false false 5 73 R P) (fun X V => zF (jX Try.prog BinOp.xor 73 (dem b) X V) (fun U W => some ([D,c,F,G,L,U,E,I,J,K,d,f,g,i,j,dem b,dem c,dem E,M,R,X,dem U,r,s,t,u,v,w,x,y,z,A,B,C], W)) ()) ()) ()) ()) := by
 kernel_rfl
theorem zK.r6  : jv Try.prog ⟨false, false, false⟩ (zQ Try.prog O) (reg Try.f39 6) (reg Try.f39 6).toList ([D,c,F,G,L,b,E,I,J,K,d,f,g,i,j,k,l,m,n,o,p,q,r,s,t,u,v,w,x,y,z,A,B,C]) S =
  (zF (jX Try.prog BinOp.shl 73 (dem b) (Value.int IntKind.u64 40) S) (fun N H => zF (jX Try.prog BinOp.shl 73 (dem b) (Value.int IntKind.u64 8) H) (fun M P => zF (jX Try.prog BinOp.add 73 N M P) (fun R V => zF (jX Try.prog BinOp.mul 73 (dem b) (Value.int IntKind.u64 179) V) (fun U W => zF (jX Try.prog BinOp.add 73 R U W) (fun Y Z => some ([D,c,F,G,L,Y,E,I,J,K,d,f,g,i,j,k,l,m,n,o,p,q,dem b,N,dem b,M,R,dem b,U,dem Y,z,A,B,C], Z)) ()) ()) ()) ()) ()) := by
 kernel_rfl
theorem zK.r4  : jv Try.prog ⟨false, false, false⟩ (zQ Try.prog O) (reg Try.f39 4) (reg Try.f39 4).toList ([D,c,F,G,L,b,E,I,J,K,d,f,g,i,j,k,l,m,n,o,p,q,r,s,t,u,v,w,x,y,z,A,B,C]) S =
  (zF (jX Try.prog BinOp.add 3 (dem E) (Value.int IntKind.i64 1) S) (fun N H => some ([D,c,F,G,L,b,N,I,J,K,d,f,g,dem E,dem N,k,l,m,n,o,p,q,r,s,t,u,v,w,x,y,z,A,B,C], H)) ()) := by
 kernel_rfl
theorem zK.r7  : jv Try.prog ⟨false, false, false⟩ (zQ Try.prog O) (reg Try.f39 7) (reg Try.f39 7).toList ([D,c,F,G,L,b,E,I,J,K,d,f,g,i,j,k,l,m,n,o,p,q,r,s,t,u,v,w,x,y,z,A,B,C]) S =
  (zF (jX Try.prog BinOp.quo 73 (dem b) (Value.int IntKind.u64 536870912) S) (fun Q H => zF (jX Try.prog BinOp.xor 73 (dem b) Q H) (fun M P => some ([D,c,F,G,M,b,E,I,J,K,d,f,g,i,j,k,l,m,n,o,p,q,r,s,t,u,v,w,x,y,dem b,dem b,Q,dem M], P)) ()) ()) := by
 kernel_rfl
theorem zK.rs : type_of% (And.intro @zK.r0 (And.intro @zK.r1 (And.intro @zK.r2 (And.intro @zK.r3 (And.intro @zK.r5 (And.intro @zK.r6 (And.intro @zK.r4 (@zK.r7)))))))) := And.intro @zK.r0 (And.intro @zK.r1 (And.intro @zK.r2 (And.intro @zK.r3 (And.intro @zK.r5 (And.intro @zK.r6 (And.intro @zK.r4 (@zK.r7)))))))
theorem zK.runs {D c : Value} {S H : zi} {e : AEx} {T : List Value} (h : zA Try.prog O false zK.code ([D,c,undef,undef,undef,undef,undef,undef,undef,undef,undef,undef,undef,undef,undef,undef,undef,undef,undef,undef,undef,undef,undef,undef,undef,undef,undef,undef,undef,undef,undef,undef,undef,undef]) S = some (e, T, H)) (he : e = .normal ∨ e = .ret) : zQ Try.prog O 39 [D, c] S = some (T.getD 4 undef, H) :=
 yB rfl rfl Try.func39 (by decide) zK.body (by exact h) he (wV (a := T.getD 4 undef) ((show zG Try.prog T H Try.f39.results.toList = zG Try.prog T H [(ResultVar.tmp 4)] from by kernel_rfl).trans (by simp only [zG])) (by kernel_rfl))
end Go.Proofs.Ytfjogganfjkckaa
namespace Go.Proofs.Ytfjogganfjkckaa
open Go.Abs
abbrev zC.id : FuncId := 55
noncomputable def zC.jP : Code := (Code.seq (Code.region 6 (reg Try.f55 6) false) (Code.seq (Code.cond (Operand.tmp 22) Code.skip (Code.exit 0)) (Code.seq (Code.block 1 (Code.seq (Code.region 7 (reg Try.f55 7) false) (Code.seq (Code.seq (Code.region 8 (reg Try.f55 8) false) (Code.cond (Operand.tmp 34) (Code.seq (Code.region 9 (reg Try.f55 9) false) Code.ret) Code.skip)) (Code.seq (Code.region 10 (reg Try.f55 10) false) (Code.region 11 (reg Try.f55 11) false))))) (Code.region 12 (reg Try.f55 12) false))))
noncomputable def zC.code : Code := (Code.seq (Code.region 0 (reg Try.f55 0) false) (Code.seq (Code.seq (Code.region 1 (reg Try.f55 1) false) (Code.cond (Operand.tmp 17) (Code.seq (Code.region 2 (reg Try.f55 2) false) Code.ret) Code.skip)) (Code.seq (Code.region 3 (reg Try.f55 3) false) (Code.seq (Code.region 4 (reg Try.f55 4) false) (Code.seq (Code.seq (Code.region 5 (reg Try.f55 5) false) (Code.block 0 (Code.loop zC.jP))) (Code.seq (Code.region 13 (reg Try.f55 13) false) Code.ret))))))
theorem zC.body : Try.f55.body = some zC.code := by kernel_rfl
theorem zC.eta {T : List Value} (h : T.length = 45) : T = [T.getD 0 undef,T.getD 1 undef,T.getD 2 undef,T.getD 3 undef,T.getD 4 undef,T.getD 5 undef,T.getD 6 undef,T.getD 7 undef,T.getD 8 undef,T.getD 9 undef,T.getD 10 undef,T.getD 11 undef,T.getD 12 undef,T.getD 13 undef,T.getD 14 undef,T.getD 15 undef,T.getD 16 undef,T.getD 17 undef,T.getD 18 undef,T.getD 19 undef,T.getD 20 undef,T.getD 21 undef,T.getD 22 undef,T.getD 23 undef,T.getD 24 undef,T.getD 25 undef,T.getD 26 undef,T.getD 27 undef,T.getD 28 undef,T.getD 29 undef,T.getD 30 undef,T.getD 31 undef,T.getD 32 undef,T.getD 33 undef,T.getD 34 undef,T.getD 35 undef,T.getD 36 undef,T.getD 37 undef,T.getD 38 undef,T.getD 39 undef,T.getD 40 undef,T.getD 41 undef,T.getD 42 undef,T.getD 43 undef,T.getD 44 undef] := (qG T 45 h).trans (by kernel_rfl)
variable (P N V W X Y Z Q R U b a f g i k l m n o c d p q r s t u w x y z A B C D E F G H I J K L M : Value) (S : zi)
theorem zC.r0  : jv Try.prog ⟨false, false, false⟩ (zQ Try.prog O) (reg Try.f55 0) (reg Try.f55 0).toList ([P,N,V,W,X,Y,Z,Q,R,U,b,a,f,g,i,k,l,m,n,o,c,d,p,q,r,s,t,u,w,x,y,z,A,B,C,D,E,F,G,H,I,J,K,L,M]) S =
  ( some ([P,N,V,W,Value.slice none 0 0,Value.slice none 0 0,Value.int IntKind.i64 0,Q,R,U,b,a,f,g,i,k,l,m,n,o,c,d,p,q,r,s,t,u,w,x,y,z,A,B,C,D,E,F,G,H,I,J,K,L,M], S)) := by
 kernel_rfl
theorem zC.r1  : jv Try.prog ⟨false, false, false⟩ (zQ Try.prog O) (reg Try.f55 1) (reg Try.f55 1).toList ([P,N,V,W,X,Y,Z,Q,R,U,b,a,f,g,i,k,l,m,n,o,c,d,p,q,r,s,t,u,w,x,y,z,A,B,C,D,E,F,G,H,I,J,K,L,M]) S =
  (zF (jX Try.prog BinOp.lss 3 (dem N) (Value.int IntKind.i64 0) S) (fun v1 S1 => gdK (dem v1) false (ret N) S1 (fun v3 S2 => gdK (dem v1) false (jX Try.prog BinOp.gtr 3 (dem v3) (Value.int IntKind.i64 64)) S2 (fun v4 S3 => zF (wP (dem v1) (Value.bool true) v4 S3) (fun v5 S4 => some ([P,N,V,W,X,Y,Z,Q,R,U,b,a,dem N,v1,dem v1,dem v3,v4,v5,n,o,c,d,p,q,r,s,t,u,w,x,y,z,A,B,C,D,E,F,G,H,I,J,K,L,M], S4)) ()) ()) ()) ()) := by
 refine sP Try.f55 1 0 (v := N) ?_
 refine sD Try.f55 1 1 (fun v1 S1 => ?_)
 refine sP Try.f55 1 2 (v := v1) ?_
 refine sG Try.f55 1 3 (j := 2) (fun v3 S2 => ?_)
 refine sG Try.f55 1 4 (j := 2) (fun v4 S3 => ?_)
 refine sD Try.f55 1 5 (fun v5 S4 => ?_)
 kernel_rfl
theorem zC.r2  : jv Try.prog ⟨false, false, false⟩ (zQ Try.prog O) (reg Try.f55 2) (reg Try.f55 2).toList ([P,N,V,W,X,Y,Z,Q,R,U,b,a,f,g,i,k,l,m,n,o,c,d,p,q,r,s,t,u,w,x,y,z,A,B,C,D,E,F,G,H,I,J,K,L,M]) S =
  ( some ([P,N,V,W,Value.slice none 0 0,Value.slice none 0 0,Value.int IntKind.i64 11,Q,R,U,b,a,f,g,i,k,l,m,n,o,c,d,p,q,r,s,t,u,w,x,y,z,A,B,C,D,E,F,G,H,I,J,K,L,M], S)) := by
 kernel_rfl
theorem zC.r3  : jv Try.prog ⟨false, false, false⟩ (zQ Try.prog O) (reg Try.f55 3) (reg Try.f55 3).toList ([P,N,V,W,X,Y,Z,Q,R,U,b,a,f,g,i,k,l,m,n,o,c,d,p,q,r,s,t,u,w,x,y,z,A,B,C,D,E,F,G,H,I,J,K,L,M]) S =
  (zF ((zQ Try.prog O) 54 [(dem (dem P))] S) (fun v1 S1 => some ([P,N,V,W,X,Y,Z,v1,R,U,b,a,f,g,i,k,l,m,dem P,dem v1,c,d,p,q,r,s,t,u,w,x,y,z,A,B,C,D,E,F,G,H,I,J,K,L,M], S1)) ()) := by
 kernel_rfl
theorem zC.r4  : jv Try.prog ⟨false, false, false⟩ (zQ Try.prog O) (reg Try.f55 4) (reg Try.f55 4).toList ([P,N,V,W,X,Y,Z,Q,R,U,b,a,f,g,i,k,l,m,n,o,c,d,p,q,r,s,t,u,w,x,y,z,A,B,C,D,E,F,G,H,I,J,K,L,M]) S =
  ( some ([P,N,V,W,X,Y,Z,Q,Value.slice none 0 0,U,b,a,f,g,i,k,l,m,n,o,c,d,p,q,r,s,t,u,w,x,y,z,A,B,C,D,E,F,G,H,I,J,K,L,M], S)) := by
 kernel_rfl
theorem zC.r5  : jv Try.prog ⟨false, false, false⟩ (zQ Try.prog O) (reg Try.f55 5) (reg Try.f55 5).toList ([P,N,V,W,X,Y,Z,Q,R,U,b,a,f,g,i,k,l,m,n,o,c,d,p,q,r,s,t,u,w,x,y,z,A,B,C,D,E,F,G,H,I,J,K,L,M]) S =
  ( some ([P,N,V,W,X,Y,Z,Q,R,U,b,a,f,g,i,k,l,m,n,o,dem N,Value.int IntKind.i64 0,p,q,r,s,t,u,w,x,y,z,A,B,C,D,E,F,G,H,I,J,K,L,M], S)) := by
 kernel_rfl
theorem zC.r6  : jv Try.prog ⟨false, false, false⟩ (zQ Try.prog O) (reg Try.f55 6) (reg Try.f55 6).toList ([P,N,V,W,X,Y,Z,Q,R,U,b,a,f,g,i,k,l,m,n,o,c,d,p,q,r,s,t,u,w,x,y,z,A,B,C,D,E,F,G,H,I,J,K,L,M]) S =
  (zF (jX Try.prog BinOp.lss 3 d c S) (fun v0 S1 => some ([P,N,V,W,X,Y,Z,Q,R,U,b,a,f,g,i,k,l,m,n,o,c,d,v0,q,r,s,t,u,w,x,y,z,A,B,C,D,E,F,G,H,I,J,K,L,M], S1)) ()) := by
 kernel_rfl
theorem zC.r7  : jv Try.prog ⟨false, false, false⟩ (zQ Try.prog O) (reg Try.f55 7) (reg Try.f55 7).toList ([P,N,V,W,X,Y,Z,Q,R,U,b,a,f,g,i,k,l,m,n,o,c,d,p,q,r,s,t,u,w,x,y,z,A,B,C,D,E,F,G,H,I,J,K,L,M]) S =
  (zF ((zQ Try.prog O) 41 [(dem (dem Q))] S) (fun v1 S1 => zF (zS v1 0 S1) (fun v3 S2 => zF (zS (zV 0 v1) 1 S2) (fun v4 S3 => zF (zS (zV 1 (zV 0 v1)) 2 S3) (fun v5 S4 => some ([P,N,V,W,X,Y,Z,Q,R,v3,v4,v5,f,g,i,k,l,m,n,o,c,d,p,zV 2 (zV 1 (zV 0 v1)),dem Q,dem v1,dem v3,dem v4,dem v5,x,y,z,A,B,C,D,E,F,G,H,I,J,K,L,M], S4)) ()) ()) ()) ()) := by
 kernel_rfl
theorem zC.r8  : jv Try.prog ⟨false, false, false⟩ (zQ Try.prog O) (reg Try.f55 8) (reg Try.f55 8).toList ([P,N,V,W,X,Y,Z,Q,R,U,b,a,f,g,i,k,l,m,n,o,c,d,p,q,r,s,t,u,w,x,y,z,A,B,C,D,E,F,G,H,I,J,K,L,M]) S =
  (zF (jX Try.prog BinOp.neq 64 (dem a) (Value.int IntKind.i64 0) S) (fun v1 S1 => gdK (dem v1) false (ret U) S1 (fun v3 S2 => gdK (dem v1) false (jX Try.prog BinOp.gtr 73 (dem v3) (Value.int IntKind.u64 4611686018427387905)) S2 (fun v4 S3 => zF (wP (dem v1) (Value.bool true) v4 S3) (fun v5 S4 => some ([P,N,V,W,X,Y,Z,Q,R,U,b,a,f,g,i,k,l,m,n,o,c,d,p,q,r,s,t,u,w,dem a,v1,dem v1,dem v3,v4,v5,D,E,F,G,H,I,J,K,L,M], S4)) ()) ()) ()) ()) := by
 refine sP Try.f55 8 0 (v := a) ?_
 refine sD Try.f55 8 1 (fun v1 S1 => ?_)
 refine sP Try.f55 8 2 (v := v1) ?_
 refine sG Try.f55 8 3 (j := 2) (fun v3 S2 => ?_)
 refine sG Try.f55 8 4 (j := 2) (fun v4 S3 => ?_)
 refine sD Try.f55 8 5 (fun v5 S4 => ?_)
 kernel_rfl
theorem zC.r9  : jv Try.prog ⟨false, false, false⟩ (zQ Try.prog O) (reg Try.f55 9) (reg Try.f55 9).toList ([P,N,V,W,X,Y,Z,Q,R,U,b,a,f,g,i,k,l,m,n,o,c,d,p,q,r,s,t,u,w,x,y,z,A,B,C,D,E,F,G,H,I,J,K,L,M]) S =
  ( some ([P,N,V,W,Value.slice none 0 0,Value.slice none 0 0,Value.int IntKind.i64 11,Q,R,U,b,a,f,g,i,k,l,m,n,o,c,d,p,q,r,s,t,u,w,x,y,z,A,B,C,D,E,F,G,H,I,J,K,L,M], S)) := by
 kernel_rfl
theorem zC.r10  : jv Try.prog ⟨false, false, false⟩ (zQ Try.prog O) (reg Try.f55 10) (reg Try.f55 10).toList ([P,N,V,W,X,Y,Z,Q,R,U,b,a,f,g,i,k,l,m,n,o,c,d,p,q,r,s,t,u,w,x,y,z,A,B,C,D,E,F,G,H,I,J,K,L,M]) S =
  (zF (qN Try.prog false false 73 3 (dem U) S) (fun v2 S1 => zF (jX Try.prog BinOp.sub 3 v2 (Value.int IntKind.i64 1) S1) (fun v3 S2 => zF (jR Try.prog 24 1 [(0, v3)] S2) (fun v4 S3 => zF (yj Try.prog 24 24 R v4 S3) (fun v5 S4 => some ([P,N,V,W,X,Y,Z,Q,v5,U,b,a,f,g,i,k,l,m,n,o,c,d,p,q,r,s,t,u,w,x,y,z,A,B,C,dem R,dem U,v2,v3,v4,dem v5,J,K,L,M], S4)) ()) ()) ()) ()) := by
 kernel_rfl
theorem zC.r11  : jv Try.prog ⟨false, false, false⟩ (zQ Try.prog O) (reg Try.f55 11) (reg Try.f55 11).toList ([P,N,V,W,X,Y,Z,Q,R,U,b,a,f,g,i,k,l,m,n,o,c,d,p,q,r,s,t,u,w,x,y,z,A,B,C,D,E,F,G,H,I,J,K,L,M]) S =
  ( some ([P,N,V,W,X,Y,Z,b,R,U,dem b,a,f,g,i,k,l,m,n,o,c,d,p,q,r,s,t,u,w,x,y,z,A,B,C,D,E,F,G,H,I,dem b,K,L,M], S)) := by
 kernel_rfl
theorem zC.r12  : jv Try.prog ⟨false, false, false⟩ (zQ Try.prog O) (reg Try.f55 12) (reg Try.f55 12).toList ([P,N,V,W,X,Y,Z,Q,R,U,b,a,f,g,i,k,l,m,n,o,c,d,p,q,r,s,t,u,w,x,y,z,A,B,C,D,E,F,G,H,I,J,K,L,M]) S =
  (zF (jX Try.prog BinOp.add 3 d (Value.int IntKind.i64 1) S) (fun v0 S1 => some ([P,N,V,W,X,Y,Z,Q,R,U,b,a,f,g,i,k,l,m,n,o,c,dem v0,p,q,r,s,t,u,w,x,y,z,A,B,C,D,E,F,G,H,I,J,v0,L,M], S1)) ()) := by
 kernel_rfl
theorem zC.r13  : jv Try.prog ⟨false, false, false⟩ (zQ Try.prog O) (reg Try.f55 13) (reg Try.f55 13).toList ([P,N,V,W,X,Y,Z,Q,R,U,b,a,f,g,i,k,l,m,n,o,c,d,p,q,r,s,t,u,w,x,y,z,A,B,C,D,E,F,G,H,I,J,K,L,M]) S =
  ( some ([P,N,V,W,R,Q,Value.int IntKind.i64 0,dem Q,dem R,U,b,a,f,g,i,k,l,m,n,o,c,d,p,q,r,s,t,u,w,x,y,z,A,B,C,D,E,F,G,H,I,J,K,dem R,dem Q], S)) := by
 kernel_rfl
theorem zC.rs : type_of% (And.intro @zC.r0 (And.intro @zC.r1 (And.intro @zC.r2 (And.intro @zC.r3 (And.intro @zC.r4 (And.intro @zC.r5 (And.intro @zC.r6 (And.intro @zC.r7 (And.intro @zC.r8 (And.intro @zC.r9 (And.intro @zC.r10 (And.intro @zC.r11 (And.intro @zC.r12 (@zC.r13)))))))))))))) := And.intro @zC.r0 (And.intro @zC.r1 (And.intro @zC.r2 (And.intro @zC.r3 (And.intro @zC.r4 (And.intro @zC.r5 (And.intro @zC.r6 (And.intro @zC.r7 (And.intro @zC.r8 (And.intro @zC.r9 (And.intro @zC.r10 (And.intro @zC.r11 (And.intro @zC.r12 (@zC.r13)))))))))))))
theorem zC.runs {P N : Value} {S S1 : zi} {e : AEx} {T : List Value} (h : zA Try.prog O false zC.code ([P,N,undef,undef,undef,undef,undef,undef,undef,undef,undef,undef,undef,undef,undef,undef,undef,undef,undef,undef,undef,undef,undef,undef,undef,undef,undef,undef,undef,undef,undef,undef,undef,undef,undef,undef,undef,undef,undef,undef,undef,undef,undef,undef,undef]) S = some (e, T, S1)) (he : e = .normal ∨ e = .ret)  (h0 : jY (T.getD 4 undef) = true) (h1 : jY (T.getD 5 undef) = true) (h2 : jY (T.getD 6 undef) = true) : zQ Try.prog O 55 [P, N] S = some (Value.tuple #[T.getD 4 undef, T.getD 5 undef, T.getD 6 undef], S1) :=
 yB rfl rfl Try.func55 (by decide) zC.body (by exact h) he ((ql ((show zG Try.prog T S1 Try.f55.results.toList = zG Try.prog T S1 [(ResultVar.tmp 4), (ResultVar.tmp 5), (ResultVar.tmp 6)] from by kernel_rfl).trans (by simp only [zG])) (by kernel_rfl) (by simp only [List.all_cons, List.all_nil, h0, h1, h2, Bool.and_true])).trans rfl)
end Go.Proofs.Ytfjogganfjkckaa
namespace Go.Proofs.Ytfjogganfjkckaa
open Go.Abs
abbrev jk.id : FuncId := 63
noncomputable def jk.jP : Code := (Code.seq (Code.region 5 (reg Try.f63 5) false) (Code.seq (Code.cond (Operand.tmp 13) Code.skip (Code.exit 0)) (Code.seq (Code.block 1 (Code.seq (Code.region 6 (reg Try.f63 6) false) (Code.seq (Code.seq (Code.region 7 (reg Try.f63 7) false) (Code.cond (Operand.tmp 17) (Code.seq (Code.region 8 (reg Try.f63 8) false) Code.ret) Code.skip)) (Code.region 9 (reg Try.f63 9) false)))) (Code.region 10 (reg Try.f63 10) false))))
noncomputable def jk.code : Code := (Code.seq (Code.region 0 (reg Try.f63 0) false) (Code.seq (Code.seq (Code.region 1 (reg Try.f63 1) false) (Code.cond (Operand.tmp 9) (Code.seq (Code.region 2 (reg Try.f63 2) false) Code.ret) Code.skip)) (Code.seq (Code.region 3 (reg Try.f63 3) false) (Code.seq (Code.seq (Code.region 4 (reg Try.f63 4) false) (Code.block 0 (Code.loop jk.jP))) (Code.seq (Code.region 11 (reg Try.f63 11) false) Code.ret)))))
theorem jk.body : Try.f63.body = some jk.code := by kernel_rfl
theorem jk.eta {T : List Value} (h : T.length = 26) : T = [T.getD 0 undef,T.getD 1 undef,T.getD 2 undef,T.getD 3 undef,T.getD 4 undef,T.getD 5 undef,T.getD 6 undef,T.getD 7 undef,T.getD 8 undef,T.getD 9 undef,T.getD 10 undef,T.getD 11 undef,T.getD 12 undef,T.getD 13 undef,T.getD 14 undef,T.getD 15 undef,T.getD 16 undef,T.getD 17 undef,T.getD 18 undef,T.getD 19 undef,T.getD 20 undef,T.getD 21 undef,T.getD 22 undef,T.getD 23 undef,T.getD 24 undef,T.getD 25 undef] := (qG T 26 h).trans (by kernel_rfl)
variable (s v A B u w t x y z b c a d f g i j k l m n o p q r : Value) (S : zi)
theorem jk.r0  : jv Try.prog ⟨false, false, false⟩ (zQ Try.prog O) (reg Try.f63 0) (reg Try.f63 0).toList ([s,v,A,B,u,w,t,x,y,z,b,c,a,d,f,g,i,j,k,l,m,n,o,p,q,r]) S =
  ( some ([s,v,Value.slice none 0 0,Value.int IntKind.i64 0,u,w,t,x,y,z,b,c,a,d,f,g,i,j,k,l,m,n,o,p,q,r], S)) := by
 kernel_rfl
theorem jk.r1  : jv Try.prog ⟨false, false, false⟩ (zQ Try.prog O) (reg Try.f63 1) (reg Try.f63 1).toList ([s,v,A,B,u,w,t,x,y,z,b,c,a,d,f,g,i,j,k,l,m,n,o,p,q,r]) S =
  (zF (ZM Try.prog 24 (dem s) S) (fun D C => zF (jX Try.prog BinOp.gtr 3 D (Value.int IntKind.i64 64) C) (fun G F => some ([s,v,A,B,u,w,t,dem s,D,G,b,c,a,d,f,g,i,j,k,l,m,n,o,p,q,r], F)) ()) ()) := by
 kernel_rfl
theorem jk.r2  : jv Try.prog ⟨false, false, false⟩ (zQ Try.prog O) (reg Try.f63 2) (reg Try.f63 2).toList ([s,v,A,B,u,w,t,x,y,z,b,c,a,d,f,g,i,j,k,l,m,n,o,p,q,r]) S =
  ( some ([s,v,Value.slice none 0 0,Value.int IntKind.i64 11,u,w,t,x,y,z,b,c,a,d,f,g,i,j,k,l,m,n,o,p,q,r], S)) := by
 kernel_rfl
theorem jk.r3  : jv Try.prog ⟨false, false, false⟩ (zQ Try.prog O) (reg Try.f63 3) (reg Try.f63 3).toList ([s,v,A,B,u,w,t,x,y,z,b,c,a,d,f,g,i,j,k,l,m,n,o,p,q,r]) S =
  ( some ([s,v,A,B,Value.slice none 0 0,w,t,x,y,z,b,c,a,d,f,g,i,j,k,l,m,n,o,p,q,r], S)) := by
 kernel_rfl
theorem jk.r4  : jv Try.prog ⟨false, false, false⟩ (zQ Try.prog O) (reg Try.f63 4) (reg Try.f63 4).toList ([s,v,A,B,u,w,t,x,y,z,b,c,a,d,f,g,i,j,k,l,m,n,o,p,q,r]) S =
  (zF (ZM Try.prog 24 (dem s) S) (fun D C => some ([s,v,A,B,u,w,t,x,y,z,dem s,D,Value.int IntKind.i64 0,d,f,g,i,j,k,l,m,n,o,p,q,r], C)) ()) := by
 kernel_rfl
theorem jk.r5  : jv Try.prog ⟨false, false, false⟩ (zQ Try.prog O) (reg Try.f63 5) (reg Try.f63 5).toList ([s,v,A,B,u,w,t,x,y,z,b,c,a,d,f,g,i,j,k,l,m,n,o,p,q,r]) S =
  (zF (jX Try.prog BinOp.lss 3 a c S) (fun E C => some ([s,v,A,B,u,w,t,x,y,z,b,c,a,E,f,g,i,j,k,l,m,n,o,p,q,r], C)) ()) := by
 kernel_rfl
theorem jk.r6  : jv Try.prog ⟨false, false, false⟩ (zQ Try.prog O) (reg Try.f63 6) (reg Try.f63 6).toList ([s,v,A,B,u,w,t,x,y,z,b,c,a,d,f,g,i,j,k,l,m,n,o,p,q,r]) S =
  (zF (jB Try.prog 24 b a S) (fun E C => zF (zZ Try.prog false 3 E C) (fun D F => some ([s,v,A,B,u,w,D,x,y,z,b,c,a,d,E,dem D,i,j,k,l,m,n,o,p,q,r], F)) ()) ()) := by
 kernel_rfl
theorem jk.r7  : jv Try.prog ⟨false, false, false⟩ (zQ Try.prog O) (reg Try.f63 7) (reg Try.f63 7).toList ([s,v,A,B,u,w,t,x,y,z,b,c,a,d,f,g,i,j,k,l,m,n,o,p,q,r]) S =
  (zF (jX Try.prog BinOp.lss 3 (dem t) (Value.int IntKind.i64 (-1)) S) (fun D C => some ([s,v,A,B,u,w,t,x,y,z,b,c,a,d,f,g,dem t,D,k,l,m,n,o,p,q,r], C)) ()) := by
 kernel_rfl
theorem jk.r8  : jv Try.prog ⟨false, false, false⟩ (zQ Try.prog O) (reg Try.f63 8) (reg Try.f63 8).toList ([s,v,A,B,u,w,t,x,y,z,b,c,a,d,f,g,i,j,k,l,m,n,o,p,q,r]) S =
  ( some ([s,v,Value.slice none 0 0,Value.int IntKind.i64 11,u,w,t,x,y,z,b,c,a,d,f,g,i,j,k,l,m,n,o,p,q,r], S)) := by
 kernel_rfl
theorem jk.r9  : jv Try.prog ⟨false, false, false⟩ (zQ Try.prog O) (reg Try.f63 9) (reg Try.f63 9).toList ([s,v,A,B,u,w,t,x,y,z,b,c,a,d,f,g,i,j,k,l,m,n,o,p,q,r]) S =
  (zF (qN Try.prog false false 3 73 (dem t) S) (fun G C => zF (jX Try.prog BinOp.add 73 G (Value.int IntKind.u64 1) C) (fun H F => zF ((zQ Try.prog O) 72 [(dem H)] F) (fun I K => zF (yj Try.prog 33 33 u I K) (fun J L => some ([s,v,A,B,J,w,t,x,y,z,b,c,a,d,f,g,i,j,dem u,dem t,G,H,I,dem J,q,r], L)) ()) ()) ()) ()) := by
 kernel_rfl
theorem jk.r10  : jv Try.prog ⟨false, false, false⟩ (zQ Try.prog O) (reg Try.f63 10) (reg Try.f63 10).toList ([s,v,A,B,u,w,t,x,y,z,b,c,a,d,f,g,i,j,k,l,m,n,o,p,q,r]) S =
  (zF (jX Try.prog BinOp.add 3 a (Value.int IntKind.i64 1) S) (fun E C => some ([s,v,A,B,u,w,t,x,y,z,b,c,dem E,d,f,g,i,j,k,l,m,n,o,p,E,r], C)) ()) := by
 kernel_rfl
theorem jk.r11  : jv Try.prog ⟨false, false, false⟩ (zQ Try.prog O) (reg Try.f63 11) (reg Try.f63 11).toList ([s,v,A,B,u,w,t,x,y,z,b,c,a,d,f,g,i,j,k,l,m,n,o,p,q,r]) S =
  ( some ([s,v,u,Value.int IntKind.i64 0,dem u,w,t,x,y,z,b,c,a,d,f,g,i,j,k,l,m,n,o,p,q,dem u], S)) := by
 kernel_rfl
theorem jk.rs : type_of% (And.intro @jk.r0 (And.intro @jk.r1 (And.intro @jk.r2 (And.intro @jk.r3 (And.intro @jk.r4 (And.intro @jk.r5 (And.intro @jk.r6 (And.intro @jk.r7 (And.intro @jk.r8 (And.intro @jk.r9 (And.intro @jk.r10 (@jk.r11)))))))))))) := And.intro @jk.r0 (And.intro @jk.r1 (And.intro @jk.r2 (And.intro @jk.r3 (And.intro @jk.r4 (And.intro @jk.r5 (And.intro @jk.r6 (And.intro @jk.r7 (And.intro @jk.r8 (And.intro @jk.r9 (And.intro @jk.r10 (@jk.r11)))))))))))
theorem jk.runs {s : Value} {S C : zi} {e : AEx} {T : List Value} (h : zA Try.prog O false jk.code ([s,undef,undef,undef,undef,undef,undef,undef,undef,undef,undef,undef,undef,undef,undef,undef,undef,undef,undef,undef,undef,undef,undef,undef,undef,undef]) S = some (e, T, C)) (he : e = .normal ∨ e = .ret)  (h0 : jY (T.getD 2 undef) = true) (h1 : jY (T.getD 3 undef) = true) : zQ Try.prog O 63 [s] S = some (Value.tuple #[T.getD 2 undef, T.getD 3 undef], C) :=
 yB rfl rfl Try.func63 (by decide) jk.body (by exact h) he ((ql ((show zG Try.prog T C Try.f63.results.toList = zG Try.prog T C [(ResultVar.tmp 2), (ResultVar.tmp 3)] from by kernel_rfl).trans (by simp only [zG])) (by kernel_rfl) (by simp only [List.all_cons, List.all_nil, h0, h1, Bool.and_true])).trans rfl)
end Go.Proofs.Ytfjogganfjkckaa
namespace Go.Proofs.Ytfjogganfjkckaa
open Go.Abs
abbrev zu.id : FuncId := 35
noncomputable def zu.jP : Code := (Code.seq (Code.region 5 (reg Try.f35 5) false) (Code.seq (Code.cond (Operand.tmp 14) Code.skip (Code.exit 0)) (Code.seq (Code.block 1 (Code.seq (Code.region 6 (reg Try.f35 6) false) (Code.seq (Code.seq (Code.region 7 (reg Try.f35 7) false) (Code.cond (Operand.tmp 18) (Code.seq (Code.region 8 (reg Try.f35 8) false) Code.ret) Code.skip)) (Code.region 9 (reg Try.f35 9) false)))) (Code.region 10 (reg Try.f35 10) false))))
noncomputable def zu.code : Code := (Code.seq (Code.region 0 (reg Try.f35 0) false) (Code.seq (Code.seq (Code.region 1 (reg Try.f35 1) false) (Code.cond (Operand.tmp 9) (Code.seq (Code.region 2 (reg Try.f35 2) false) Code.ret) Code.skip)) (Code.seq (Code.region 3 (reg Try.f35 3) false) (Code.seq (Code.seq (Code.region 4 (reg Try.f35 4) false) (Code.block 0 (Code.loop zu.jP))) (Code.seq (Code.region 11 (reg Try.f35 11) false) Code.ret)))))
theorem zu.body : Try.f35.body = some zu.code := by kernel_rfl
theorem zu.eta {T : List Value} (h : T.length = 27) : T = [T.getD 0 undef,T.getD 1 undef,T.getD 2 undef,T.getD 3 undef,T.getD 4 undef,T.getD 5 undef,T.getD 6 undef,T.getD 7 undef,T.getD 8 undef,T.getD 9 undef,T.getD 10 undef,T.getD 11 undef,T.getD 12 undef,T.getD 13 undef,T.getD 14 undef,T.getD 15 undef,T.getD 16 undef,T.getD 17 undef,T.getD 18 undef,T.getD 19 undef,T.getD 20 undef,T.getD 21 undef,T.getD 22 undef,T.getD 23 undef,T.getD 24 undef,T.getD 25 undef,T.getD 26 undef] := (qG T 27 h).trans (by kernel_rfl)
variable (t w B C v x u y z A d b c a f g i j k l m n o p q r s : Value) (S : zi)
theorem zu.r0  : jv Try.prog ⟨false, false, false⟩ (zQ Try.prog O) (reg Try.f35 0) (reg Try.f35 0).toList ([t,w,B,C,v,x,u,y,z,A,d,b,c,a,f,g,i,j,k,l,m,n,o,p,q,r,s]) S =
  ( some ([t,w,Value.slice none 0 0,Value.int IntKind.i64 0,v,x,u,y,z,A,d,b,c,a,f,g,i,j,k,l,m,n,o,p,q,r,s], S)) := by
 kernel_rfl
theorem zu.r1  : jv Try.prog ⟨false, false, false⟩ (zQ Try.prog O) (reg Try.f35 1) (reg Try.f35 1).toList ([t,w,B,C,v,x,u,y,z,A,d,b,c,a,f,g,i,j,k,l,m,n,o,p,q,r,s]) S =
  (zF (ZM Try.prog 24 (dem t) S) (fun F D => zF (jX Try.prog BinOp.gtr 3 F (Value.int IntKind.i64 64) D) (fun H G => some ([t,w,B,C,v,x,u,dem t,F,H,d,b,c,a,f,g,i,j,k,l,m,n,o,p,q,r,s], G)) ()) ()) := by
 kernel_rfl
theorem zu.r2  : jv Try.prog ⟨false, false, false⟩ (zQ Try.prog O) (reg Try.f35 2) (reg Try.f35 2).toList ([t,w,B,C,v,x,u,y,z,A,d,b,c,a,f,g,i,j,k,l,m,n,o,p,q,r,s]) S =
  ( some ([t,w,Value.slice none 0 0,Value.int IntKind.i64 11,v,x,u,y,z,A,d,b,c,a,f,g,i,j,k,l,m,n,o,p,q,r,s], S)) := by
 kernel_rfl
theorem zu.r3  : jv Try.prog ⟨false, false, false⟩ (zQ Try.prog O) (reg Try.f35 3) (reg Try.f35 3).toList ([t,w,B,C,v,x,u,y,z,A,d,b,c,a,f,g,i,j,k,l,m,n,o,p,q,r,s]) S =
  (zF (jR Try.prog 33 0 [] S) (fun E D => some ([t,w,B,C,E,x,u,y,z,A,dem E,b,c,a,f,g,i,j,k,l,m,n,o,p,q,r,s], D)) ()) := by
 kernel_rfl
theorem zu.r4  : jv Try.prog ⟨false, false, false⟩ (zQ Try.prog O) (reg Try.f35 4) (reg Try.f35 4).toList ([t,w,B,C,v,x,u,y,z,A,d,b,c,a,f,g,i,j,k,l,m,n,o,p,q,r,s]) S =
  (zF (ZM Try.prog 24 (dem t) S) (fun F D => some ([t,w,B,C,v,x,u,y,z,A,d,dem t,F,Value.int IntKind.i64 0,f,g,i,j,k,l,m,n,o,p,q,r,s], D)) ()) := by
 kernel_rfl
theorem zu.r5  : jv Try.prog ⟨false, false, false⟩ (zQ Try.prog O) (reg Try.f35 5) (reg Try.f35 5).toList ([t,w,B,C,v,x,u,y,z,A,d,b,c,a,f,g,i,j,k,l,m,n,o,p,q,r,s]) S =
  (zF (jX Try.prog BinOp.lss 3 a c S) (fun E D => some ([t,w,B,C,v,x,u,y,z,A,d,b,c,a,E,g,i,j,k,l,m,n,o,p,q,r,s], D)) ()) := by
 kernel_rfl
theorem zu.r6  : jv Try.prog ⟨false, false, false⟩ (zQ Try.prog O) (reg Try.f35 6) (reg Try.f35 6).toList ([t,w,B,C,v,x,u,y,z,A,d,b,c,a,f,g,i,j,k,l,m,n,o,p,q,r,s]) S =
  (zF (jB Try.prog 24 b a S) (fun E D => zF (zZ Try.prog false 3 E D) (fun F G => some ([t,w,B,C,v,x,F,y,z,A,d,b,c,a,f,E,dem F,j,k,l,m,n,o,p,q,r,s], G)) ()) ()) := by
 kernel_rfl
theorem zu.r7  : jv Try.prog ⟨false, false, false⟩ (zQ Try.prog O) (reg Try.f35 7) (reg Try.f35 7).toList ([t,w,B,C,v,x,u,y,z,A,d,b,c,a,f,g,i,j,k,l,m,n,o,p,q,r,s]) S =
  (zF (jX Try.prog BinOp.lss 3 (dem u) (Value.int IntKind.i64 (-1)) S) (fun F D => some ([t,w,B,C,v,x,u,y,z,A,d,b,c,a,f,g,i,dem u,F,l,m,n,o,p,q,r,s], D)) ()) := by
 kernel_rfl
theorem zu.r8  : jv Try.prog ⟨false, false, false⟩ (zQ Try.prog O) (reg Try.f35 8) (reg Try.f35 8).toList ([t,w,B,C,v,x,u,y,z,A,d,b,c,a,f,g,i,j,k,l,m,n,o,p,q,r,s]) S =
  ( some ([t,w,Value.slice none 0 0,Value.int IntKind.i64 11,v,x,u,y,z,A,d,b,c,a,f,g,i,j,k,l,m,n,o,p,q,r,s], S)) := by
 kernel_rfl
theorem zu.r9  : jv Try.prog ⟨false, false, false⟩ (zQ Try.prog O) (reg Try.f35 9) (reg Try.f35 9).toList ([t,w,B,C,v,x,u,y,z,A,d,b,c,a,f,g,i,j,k,l,m,n,o,p,q,r,s]) S =
  (zF (qN Try.prog false false 3 73 (dem u) S) (fun H D => zF (jX Try.prog BinOp.add 73 H (Value.int IntKind.u64 1) D) (fun I G => zF ((zQ Try.prog O) 38 [(dem I)] G) (fun J L => zF (yj Try.prog 33 33 v J L) (fun K M => some ([t,w,B,C,K,x,u,y,z,A,d,b,c,a,f,g,i,j,k,dem v,dem u,H,I,J,dem K,r,s], M)) ()) ()) ()) ()) := by
 kernel_rfl
theorem zu.r10  : jv Try.prog ⟨false, false, false⟩ (zQ Try.prog O) (reg Try.f35 10) (reg Try.f35 10).toList ([t,w,B,C,v,x,u,y,z,A,d,b,c,a,f,g,i,j,k,l,m,n,o,p,q,r,s]) S =
  (zF (jX Try.prog BinOp.add 3 a (Value.int IntKind.i64 1) S) (fun E D => some ([t,w,B,C,v,x,u,y,z,A,d,b,c,dem E,f,g,i,j,k,l,m,n,o,p,q,E,s], D)) ()) := by
 kernel_rfl
theorem zu.r11  : jv Try.prog ⟨false, false, false⟩ (zQ Try.prog O) (reg Try.f35 11) (reg Try.f35 11).toList ([t,w,B,C,v,x,u,y,z,A,d,b,c,a,f,g,i,j,k,l,m,n,o,p,q,r,s]) S =
  ( some ([t,w,v,Value.int IntKind.i64 0,dem v,x,u,y,z,A,d,b,c,a,f,g,i,j,k,l,m,n,o,p,q,r,dem v], S)) := by
 kernel_rfl
theorem zu.rs : type_of% (And.intro @zu.r0 (And.intro @zu.r1 (And.intro @zu.r2 (And.intro @zu.r3 (And.intro @zu.r4 (And.intro @zu.r5 (And.intro @zu.r6 (And.intro @zu.r7 (And.intro @zu.r8 (And.intro @zu.r9 (And.intro @zu.r10 (@zu.r11)))))))))))) := And.intro @zu.r0 (And.intro @zu.r1 (And.intro @zu.r2 (And.intro @zu.r3 (And.intro @zu.r4 (And.intro @zu.r5 (And.intro @zu.r6 (And.intro @zu.r7 (And.intro @zu.r8 (And.intro @zu.r9 (And.intro @zu.r10 (@zu.r11)))))))))))
theorem zu.runs {t : Value} {S D : zi} {e : AEx} {T : List Value} (h : zA Try.prog O false zu.code ([t,undef,undef,undef,undef,undef,undef,undef,undef,undef,undef,undef,undef,undef,undef,undef,undef,undef,undef,undef,undef,undef,undef,undef,undef,undef,undef]) S = some (e, T, D)) (he : e = .normal ∨ e = .ret)  (h0 : jY (T.getD 2 undef) = true) (h1 : jY (T.getD 3 undef) = true) : zQ Try.prog O 35 [t] S = some (Value.tuple #[T.getD 2 undef, T.getD 3 undef], D) :=
 yB rfl rfl Try.func35 (by decide) zu.body (by exact h) he ((ql ((show zG Try.prog T D Try.f35.results.toList = zG Try.prog T D [(ResultVar.tmp 2), (ResultVar.tmp 3)] from by kernel_rfl).trans (by simp only [zG])) (by kernel_rfl) (by simp only [List.all_cons, List.all_nil, h0, h1, Bool.and_true])).trans rfl)
end Go.Proofs.Ytfjogganfjkckaa
namespace Go.Proofs.Ytfjogganfjkckaa
open Go.Abs
abbrev slices_Clone.id : FuncId := 54
noncomputable def slices_Clone.code : Code := (Code.seq (Code.region 0 (reg Try.f54 0) false) (Code.seq (Code.seq (Code.region 1 (reg Try.f54 1) false) (Code.cond (Operand.tmp 4) (Code.seq (Code.region 2 (reg Try.f54 2) false) Code.ret) Code.skip)) (Code.seq (Code.region 3 (reg Try.f54 3) false) Code.ret)))
theorem slices_Clone.body : Try.f54.body = some slices_Clone.code := by kernel_rfl
variable (b c l f g i j k : Value) (S : zi)
theorem slices_Clone.r0  : jv Try.prog ⟨false, false, false⟩ (zQ Try.prog O) (reg Try.f54 0) (reg Try.f54 0).toList ([b,c,l,f,g,i,j,k]) S =
  ( some ([b,c,Value.slice none 0 0,f,g,i,j,k], S)) := by
 kernel_rfl
theorem slices_Clone.r1  : jv Try.prog ⟨false, false, false⟩ (zQ Try.prog O) (reg Try.f54 1) (reg Try.f54 1).toList ([b,c,l,f,g,i,j,k]) S =
  (zF (jX Try.prog BinOp.eql 33 (dem b) (Value.slice none 0 0) S) (fun o d => some ([b,c,l,dem b,o,i,j,k], d)) ()) := by
 kernel_rfl
theorem slices_Clone.r2  : jv Try.prog ⟨false, false, false⟩ (zQ Try.prog O) (reg Try.f54 2) (reg Try.f54 2).toList ([b,c,l,f,g,i,j,k]) S =
  ( some ([b,c,Value.slice none 0 0,f,g,i,j,k], S)) := by
 kernel_rfl
theorem slices_Clone.r3  : jv Try.prog ⟨false, false, false⟩ (zQ Try.prog O) (reg Try.f54 3) (reg Try.f54 3).toList ([b,c,l,f,g,i,j,k]) S =
  (zF (jR Try.prog 33 0 [] S) (fun m d => zF (yj Try.prog 33 33 m (dem b) d) (fun n p => some ([b,c,n,f,g,dem m,dem b,dem n], p)) ()) ()) := by
 kernel_rfl
theorem slices_Clone.runs {b : Value} {S d : zi} {e : AEx} {T : List Value} (h : zA Try.prog O false slices_Clone.code ([b,undef,undef,undef,undef,undef,undef,undef]) S = some (e, T, d)) (he : e = .normal ∨ e = .ret) : zQ Try.prog O 54 [b] S = some (T.getD 2 undef, d) :=
 yB rfl rfl Try.func54 (by decide) slices_Clone.body (by exact h) he (wV (a := T.getD 2 undef) ((show zG Try.prog T d Try.f54.results.toList = zG Try.prog T d [(ResultVar.tmp 2)] from by kernel_rfl).trans (by simp only [zG])) (by kernel_rfl))
end Go.Proofs.Ytfjogganfjkckaa
namespace Go.Proofs.Ytfjogganfjkckaa
open Go.Abs
abbrev jf.id : FuncId := 41
noncomputable def jf.jP : Code := (Code.seq (Code.region 3 (reg Try.f41 3) false) (Code.seq (Code.cond (Operand.tmp 11) Code.skip (Code.exit 0)) (Code.seq (Code.block 1 (Code.seq (Code.region 4 (reg Try.f41 4) false) (Code.seq (Code.seq (Code.region 5 (reg Try.f41 5) false) (Code.cond (Operand.tmp 28) (Code.exit 0) Code.skip)) (Code.seq (Code.region 6 (reg Try.f41 6) false) (Code.seq (Code.region 7 (reg Try.f41 7) false) (Code.cond (Operand.tmp 38) (Code.seq (Code.region 8 (reg Try.f41 8) false) Code.ret) Code.skip)))))) (Code.region 9 (reg Try.f41 9) false))))
noncomputable def jf.code : Code := (Code.seq (Code.region 0 (reg Try.f41 0) false) (Code.seq (Code.region 1 (reg Try.f41 1) false) (Code.seq (Code.seq (Code.region 2 (reg Try.f41 2) false) (Code.block 0 (Code.loop jf.jP))) (Code.seq (Code.region 10 (reg Try.f41 10) false) Code.ret))))
theorem jf.body : Try.f41.body = some jf.code := by kernel_rfl
theorem jf.eta {T : List Value} (h : T.length = 46) : T = [T.getD 0 undef,T.getD 1 undef,T.getD 2 undef,T.getD 3 undef,T.getD 4 undef,T.getD 5 undef,T.getD 6 undef,T.getD 7 undef,T.getD 8 undef,T.getD 9 undef,T.getD 10 undef,T.getD 11 undef,T.getD 12 undef,T.getD 13 undef,T.getD 14 undef,T.getD 15 undef,T.getD 16 undef,T.getD 17 undef,T.getD 18 undef,T.getD 19 undef,T.getD 20 undef,T.getD 21 undef,T.getD 22 undef,T.getD 23 undef,T.getD 24 undef,T.getD 25 undef,T.getD 26 undef,T.getD 27 undef,T.getD 28 undef,T.getD 29 undef,T.getD 30 undef,T.getD 31 undef,T.getD 32 undef,T.getD 33 undef,T.getD 34 undef,T.getD 35 undef,T.getD 36 undef,T.getD 37 undef,T.getD 38 undef,T.getD 39 undef,T.getD 40 undef,T.getD 41 undef,T.getD 42 undef,T.getD 43 undef,T.getD 44 undef,T.getD 45 undef] := (qG T 46 h).trans (by kernel_rfl)
theorem jf.list {T : List Value} (h : T.length = 46) : ∃ P V Y Z x4 U Q R W X a b c d f g i k l m n o p q r s t u w x y z A B C D E F G H I J K L M N, T = [P,V,Y,Z,x4,U,Q,R,W,X,a,b,c,d,f,g,i,k,l,m,n,o,p,q,r,s,t,u,w,x,y,z,A,B,C,D,E,F,G,H,I,J,K,L,M,N] := ⟨_, _, _, _, _, _, _, _, _, _, _, _, _, _, _, _, _, _, _, _, _, _, _, _, _, _, _, _, _, _, _, _, _, _, _, _, _, _, _, _, _, _, _, _, _, _, jf.eta h⟩
variable (P V Y Z x4 U Q R W X a b c d f g i k l m n o p q r s t u w x y z A B C D E F G H I J K L M N : Value) (S : zi)
theorem jf.r0  : jv Try.prog ⟨false, false, false⟩ (zQ Try.prog O) (reg Try.f41 0) (reg Try.f41 0).toList ([P,V,Y,Z,x4,U,Q,R,W,X,a,b,c,d,f,g,i,k,l,m,n,o,p,q,r,s,t,u,w,x,y,z,A,B,C,D,E,F,G,H,I,J,K,L,M,N]) S =
  ( some ([P,V,Value.int IntKind.u64 0,Value.slice none 0 0,Value.int IntKind.i64 0,U,Q,R,W,X,a,b,c,d,f,g,i,k,l,m,n,o,p,q,r,s,t,u,w,x,y,z,A,B,C,D,E,F,G,H,I,J,K,L,M,N], S)) := by
 kernel_rfl
theorem jf.r1  : jv Try.prog ⟨false, false, false⟩ (zQ Try.prog O) (reg Try.f41 1) (reg Try.f41 1).toList ([P,V,Y,Z,x4,U,Q,R,W,X,a,b,c,d,f,g,i,k,l,m,n,o,p,q,r,s,t,u,w,x,y,z,A,B,C,D,E,F,G,H,I,J,K,L,M,N]) S =
  ( some ([P,V,Y,Z,x4,Value.int IntKind.u64 0,Q,R,W,X,a,b,c,d,f,g,i,k,l,m,n,o,p,q,r,s,t,u,w,x,y,z,A,B,C,D,E,F,G,H,I,J,K,L,M,N], S)) := by
 kernel_rfl
theorem jf.r2  : jv Try.prog ⟨false, false, false⟩ (zQ Try.prog O) (reg Try.f41 2) (reg Try.f41 2).toList ([P,V,Y,Z,x4,U,Q,R,W,X,a,b,c,d,f,g,i,k,l,m,n,o,p,q,r,s,t,u,w,x,y,z,A,B,C,D,E,F,G,H,I,J,K,L,M,N]) S =
  (zF (ZM Try.prog 33 (dem P) S) (fun v1 S1 => some ([P,V,Y,Z,x4,U,Q,R,dem P,v1,Value.int IntKind.i64 0,b,c,d,f,g,i,k,l,m,n,o,p,q,r,s,t,u,w,x,y,z,A,B,C,D,E,F,G,H,I,J,K,L,M,N], S1)) ()) := by
 kernel_rfl
theorem jf.r3  : jv Try.prog ⟨false, false, false⟩ (zQ Try.prog O) (reg Try.f41 3) (reg Try.f41 3).toList ([P,V,Y,Z,x4,U,Q,R,W,X,a,b,c,d,f,g,i,k,l,m,n,o,p,q,r,s,t,u,w,x,y,z,A,B,C,D,E,F,G,H,I,J,K,L,M,N]) S =
  (zF (jX Try.prog BinOp.lss 3 a X S) (fun v0 S1 => some ([P,V,Y,Z,x4,U,Q,R,W,X,a,v0,c,d,f,g,i,k,l,m,n,o,p,q,r,s,t,u,w,x,y,z,A,B,C,D,E,F,G,H,I,J,K,L,M,N], S1)) ()) := by
 kernel_rfl
theorem jf.r4  : jv Try.prog ⟨false, false, false⟩ (zQ Try.prog O) (reg Try.f41 4) (reg Try.f41 4).toList ([P,V,Y,Z,x4,U,Q,R,W,X,a,b,c,d,f,g,i,k,l,m,n,o,p,q,r,s,t,u,w,x,y,z,A,B,C,D,E,F,G,H,I,J,K,L,M,N]) S =
  (zF (jB Try.prog 33 W (dem a) S) (fun v1 S1 => zF (zZ Try.prog false 5 v1 S1) (fun v2 S2 => some ([P,V,Y,Z,x4,U,a,v2,W,X,dem a,b,dem a,v1,dem v2,g,i,k,l,m,n,o,p,q,r,s,t,u,w,x,y,z,A,B,C,D,E,F,G,H,I,J,K,L,M,N], S2)) ()) ()) := by
 kernel_rfl
theorem jf.r5  : jv Try.prog ⟨false, false, false⟩ (zQ Try.prog O) (reg Try.f41 5) (reg Try.f41 5).toList ([P,V,Y,Z,x4,U,Q,R,W,X,a,b,c,d,f,g,i,k,l,m,n,o,p,q,r,s,t,u,w,x,y,z,A,B,C,D,E,F,G,H,I,J,K,L,M,N]) S =
  (zF (jX Try.prog BinOp.eql 3 (dem Q) (Value.int IntKind.i64 9) S) (fun v1 S1 => gdK (dem v1) true (ret R) S1 (fun v3 S2 => gdK (dem v1) true (jX Try.prog BinOp.gtr 5 (dem v3) (Value.int IntKind.u8 1)) S2 (fun v4 S3 => zF (wP (dem v1) v4 (Value.bool false) S3) (fun v5 S4 => gdK (dem v5) false (ret Q) S4 (fun v7 S5 => gdK (dem v5) false (jX Try.prog BinOp.gtr 3 (dem v7) (Value.int IntKind.i64 0)) S5 (fun v8 S6 => gdK (dem v5) false (ret v8) S6 (fun v9 S7 => gdK (dem v9) true (ret R) S7 (fun a0 S8 => gdK (dem v9) true (jX Try.prog BinOp.eql 5 (dem a0) (Value.int IntKind.u8 0)) S8 (fun a1 S9 => gdK (dem v5) false (wP (dem v9) a1 (Value.bool false)) S9 (fun a2 a3 => zF (wP (dem v5) (Value.bool true) a2 a3) (fun a4 a5 => some ([P,V,Y,Z,x4,U,Q,R,W,X,a,b,c,d,f,dem Q,v1,dem v1,dem v3,v4,v5,dem v5,dem v7,v8,dem v9,dem a0,a1,a2,a4,x,y,z,A,B,C,D,E,F,G,H,I,J,K,L,M,N], a5)) ()) ()) ()) ()) ()) ()) ()) ()) ()) ()) ()) := by
 refine sP Try.f41 5 0 (v := Q) ?_
 refine sD Try.f41 5 1 (fun v1 S1 => ?_)
 refine sP Try.f41 5 2 (v := v1) ?_
 refine sG Try.f41 5 3 (j := 2) (fun v3 S2 => ?_)
 refine sG Try.f41 5 4 (j := 2) (fun v4 S3 => ?_)
 refine sD Try.f41 5 5 (fun v5 S4 => ?_)
 refine sP Try.f41 5 6 (v := v5) ?_
 refine sG Try.f41 5 7 (j := 6) (fun v7 S5 => ?_)
 refine sG Try.f41 5 8 (j := 6) (fun v8 S6 => ?_)
 refine sG Try.f41 5 9 (j := 6) (fun v9 S7 => ?_)
 refine sG Try.f41 5 10 (j := 9) (fun a0 S8 => ?_)
 refine sG Try.f41 5 11 (j := 9) (fun a1 S9 => ?_)
 refine sG Try.f41 5 12 (j := 6) (fun a2 a3 => ?_)
 refine sD Try.f41 5 13 (fun a4 a5 => ?_)
 kernel_rfl
theorem jf.r6  : jv Try.prog ⟨false, false, false⟩ (zQ Try.prog O) (reg Try.f41 6) (reg Try.f41 6).toList ([P,V,Y,Z,x4,U,Q,R,W,X,a,b,c,d,f,g,i,k,l,m,n,o,p,q,r,s,t,u,w,x,y,z,A,B,C,D,E,F,G,H,I,J,K,L,M,N]) S =
  (zF (jX Try.prog BinOp.and 5 (dem R) (Value.int IntKind.u8 127) S) (fun v2 S1 => zF (qN Try.prog false false 5 73 v2 S1) (fun v3 S2 => zF (jX Try.prog BinOp.mul 3 (Value.int IntKind.i64 7) (dem Q) S2) (fun v5 S3 => zF (jX Try.prog BinOp.shl 73 v3 v5 S3) (fun v6 S4 => zF (jX Try.prog BinOp.or 73 (dem U) v6 S4) (fun v7 S5 => some ([P,V,Y,Z,x4,v7,Q,R,W,X,a,b,c,d,f,g,i,k,l,m,n,o,p,q,r,s,t,u,w,dem U,dem R,v2,v3,dem Q,v5,v6,dem v7,F,G,H,I,J,K,L,M,N], S5)) ()) ()) ()) ()) ()) := by
 kernel_rfl
theorem jf.r7  : jv Try.prog ⟨false, false, false⟩ (zQ Try.prog O) (reg Try.f41 7) (reg Try.f41 7).toList ([P,V,Y,Z,x4,U,Q,R,W,X,a,b,c,d,f,g,i,k,l,m,n,o,p,q,r,s,t,u,w,x,y,z,A,B,C,D,E,F,G,H,I,J,K,L,M,N]) S =
  (zF (jX Try.prog BinOp.lss 5 (dem R) (Value.int IntKind.u8 128) S) (fun v1 S1 => some ([P,V,Y,Z,x4,U,Q,R,W,X,a,b,c,d,f,g,i,k,l,m,n,o,p,q,r,s,t,u,w,x,y,z,A,B,C,D,E,dem R,v1,H,I,J,K,L,M,N], S1)) ()) := by
 kernel_rfl
theorem jf.r8  : jv Try.prog ⟨false, false, false⟩ (zQ Try.prog O) (reg Try.f41 8) (reg Try.f41 8).toList ([P,V,Y,Z,x4,U,Q,R,W,X,a,b,c,d,f,g,i,k,l,m,n,o,p,q,r,s,t,u,w,x,y,z,A,B,C,D,E,F,G,H,I,J,K,L,M,N]) S =
  (zF (jX Try.prog BinOp.add 3 (dem Q) (Value.int IntKind.i64 1) S) (fun v3 S1 => zF (Zm Try.prog false 33 (dem P) (some v3) none S1) (fun v4 S2 => zF ((zQ Try.prog O) 54 [(dem v4)] S2) (fun v5 S3 => some ([P,V,U,v5,Value.int IntKind.i64 0,dem U,Q,R,W,X,a,b,c,d,f,g,i,k,l,m,n,o,p,q,r,s,t,u,w,x,y,z,A,B,C,D,E,F,G,dem U,dem P,dem Q,v3,v4,dem v5,N], S3)) ()) ()) ()) := by
 kernel_rfl
theorem jf.r9  : jv Try.prog ⟨false, false, false⟩ (zQ Try.prog O) (reg Try.f41 9) (reg Try.f41 9).toList ([P,V,Y,Z,x4,U,Q,R,W,X,a,b,c,d,f,g,i,k,l,m,n,o,p,q,r,s,t,u,w,x,y,z,A,B,C,D,E,F,G,H,I,J,K,L,M,N]) S =
  (zF (jX Try.prog BinOp.add 3 a (Value.int IntKind.i64 1) S) (fun v0 S1 => some ([P,V,Y,Z,x4,U,Q,R,W,X,dem v0,b,c,d,f,g,i,k,l,m,n,o,p,q,r,s,t,u,w,x,y,z,A,B,C,D,E,F,G,H,I,J,K,L,M,v0], S1)) ()) := by
 kernel_rfl
theorem jf.r10  : jv Try.prog ⟨false, false, false⟩ (zQ Try.prog O) (reg Try.f41 10) (reg Try.f41 10).toList ([P,V,Y,Z,x4,U,Q,R,W,X,a,b,c,d,f,g,i,k,l,m,n,o,p,q,r,s,t,u,w,x,y,z,A,B,C,D,E,F,G,H,I,J,K,L,M,N]) S =
  ( some ([P,V,Value.int IntKind.u64 0,Value.slice none 0 0,Value.int IntKind.i64 11,U,Q,R,W,X,a,b,c,d,f,g,i,k,l,m,n,o,p,q,r,s,t,u,w,x,y,z,A,B,C,D,E,F,G,H,I,J,K,L,M,N], S)) := by
 kernel_rfl
theorem jf.runs {P : Value} {S S1 : zi} {e : AEx} {T : List Value} (h : zA Try.prog O false jf.code ([P,undef,undef,undef,undef,undef,undef,undef,undef,undef,undef,undef,undef,undef,undef,undef,undef,undef,undef,undef,undef,undef,undef,undef,undef,undef,undef,undef,undef,undef,undef,undef,undef,undef,undef,undef,undef,undef,undef,undef,undef,undef,undef,undef,undef,undef]) S = some (e, T, S1)) (he : e = .normal ∨ e = .ret)  (h0 : jY (T.getD 2 undef) = true) (h1 : jY (T.getD 3 undef) = true) (h2 : jY (T.getD 4 undef) = true) : zQ Try.prog O 41 [P] S = some (Value.tuple #[T.getD 2 undef, T.getD 3 undef, T.getD 4 undef], S1) :=
 yB rfl rfl Try.func41 (by decide) jf.body (by exact h) he ((ql ((show zG Try.prog T S1 Try.f41.results.toList = zG Try.prog T S1 [(ResultVar.tmp 2), (ResultVar.tmp 3), (ResultVar.tmp 4)] from by kernel_rfl).trans (by simp only [zG])) (by kernel_rfl) (by simp only [List.all_cons, List.all_nil, h0, h1, h2, Bool.and_true])).trans rfl)
end Go.Proofs.Ytfjogganfjkckaa
namespace Go.Proofs.Ytfjogganfjkckaa
open Go.Abs
abbrev wL.id : FuncId := 72
noncomputable def wL.jP : Code := (Code.seq (Code.seq (Code.region 2 (reg Try.f72 2) false) (Code.cond (Operand.tmp 5) Code.skip (Code.exit 0))) (Code.block 1 (Code.seq (Code.region 3 (reg Try.f72 3) false) (Code.region 4 (reg Try.f72 4) false))))
noncomputable def wL.code : Code := (Code.seq (Code.region 0 (reg Try.f72 0) false) (Code.seq (Code.region 1 (reg Try.f72 1) false) (Code.seq (Code.block 0 (Code.loop wL.jP)) (Code.seq (Code.region 5 (reg Try.f72 5) false) Code.ret))))
theorem wL.body : Try.f72.body = some wL.code := by kernel_rfl
theorem wL.eta {T : List Value} (h : T.length = 19) : T = [T.getD 0 undef,T.getD 1 undef,T.getD 2 undef,T.getD 3 undef,T.getD 4 undef,T.getD 5 undef,T.getD 6 undef,T.getD 7 undef,T.getD 8 undef,T.getD 9 undef,T.getD 10 undef,T.getD 11 undef,T.getD 12 undef,T.getD 13 undef,T.getD 14 undef,T.getD 15 undef,T.getD 16 undef,T.getD 17 undef,T.getD 18 undef] := (qG T 19 h).trans (by kernel_rfl)
theorem wL.list {T : List Value} (h : T.length = 19) : ∃ b o v n p q r s t u c d f g i j k l m, T = [b,o,v,n,p,q,r,s,t,u,c,d,f,g,i,j,k,l,m] := ⟨_, _, _, _, _, _, _, _, _, _, _, _, _, _, _, _, _, _, _, wL.eta h⟩
variable (b o v n p q r s t u c d f g i j k l m : Value) (S : zi)
theorem wL.r0  : jv Try.prog ⟨false, false, false⟩ (zQ Try.prog O) (reg Try.f72 0) (reg Try.f72 0).toList ([b,o,v,n,p,q,r,s,t,u,c,d,f,g,i,j,k,l,m]) S =
  ( some ([b,o,Value.slice none 0 0,n,p,q,r,s,t,u,c,d,f,g,i,j,k,l,m], S)) := by
 kernel_rfl
theorem wL.r1  : jv Try.prog ⟨false, false, false⟩ (zQ Try.prog O) (reg Try.f72 1) (reg Try.f72 1).toList ([b,o,v,n,p,q,r,s,t,u,c,d,f,g,i,j,k,l,m]) S =
  ( some ([b,o,v,Value.slice none 0 0,p,q,r,s,t,u,c,d,f,g,i,j,k,l,m], S)) := by
 kernel_rfl
theorem wL.r2  : jv Try.prog ⟨false, false, false⟩ (zQ Try.prog O) (reg Try.f72 2) (reg Try.f72 2).toList ([b,o,v,n,p,q,r,s,t,u,c,d,f,g,i,j,k,l,m]) S =
  (zF (jX Try.prog BinOp.geq 73 (dem b) (Value.int IntKind.u64 128) S) (fun A w => some ([b,o,v,n,dem b,A,r,s,t,u,c,d,f,g,i,j,k,l,m], w)) ()) := by
 kernel_rfl
theorem wL.r3  : jv Try.prog ⟨false, false, false⟩ (zQ Try.prog O) (reg Try.f72 3) (reg Try.f72 3).toList ([b,o,v,n,p,q,r,s,t,u,c,d,f,g,i,j,k,l,m]) S =
  (zF (qN Try.prog false false 73 5 (dem b) S) (fun x w => zF (jX Try.prog BinOp.or 5 x (Value.int IntKind.u8 128) w) (fun y B => zF (jR Try.prog 33 1 [(0, y)] B) (fun z C => zF (yj Try.prog 33 33 n z C) (fun D E => some ([b,o,v,D,p,q,dem n,dem b,x,y,z,dem D,f,g,i,j,k,l,m], E)) ()) ()) ()) ()) := by
 kernel_rfl
theorem wL.r4  : jv Try.prog ⟨false, false, false⟩ (zQ Try.prog O) (reg Try.f72 4) (reg Try.f72 4).toList ([b,o,v,n,p,q,r,s,t,u,c,d,f,g,i,j,k,l,m]) S =
  (zF (jX Try.prog BinOp.shr 73 (dem b) (Value.int IntKind.u64 7) S) (fun A w => some ([A,o,v,n,p,q,r,s,t,u,c,d,dem b,dem A,i,j,k,l,m], w)) ()) := by
 kernel_rfl
theorem wL.r5  : jv Try.prog ⟨false, false, false⟩ (zQ Try.prog O) (reg Try.f72 5) (reg Try.f72 5).toList ([b,o,v,n,p,q,r,s,t,u,c,d,f,g,i,j,k,l,m]) S =
  (zF (qN Try.prog false false 73 5 (dem b) S) (fun x w => zF (jR Try.prog 33 1 [(0, x)] w) (fun y B => zF (yj Try.prog 33 33 n y B) (fun z C => some ([b,o,z,dem n,p,q,r,s,t,u,c,d,f,g,dem n,dem b,x,y,dem z], C)) ()) ()) ()) := by
 kernel_rfl
theorem wL.runs {b : Value} {S w : zi} {e : AEx} {T : List Value} (h : zA Try.prog O false wL.code ([b,undef,undef,undef,undef,undef,undef,undef,undef,undef,undef,undef,undef,undef,undef,undef,undef,undef,undef]) S = some (e, T, w)) (he : e = .normal ∨ e = .ret) : zQ Try.prog O 72 [b] S = some (T.getD 2 undef, w) :=
 yB rfl rfl Try.func72 (by decide) wL.body (by exact h) he (wV (a := T.getD 2 undef) ((show zG Try.prog T w Try.f72.results.toList = zG Try.prog T w [(ResultVar.tmp 2)] from by kernel_rfl).trans (by simp only [zG])) (by kernel_rfl))
end Go.Proofs.Ytfjogganfjkckaa
namespace Go.Proofs.Ytfjogganfjkckaa
open Go.Abs
abbrev jd.id : FuncId := 38
noncomputable def jd.jP : Code := (Code.block 1 (Code.seq (Code.region 2 (reg Try.f38 2) false) (Code.seq (Code.region 3 (reg Try.f38 3) false) (Code.seq (Code.seq (Code.region 4 (reg Try.f38 4) false) (Code.cond (Operand.tmp 12) (Code.seq (Code.region 5 (reg Try.f38 5) false) Code.ret) Code.skip)) (Code.region 6 (reg Try.f38 6) false)))))
noncomputable def jd.code : Code := (Code.seq (Code.region 0 (reg Try.f38 0) false) (Code.seq (Code.region 1 (reg Try.f38 1) false) (Code.block 0 (Code.loop jd.jP))))
theorem jd.body : Try.f38.body = some jd.code := by kernel_rfl
theorem jd.eta {T : List Value} (h : T.length = 22) : T = [T.getD 0 undef,T.getD 1 undef,T.getD 2 undef,T.getD 3 undef,T.getD 4 undef,T.getD 5 undef,T.getD 6 undef,T.getD 7 undef,T.getD 8 undef,T.getD 9 undef,T.getD 10 undef,T.getD 11 undef,T.getD 12 undef,T.getD 13 undef,T.getD 14 undef,T.getD 15 undef,T.getD 16 undef,T.getD 17 undef,T.getD 18 undef,T.getD 19 undef,T.getD 20 undef,T.getD 21 undef] := (qG T 22 h).trans (by kernel_rfl)
theorem jd.list {T : List Value} (h : T.length = 22) : ∃ b s z r q u v w x y c d f g i j k l m n o p, T = [b,s,z,r,q,u,v,w,x,y,c,d,f,g,i,j,k,l,m,n,o,p] := ⟨_, _, _, _, _, _, _, _, _, _, _, _, _, _, _, _, _, _, _, _, _, _, jd.eta h⟩
variable (b s z r q u v w x y c d f g i j k l m n o p : Value) (S : zi)
theorem jd.r0  : jv Try.prog ⟨false, false, false⟩ (zQ Try.prog O) (reg Try.f38 0) (reg Try.f38 0).toList ([b,s,z,r,q,u,v,w,x,y,c,d,f,g,i,j,k,l,m,n,o,p]) S =
  ( some ([b,s,Value.slice none 0 0,r,q,u,v,w,x,y,c,d,f,g,i,j,k,l,m,n,o,p], S)) := by
 kernel_rfl
theorem jd.r1  : jv Try.prog ⟨false, false, false⟩ (zQ Try.prog O) (reg Try.f38 1) (reg Try.f38 1).toList ([b,s,z,r,q,u,v,w,x,y,c,d,f,g,i,j,k,l,m,n,o,p]) S =
  (zF (jR Try.prog 33 0 [] S) (fun E t => some ([b,s,z,E,q,dem E,v,w,x,y,c,d,f,g,i,j,k,l,m,n,o,p], t)) ()) := by
 kernel_rfl
theorem jd.r2  : jv Try.prog ⟨false, false, false⟩ (zQ Try.prog O) (reg Try.f38 2) (reg Try.f38 2).toList ([b,s,z,r,q,u,v,w,x,y,c,d,f,g,i,j,k,l,m,n,o,p]) S =
  (zF (jX Try.prog BinOp.rem 73 (dem b) (Value.int IntKind.u64 128) S) (fun B t => zF (qN Try.prog false false 73 5 B t) (fun A C => some ([b,s,z,r,A,u,dem b,B,dem A,y,c,d,f,g,i,j,k,l,m,n,o,p], C)) ()) ()) := by
 kernel_rfl
theorem jd.r3  : jv Try.prog ⟨false, false, false⟩ (zQ Try.prog O) (reg Try.f38 3) (reg Try.f38 3).toList ([b,s,z,r,q,u,v,w,x,y,c,d,f,g,i,j,k,l,m,n,o,p]) S =
  (zF (jX Try.prog BinOp.quo 73 (dem b) (Value.int IntKind.u64 128) S) (fun B t => some ([B,s,z,r,q,u,v,w,x,dem b,dem B,d,f,g,i,j,k,l,m,n,o,p], t)) ()) := by
 kernel_rfl
theorem jd.r4  : jv Try.prog ⟨false, false, false⟩ (zQ Try.prog O) (reg Try.f38 4) (reg Try.f38 4).toList ([b,s,z,r,q,u,v,w,x,y,c,d,f,g,i,j,k,l,m,n,o,p]) S =
  (zF (jX Try.prog BinOp.eql 73 (dem b) (Value.int IntKind.u64 0) S) (fun B t => some ([b,s,z,r,q,u,v,w,x,y,c,dem b,B,g,i,j,k,l,m,n,o,p], t)) ()) := by
 kernel_rfl
theorem jd.r5  : jv Try.prog ⟨false, false, false⟩ (zQ Try.prog O) (reg Try.f38 5) (reg Try.f38 5).toList ([b,s,z,r,q,u,v,w,x,y,c,d,f,g,i,j,k,l,m,n,o,p]) S =
  (zF (jR Try.prog 33 1 [(0, (dem q))] S) (fun A t => zF (yj Try.prog 33 33 r A t) (fun D C => some ([b,s,D,dem r,q,u,v,w,x,y,c,d,f,dem r,dem q,A,dem D,l,m,n,o,p], C)) ()) ()) := by
 kernel_rfl
theorem jd.r6  : jv Try.prog ⟨false, false, false⟩ (zQ Try.prog O) (reg Try.f38 6) (reg Try.f38 6).toList ([b,s,z,r,q,u,v,w,x,y,c,d,f,g,i,j,k,l,m,n,o,p]) S =
  (zF (jX Try.prog BinOp.add 5 (dem q) (Value.int IntKind.u8 128) S) (fun A t => zF (jR Try.prog 33 1 [(0, A)] t) (fun D C => zF (yj Try.prog 33 33 r D C) (fun F G => some ([b,s,z,F,q,u,v,w,x,y,c,d,f,g,i,j,k,dem r,dem q,A,D,dem F], G)) ()) ()) ()) := by
 kernel_rfl
theorem jd.runs {b : Value} {S t : zi} {e : AEx} {T : List Value} (h : zA Try.prog O false jd.code ([b,undef,undef,undef,undef,undef,undef,undef,undef,undef,undef,undef,undef,undef,undef,undef,undef,undef,undef,undef,undef,undef]) S = some (e, T, t)) (he : e = .normal ∨ e = .ret) : zQ Try.prog O 38 [b] S = some (T.getD 2 undef, t) :=
 yB rfl rfl Try.func38 (by decide) jd.body (by exact h) he (wV (a := T.getD 2 undef) ((show zG Try.prog T t Try.f38.results.toList = zG Try.prog T t [(ResultVar.tmp 2)] from by kernel_rfl).trans (by simp only [zG])) (by kernel_rfl))
end Go.Proofs.Ytfjogganfjkckaa
namespace Go.Proofs.Ytfjogganfjkckaa
open Go.Abs
def enc (n : Nat) : List UInt8 := if n < 128 then [UInt8.ofNat n] else UInt8.ofNat (n % 128 + 128) :: enc (n / 128)
termination_by n
decreasing_by omega
theorem Zl {n : Nat} (h : n < 128) : enc n = [UInt8.ofNat n] := by rw [enc, if_pos h]
theorem YA {n : Nat} (h : ¬ n < 128) : enc n = UInt8.ofNat (n % 128 + 128) :: enc (n / 128) := by rw [enc, if_neg h]
theorem wrap_u8 (n : Nat) : IntKind.u8.wrap (n : Int) = ((n % 256 : Nat) : Int) := by
 simp [IntKind.wrap, IntKind.bits, IntKind.signed]
theorem wrap_u64 (n : Nat) : IntKind.u64.wrap (n : Int) = ((n % 2 ^ 64 : Nat) : Int) := by
 simp [IntKind.wrap, IntKind.bits, IntKind.signed]
theorem aj7 : ∀ m : Fin 256, orI .u8 (m.val : Int) 128 = ((m.val % 128 + 128 : Nat) : Int) := by decide +kernel
theorem aiY (n : Nat) : orI .u8 (IntKind.u8.wrap (n : Int)) 128 = ((UInt8.ofNat (n % 128 + 128)).toNat : Int) := by
 rw [wrap_u8, aj7 ⟨n % 256, by omega⟩]
 simp only [UInt8.toNat_ofNat']
 omega
theorem abd {n : Nat} : IntKind.u8.wrap (n : Int) = ((UInt8.ofNat n).toNat : Int) := by
 rw [wrap_u8]
 simp
theorem akt (n : Nat) : (n : Int).fdiv (2 ^ min (Int.toNat 7) (IntKind.bits .u64)) = ((n / 128 : Nat) : Int) := by
 have : (2 : Int) ^ min (Int.toNat 7) (IntKind.bits .u64) = 128 := by decide
 rw [this, Int.fdiv_eq_ediv_of_nonneg _ (by omega)]
 omega
theorem ah3 (k : Nat) : ∀ n, n < 128 ^ (k + 1) → (enc n).length ≤ k + 1 := by
 induction k with
 | zero => intro n h; rw [Zl (by omega)]; simp
 | succ k ih =>
  intro n h
  by_cases hn : n < 128
  ·
   rw [Zl hn]; simp
  ·
   rw [YA hn]
   have := ih (n / 128) (by rw [Nat.div_lt_iff_lt_mul (by omega)]; exact h)
   simp only [List.length_cons]; omega
theorem ZN {n : Nat} (h : n < 2 ^ 64) : (enc n).length ≤ 10 := ah3 9 n (Nat.lt_of_lt_of_le h (by decide))
theorem aiV (n : Nat) : (n : Int).tmod 128 = ((n % 128 : Nat) : Int) := by
 rw [Int.tmod_eq_emod_of_nonneg (by omega)]; omega
theorem aiA (n : Nat) (h : n < 2 ^ 64) : IntKind.u64.wrap ((n : Int).tdiv 128) = ((n / 128 : Nat) : Int) := by
 rw [Int.tdiv_eq_ediv_of_nonneg (by omega), show (n : Int) / 128 = ((n / 128 : Nat) : Int) by omega, wrap_u64]
 omega
theorem akc (n : Nat) : IntKind.u8.wrap ((n % 128 : Nat) : Int) = ((UInt8.ofNat (n % 128)).toNat : Int) := abd
theorem aiw (n : Nat) : IntKind.u8.wrap (((UInt8.ofNat (n % 128)).toNat : Int) + 128) = ((UInt8.ofNat (n % 128 + 128)).toNat : Int) := by
 have : ((UInt8.ofNat (n % 128)).toNat : Int) + 128 = ((n % 128 + 128 : Nat) : Int) := by simp only [UInt8.toNat_ofNat']; omega
 rw [this]; exact abd
theorem agD : sv 2 1 0 [] = by_ 2 [] := rfl
theorem agG (x : UInt8) : sv 2 1 1 [.int .u8 x.toNat] = by_ 2 [x] := rfl
theorem abb {k : Nat} {l : List UInt8} {x : UInt8} {S : zi} (h : Okl k l) (hk : k ≠ 1) (hl : l.length ≤ 140737488355000) : yj Try.prog 33 33 (by_ k l) (by_ 2 [x]) S = some (by_ 2 (l ++ [x]), S) := by
 rw [xE h hk Okl.own (by simp; omega), if_neg (fun h => by have := h.2; simp at this)]
theorem wL.round : ∀ (n : Nat) (l : List UInt8) (k : Nat) {T : List Value} {S : zi} {r : St}, qI (zA Try.prog O false wL.jP) T S = r → T.length = 19 → T.getD 0 undef = .int .u64 n → T.getD 3 undef = by_ k l →
  Okl k l → k ≠ 1 → n * 2 ^ l.length < 2 ^ 64 → ∃ T' l' k' n', r = some (.exit 0, T', S) ∧ T'.length = 19 ∧ T'.getD 0 undef = .int .u64 (n' : Nat) ∧ T'.getD 3 undef = by_ k' l' ∧
   Okl k' l' ∧ k' ≠ 1 ∧ n' < 128 ∧ l' ++ [UInt8.ofNat n'] = l ++ enc n := by
 intro n
 induction n using Nat.strongRecOn with
 | _ n ih =>
  intro l k T S r hL hT h0 h3 hs hk hl
  obtain ⟨x0, x1, x2, x3, x4, x5, x6, x7, x8, x9, x10, x11, x12, x13, x14, x15, x16, x17, x18, hTe⟩ := wL.list hT
  rw [hTe] at h0 h3
  simp only [List.getD_cons_succ, List.getD_cons_zero] at h0 h3
  subst h0 h3
  have hr : zA Try.prog O false wL.jP T S = zA Try.prog O false wL.jP T S := rfl
  by_cases hlt : n < 128
  ·
   have hd : decide ((128 : Int) ≤ (n : Int)) = false := by simp; omega
   conv at hr =>
    rhs
    rw [hTe]
    simp only [wL.jP, zSs, reduceIte, Nat.reduceEqDiff, Int.reduceEq, Int.reduceLT, Int.reduceLE, wL.r2, hd]
   exact ⟨_, l, k, n, hL.symm.trans (wz hr (by simp)), rfl, rfl, rfl, hs, hk, hlt, by rw [Zl hlt]⟩
  ·
   have hd : decide ((128 : Int) ≤ (n : Int)) = true := by simp; omega
   have hll : l.length < 64 := by
    have : 2 ^ l.length < 2 ^ 64 := Nat.lt_of_le_of_lt (Nat.le_mul_of_pos_left _ (by omega)) hl
    exact (Nat.pow_lt_pow_iff_right (by omega)).1 this
   have e1 : ∀ x S, yj Try.prog 33 33 (by_ k l) (by_ 2 [x]) S = some (by_ 2 (l ++ [x]), S) := fun x S => abb hs hk (by omega)
   conv at hr =>
    rhs
    rw [hTe]
    simp only [wL.jP, zSs, reduceIte, Nat.reduceEqDiff, Int.reduceEq, Int.reduceLT, Int.reduceLE, wL.r2, hd, wL.r3, Zk, afz, aiY, ZC, agG, e1, wL.r4, ab4 _ _ _ _ (show (0 : Int) ≤ 7 by omega), akt]
   have hmul : n / 128 * 2 ^ (l.length + 1) < 2 ^ 64 := by
    refine Nat.lt_of_le_of_lt ?_ hl
    rw [Nat.pow_succ, Nat.mul_comm (2 ^ l.length) 2, ← Nat.mul_assoc]
    exact Nat.mul_le_mul_right _ (by omega)
   obtain ⟨T', l', k', n', g1, g2, g3, g4, g5, g6, g7, g8⟩ := ih (n / 128) (by omega) _ 2 ((yR hr).symm.trans hL) rfl rfl rfl Okl.own (by decide) (by simpa using hmul)
   refine ⟨T', l', k', n', g1, g2, g3, g4, g5, g6, g7, ?_⟩
   rw [g8, YA hlt, List.append_assoc]; rfl
theorem wL.v (n : Nat) (hn : n < 2 ^ 64) (S : zi) : zQ Try.prog O wL.id [.int .u64 n] S = some (by_ 2 (enc n), S) := by
 obtain ⟨T, hTe⟩ : ∃ T, T = (.int .u64 n :: undef :: undef :: undef :: undef :: undef :: undef :: undef :: undef :: undef :: undef :: undef :: undef :: undef :: undef :: undef :: undef :: undef :: undef :: []) := ⟨_, rfl⟩
 have hr : zA Try.prog O false wL.code T S = zA Try.prog O false wL.code T S := rfl
 conv at hr =>
  rhs
  rw [hTe]
  simp only [wL.code, zSs, reduceIte, Nat.reduceEqDiff, Int.reduceEq, Int.reduceLT, Int.reduceLE, wL.r0, wL.r1]
 generalize hL : qI (zA Try.prog O false wL.jP) _ _ = r at hr
 obtain ⟨T', l', k', n', rfl, g2, g3, g4, g5, g6, g7, g8⟩ := wL.round n [] 0 hL rfl rfl rfl Okl.none (by decide) (by simpa using hn)
 obtain ⟨x0, x1, x2, x3, x4, x5, x6, x7, x8, x9, x10, x11, x12, x13, x14, x15, x16, x17, x18, hT'⟩ := wL.list g2
 rw [hT'] at g3 g4
 simp only [List.getD_cons_succ, List.getD_cons_zero] at g3 g4
 subst g3 g4
 have hlen : l'.length + 1 = (enc n).length := by simpa using congrArg List.length g8
 have h10 := ZN hn
 have e1 : ∀ x S, yj Try.prog 33 33 (by_ k' l') (by_ 2 [x]) S = some (by_ 2 (l' ++ [x]), S) := fun x S => abb g5 g6 (by omega)
 conv at hr =>
  rhs
  rw [hT']
  simp only [zSs, reduceIte, Nat.reduceEqDiff, Int.reduceEq, Int.reduceLT, Int.reduceLE, wL.r5, Zk, abd, ZC, agG, e1]
 rw [hTe] at hr
 have := wL.runs hr (.inr rfl)
 rw [List.nil_append] at g8
 rw [← g8]
 exact this
theorem jd.round : ∀ (n : Nat) (l : List UInt8) {T : List Value} {S : zi} {r : St}, qI (zA Try.prog O false jd.jP) T S = r → T.length = 22 → T.getD 0 undef = .int .u64 n → T.getD 3 undef = by_ 2 l →
  n * 2 ^ l.length < 2 ^ 64 → l.length < 64 → ∃ T', r = some (.ret, T', S) ∧ T'.getD 2 undef = by_ 2 (l ++ enc n) := by
 intro n
 induction n using Nat.strongRecOn with
 | _ n ih =>
  intro l T S r hL hT h0 h3 hl hll
  obtain ⟨x0, x1, x2, x3, x4, x5, x6, x7, x8, x9, x10, x11, x12, x13, x14, x15, x16, x17, x18, x19, x20, x21, hTe⟩ := jd.list hT
  rw [hTe] at h0 h3
  simp only [List.getD_cons_succ, List.getD_cons_zero] at h0 h3
  subst h0 h3
  have hn : n < 2 ^ 64 := Nat.lt_of_le_of_lt (Nat.le_mul_of_pos_right _ (by exact Nat.two_pow_pos _)) hl
  have e1 : ∀ x S, yj Try.prog 33 33 (by_ 2 l) (by_ 2 [x]) S = some (by_ 2 (l ++ [x]), S) := fun x S => abb Okl.own (by decide) (by omega)
  have hr : zA Try.prog O false jd.jP T S = zA Try.prog O false jd.jP T S := rfl
  conv at hr =>
   rhs
   rw [hTe]
   simp only [jd.jP, zSs, reduceIte, Nat.reduceEqDiff, Int.reduceEq, Int.reduceLT, Int.reduceLE, jd.r2, jd.r3, jd.r4, WV _ _ _ (show (128 : Int) ≠ 0 by omega), kY _ _ _ (show (128 : Int) ≠ 0 by omega), aiV, aiA n hn, Zk, akc]
  by_cases hz : n / 128 = 0
  ·
   have hd : decide (((n / 128 : Nat) : Int) = 0) = true := by simp; omega
   conv at hr =>
    rhs
    simp only [hd, zSs, reduceIte, Nat.reduceEqDiff, Int.reduceEq, Int.reduceLT, Int.reduceLE, jd.r5, ZC, agG, e1]
   refine ⟨_, hL.symm.trans (wz hr (by simp)), ?_⟩
   rw [Zl (by omega)]
   simp only [List.getD_cons_succ, List.getD_cons_zero]
   rw [show n % 128 = n by omega]
  ·
   have hd : decide (((n / 128 : Nat) : Int) = 0) = false := by simp; omega
   conv at hr =>
    rhs
    simp only [hd, zSs, reduceIte, Nat.reduceEqDiff, Int.reduceEq, Int.reduceLT, Int.reduceLE, jd.r6, aiw, ZC, agG, e1]
   have hmul : n / 128 * 2 ^ (l.length + 1) < 2 ^ 64 := by
    refine Nat.lt_of_le_of_lt ?_ hl
    rw [Nat.pow_succ, Nat.mul_comm (2 ^ l.length) 2, ← Nat.mul_assoc]
    exact Nat.mul_le_mul_right _ (by omega)
   have hl2 : l.length + 1 < 64 := by
    have : 2 ^ (l.length + 1) < 2 ^ 64 := Nat.lt_of_le_of_lt (Nat.le_mul_of_pos_left _ (by omega)) hmul
    exact (Nat.pow_lt_pow_iff_right (by omega)).1 this
   obtain ⟨T', g1, g2⟩ := ih (n / 128) (by omega) _ ((yR hr).symm.trans hL) rfl rfl rfl (by simpa using hmul) (by simpa using hl2)
   refine ⟨T', g1, ?_⟩
   rw [g2, YA (n := n) (by omega), List.append_assoc]
   rfl
theorem jd.v (n : Nat) (hn : n < 2 ^ 64) (S : zi) : zQ Try.prog O jd.id [.int .u64 n] S = some (by_ 2 (enc n), S) := by
 obtain ⟨T, hTe⟩ : ∃ T, T = (.int .u64 n :: undef :: undef :: undef :: undef :: undef :: undef :: undef :: undef :: undef :: undef :: undef :: undef :: undef :: undef :: undef :: undef :: undef :: undef :: undef :: undef :: undef :: []) := ⟨_, rfl⟩
 have hr : zA Try.prog O false jd.code T S = zA Try.prog O false jd.code T S := rfl
 conv at hr =>
  rhs
  rw [hTe]
  simp only [jd.code, zSs, reduceIte, Nat.reduceEqDiff, Int.reduceEq, Int.reduceLT, Int.reduceLE, jd.r0, jd.r1, Zv, agD]
 generalize hL : qI (zA Try.prog O false jd.jP) _ _ = r at hr
 obtain ⟨T', rfl, g2⟩ := jd.round n [] hL rfl rfl rfl (by simpa using hn) (by simp)
 conv at hr =>
  rhs
  simp only [zSs, reduceIte, Nat.reduceEqDiff, Int.reduceEq, Int.reduceLT, Int.reduceLE]
 rw [hTe] at hr
 have hrun := jd.runs hr (.inr rfl)
 rw [g2] at hrun
 exact hrun
end Go.Proofs.Ytfjogganfjkckaa
namespace Go.Proofs.Ytfjogganfjkckaa
open Go.Abs
theorem slices_Clone.v {k : Nat} {l : List UInt8} (h : Okl k l) (hk : k ≠ 2) (hl : l.length ≤ 140737488355328) (S : zi) : zQ Try.prog O slices_Clone.id [by_ k l] S = some (by_ (if k = 0 then 0 else 2) l, S) := by
 obtain ⟨T, hTe⟩ : ∃ T, T = (by_ k l :: undef :: undef :: undef :: undef :: undef :: undef :: undef :: []) := ⟨_, rfl⟩
 have hr : zA Try.prog O false slices_Clone.code T S = zA Try.prog O false slices_Clone.code T S := rfl
 conv at hr =>
  rhs
  rw [hTe]
  simp only [slices_Clone.code, zSs, reduceIte, Nat.reduceEqDiff, Int.reduceEq, Int.reduceLT, Int.reduceLE, slices_Clone.r0, slices_Clone.r1, if_neg hk, aga h]
 by_cases h0 : k = 0
 ·
  have hl0 := h.nil h0
  subst h0 hl0
  conv at hr =>
   rhs
   simp only [decide_true, zSs, reduceIte, Nat.reduceEqDiff, Int.reduceEq, Int.reduceLT, Int.reduceLE, slices_Clone.r2]
  rw [hTe] at hr
  exact slices_Clone.runs hr (.inr rfl)
 ·
  have e1 : ∀ S, yj Try.prog 33 33 (by_ 2 []) (by_ k l) S = some (by_ 2 l, S) := fun S => by
   rw [xE Okl.own (by decide) h (by simpa using hl)]; rfl
  conv at hr =>
   rhs
   simp only [h0, decide_false, zSs, reduceIte, Nat.reduceEqDiff, Int.reduceEq, Int.reduceLT, Int.reduceLE, slices_Clone.r3, Zv, agD, if_neg hk, e1]
  rw [hTe] at hr
  rw [if_neg h0]
  exact slices_Clone.runs hr (.inr rfl)
def scan : Nat → Nat → List UInt8 → Option (Nat × List UInt8)
 | _, _, [] => none
 | i, acc, x :: r => if (i = 9 ∧ 1 < x.toNat) ∨ (0 < i ∧ x.toNat = 0) then none else if x.toNat < 128 then some (acc + x.toNat * 128 ^ i, r) else scan (i + 1) (acc + (x.toNat - 128) * 128 ^ i) r
def ad3 (l : List UInt8) : Value :=
 match scan 0 0 l with
 | none => .tuple #[.int .u64 0, .slice none 0 0, .int .i64 11]
 | some (m, rest) => .tuple #[.int .u64 (m : Nat), by_ 2 rest, .int .i64 0]
theorem jf.stop (x0 x1 x2 x3 x4 x5 x6 x7 x8 x9 x10 x11 x12 x13 x14 x15 x16 x17 x18 x19 x20 x21 x22 x23 x24 x25 x26 x27 x28 x29 x30 x31 x32 x33 x34 x35 x36 x37 x38 x39 x40 x41 x42 x43 x44 x45 : Value) (i x : Int) (S : zi) (h6 : x6 = .int .i64 i) (h7 : x7 = .int .u8 x) : ∃ y15 y16 y17 y18 y19 y20 y21 y22 y23 y24 y25 y26 y27, jv Try.prog ⟨false, false, false⟩ (zQ Try.prog O) (reg Try.f41 5) (reg Try.f41 5).toList (x0 :: x1 :: x2 :: x3 :: x4 :: x5 :: x6 :: x7 :: x8 :: x9 :: x10 :: x11 :: x12 :: x13 :: x14 :: x15 :: x16 :: x17 :: x18 :: x19 :: x20 :: x21 :: x22 :: x23 :: x24 :: x25 :: x26 :: x27 :: x28 :: x29 :: x30 :: x31 :: x32 :: x33 :: x34 :: x35 :: x36 :: x37 :: x38 :: x39 :: x40 :: x41 :: x42 :: x43 :: x44 :: x45 :: []) S =
  some ((x0 :: x1 :: x2 :: x3 :: x4 :: x5 :: x6 :: x7 :: x8 :: x9 :: x10 :: x11 :: x12 :: x13 :: x14 :: y15 :: y16 :: y17 :: y18 :: y19 :: y20 :: y21 :: y22 :: y23 :: y24 :: y25 :: y26 :: y27 :: .bool (decide ((i = 9 ∧ 1 < x) ∨ (0 < i ∧ x = 0))) :: x29 :: x30 :: x31 :: x32 :: x33 :: x34 :: x35 :: x36 :: x37 :: x38 :: x39 :: x40 :: x41 :: x42 :: x43 :: x44 :: x45 :: []), S) := by
 subst h6 h7
 rw [jf.r5]
 simp only [zSs, reduceIte, Nat.reduceEqDiff, Int.reduceEq, Int.reduceLT, Int.reduceLE]
 rcases Bool.eq_false_or_eq_true (decide (i = 9)) with d1 | d1 <;> rcases Bool.eq_false_or_eq_true (decide (1 < x)) with d2 | d2 <;> rcases Bool.eq_false_or_eq_true (decide (0 < i)) with d3 | d3 <;> rcases Bool.eq_false_or_eq_true (decide (x = 0)) with d4 | d4 <;>
  simp only [d1, d2, d3, d4, zSs, reduceIte, Nat.reduceEqDiff, Int.reduceEq, Int.reduceLT, Int.reduceLE] <;> simp only [decide_eq_true_eq, decide_eq_false_iff_not] at d1 d2 d3 d4 <;>
  simp only [d1, d2, d3, d4, true_and, false_and, and_true, and_false, or_true, true_or, or_false, false_or, decide_true, decide_false, not_true, not_false_iff, Int.reduceLT, Int.reduceEq, and_self, or_self] <;> first | exact ⟨_, _, _, _, _, _, _, _, _, _, _, _, _, rfl⟩ | omega
theorem ajQ : ∀ m : Fin 256, aj0 .u8 (m.val : Int) 127 = ((m.val % 128 : Nat) : Int) := by decide +kernel
theorem agA (x : UInt8) : aj0 .u8 (x.toNat : Int) 127 = ((x.toNat % 128 : Nat) : Int) := ajQ ⟨x.toNat, x.toNat_lt⟩
theorem Ye {n : Nat} (h : n < 2 ^ 64) : IntKind.u64.wrap (n : Int) = (n : Int) := by
 rw [wrap_u64, Nat.mod_eq_of_lt h]
theorem ah5 {a c i : Nat} (ha : a < 2 ^ i) (h : c * 2 ^ i < 2 ^ 64) (h2 : a < 2 ^ 64) : orI .u64 (a : Int) ((c * 2 ^ i : Nat) : Int) = ((a + c * 2 ^ i : Nat) : Int) := by
 have hor : a ||| c * 2 ^ i = a + c * 2 ^ i := by
  have := Nat.shiftLeft_add_eq_or_of_lt ha c
  rw [Nat.shiftLeft_eq] at this
  rw [Nat.or_comm, ← this, Nat.add_comm]
 have hlt : a ||| c * 2 ^ i < 2 ^ 64 := Nat.or_lt_two_pow h2 h
 unfold orI
 rw [BitVec.ofInt_natCast, BitVec.ofInt_natCast, BitVec.toNat_or, BitVec.toNat_ofNat, BitVec.toNat_ofNat]
 rw [show IntKind.bits .u64 = 64 from rfl, Nat.mod_eq_of_lt h2, Nat.mod_eq_of_lt h, Ye hlt, hor]
theorem akA {c i : Nat} (hi : i ≤ 9) (h : c * 128 ^ i < 2 ^ 64) : IntKind.u64.wrap ((c : Int) * 2 ^ (min (Int.toNat (7 * (i : Int))) (IntKind.bits .u64))) = ((c * 2 ^ (7 * i) : Nat) : Int) := by
 have e1 : min (Int.toNat (7 * (i : Int))) (IntKind.bits .u64) = 7 * i := by
  rw [show IntKind.bits .u64 = 64 from rfl]; omega
 have e2 : (128 : Nat) ^ i = 2 ^ (7 * i) := by rw [Nat.pow_mul]
 rw [e1, show (c : Int) * 2 ^ (7 * i) = ((c * 2 ^ (7 * i) : Nat) : Int) by simp, Ye (by rw [← e2]; exact h)]
theorem afV {l pre suf : List UInt8} {x : UInt8} (hl : l = pre ++ x :: suf) : (l.drop ((pre.length : Int) + 1).toNat).take ((l.length : Int).toNat - ((pre.length : Int) + 1).toNat) = suf := by
 rw [show ((pre.length : Int) + 1).toNat = pre.length + 1 by omega, show (l.length : Int).toNat = l.length by omega, hl]
 rw [show pre ++ x :: suf = (pre ++ [x]) ++ suf by simp, show pre.length + 1 = (pre ++ [x]).length by simp, List.drop_left]
 rw [List.take_of_length_le]; simp; omega
theorem jf.round {k : Nat} {l : List UInt8} (hv : Okl k l) (hk : k ≠ 2) (hlen : l.length ≤ 140737488355328) {S : zi} : ∀ (suf pre : List UInt8) (acc : Nat) {T : List Value} {r : St}, qI (zA Try.prog O false jf.jP) T S = r → T.length = 46 →
  T.getD 0 undef = by_ k l → T.getD 8 undef = by_ k l → T.getD 9 undef = .int .i64 l.length → T.getD 10 undef = .int .i64 pre.length → T.getD 5 undef = .int .u64 acc → l = pre ++ suf → acc < 128 ^ pre.length → pre.length ≤ 9 →
  ∃ e T', r = some (e, T', S) ∧ match scan pre.length acc suf with
   | none => e = .exit 0 ∧ T'.length = 46
   | some (m, rest) => e = .ret ∧ m < 2 ^ 64 ∧ T'.getD 2 undef = .int .u64 m ∧ T'.getD 3 undef = by_ 2 rest ∧ T'.getD 4 undef = .int .i64 0 := by
 intro suf
 induction suf with
 | nil =>
  intro pre acc T r hL hT h0 h8 h9 h10 h5 hl hacc hpre
  obtain ⟨x0, x1, x2, x3, x4, x5, x6, x7, x8, x9, x10, x11, x12, x13, x14, x15, x16, x17, x18, x19, x20, x21, x22, x23, x24, x25, x26, x27, x28, x29, x30, x31, x32, x33, x34, x35, x36, x37, x38, x39, x40, x41, x42, x43, x44, x45, hTe⟩ := jf.list hT
  rw [hTe] at h0 h8 h9 h10 h5
  simp only [List.getD_cons_succ, List.getD_cons_zero] at h0 h8 h9 h10 h5
  subst h0 h8 h9 h10 h5
  have hr : zA Try.prog O false jf.jP T S = zA Try.prog O false jf.jP T S := rfl
  have hd : decide ((pre.length : Int) < (l.length : Int)) = false := by rw [hl]; simp
  conv at hr =>
   rhs
   rw [hTe]
   simp only [jf.jP, zSs, reduceIte, Nat.reduceEqDiff, Int.reduceEq, Int.reduceLT, Int.reduceLE, jf.r3, hd]
  exact ⟨_, _, hL.symm.trans (wz hr (by simp)), rfl, rfl⟩
 | cons x suf ih =>
  intro pre acc T r hL hT h0 h8 h9 h10 h5 hl hacc hpre
  obtain ⟨x0, x1, x2, x3, x4, x5, x6, x7, x8, x9, x10, x11, x12, x13, x14, x15, x16, x17, x18, x19, x20, x21, x22, x23, x24, x25, x26, x27, x28, x29, x30, x31, x32, x33, x34, x35, x36, x37, x38, x39, x40, x41, x42, x43, x44, x45, hTe⟩ := jf.list hT
  rw [hTe] at h0 h8 h9 h10 h5
  simp only [List.getD_cons_succ, List.getD_cons_zero] at h0 h8 h9 h10 h5
  subst h0 h8 h9 h10 h5
  have hr : zA Try.prog O false jf.jP T S = zA Try.prog O false jf.jP T S := rfl
  have hlt : (pre.length : Int) < (l.length : Int) := by rw [hl]; simp; omega
  have hd : decide ((pre.length : Int) < (l.length : Int)) = true := by simpa using hlt
  have k0 : k ≠ 0 := fun h => by have := hv.nil h; rw [this] at hl; simp at hl
  have e1 : ∀ S, jB Try.prog 33 (by_ k l) (.int .i64 pre.length) S = some (EP [.int .u8 x.toNat], S) := fun S => by
   rw [ait hv (by omega) hlt]; rw [acg hl]
  obtain ⟨y15, y16, y17, y18, y19, y20, y21, y22, y23, y24, y25, y26, y27, e3⟩ := jf.stop (by_ k l) x1 x2 x3 x4 (.int .u64 acc) (.int .i64 pre.length) (.int .u8 x.toNat) (by_ k l) (.int .i64 l.length) (.int .i64 pre.length) (.bool true) (.int .i64 pre.length) (EP [.int .u8 x.toNat]) (.int .u8 x.toNat) x15 x16 x17 x18 x19 x20 x21 x22 x23 x24 x25 x26 x27 x28 x29 x30 x31 x32 x33 x34 x35 x36 x37 x38 x39 x40 x41 x42 x43 x44 x45 (pre.length : Int) (x.toNat : Int) S rfl rfl
  conv at hr =>
   rhs
   rw [hTe]
   simp only [jf.jP, zSs, reduceIte, Nat.reduceEqDiff, Int.reduceEq, Int.reduceLT, Int.reduceLE, jf.r3, hd, jf.r4, e1, aa3, if_neg hk, e3]
  have hst : ((pre.length : Int) = 9 ∧ 1 < (x.toNat : Int) ∨ 0 < (pre.length : Int) ∧ (x.toNat : Int) = 0) ↔ ((pre.length = 9 ∧ 1 < x.toNat) ∨ (0 < pre.length ∧ x.toNat = 0)) := by omega
  by_cases hs : (pre.length = 9 ∧ 1 < x.toNat) ∨ (0 < pre.length ∧ x.toNat = 0)
  ·
   have hs2 := decide_eq_true (hst.2 hs)
   conv at hr =>
    rhs
    simp only [hs2, zSs, reduceIte, Nat.reduceEqDiff, Int.reduceEq, Int.reduceLT, Int.reduceLE]
   refine ⟨_, _, hL.symm.trans (wz hr (by simp)), ?_⟩
   rw [scan, if_pos hs]
   exact ⟨rfl, rfl⟩
  ·
   have hs2 := decide_eq_false (fun h => hs (hst.1 h))
   have hx256 := x.toNat_lt
   have hpw : 128 ^ pre.length ≤ 128 ^ 9 := Nat.pow_le_pow_right (by omega) hpre
   have hc64 : x.toNat % 128 * 128 ^ pre.length < 2 ^ 64 := by
    by_cases h9 : pre.length = 9
    ·
     rw [h9]; have : x.toNat % 128 ≤ 1 := by omega
     exact Nat.lt_of_le_of_lt (Nat.mul_le_mul_right _ this) (by decide)
    ·
     have h8 : 128 ^ pre.length ≤ 128 ^ 8 := Nat.pow_le_pow_right (by omega) (by omega)
     exact Nat.lt_of_le_of_lt (Nat.mul_le_mul (by omega : x.toNat % 128 ≤ 127) h8) (by decide)
   have hm : IntKind.i64.wrap (7 * (pre.length : Int)) = 7 * (pre.length : Int) := wrap_i64 (by omega) (by omega)
   have e128 : (128 : Nat) ^ pre.length = 2 ^ (7 * pre.length) := by rw [Nat.pow_mul]
   have hor := ah5 (a := acc) (c := x.toNat % 128) (i := 7 * pre.length) (by rw [← e128]; exact hacc) (by rw [← e128]; exact hc64) (Nat.lt_of_lt_of_le hacc (Nat.le_trans hpw (by decide)))
   conv at hr =>
    rhs
    simp only [hs2, zSs, reduceIte, Nat.reduceEqDiff, Int.reduceEq, Int.reduceLT, Int.reduceLE, jf.r6, afU, agA, Zj, Ye (show x.toNat % 128 < 2 ^ 64 by omega), hm, XY _ _ _ _ (show (0 : Int) ≤ 7 * (pre.length : Int) by omega), akA hpre hc64, afz, hor, jf.r7]
   rw [← e128] at hr
   have hadd : acc + x.toNat % 128 * 128 ^ pre.length < 128 ^ (pre.length + 1) := by
    rw [Nat.pow_succ]
    have : x.toNat % 128 * 128 ^ pre.length ≤ 127 * 128 ^ pre.length := Nat.mul_le_mul_right _ (by omega)
    omega
   have hi1 : IntKind.i64.wrap ((pre.length : Int) + 1) = (pre.length : Int) + 1 := wrap_i64 (by omega) (by omega)
   by_cases hxs : x.toNat < 128
   ·
    have hd2 : decide ((x.toNat : Int) < 128) = true := by simp; omega
    have e4 : ∀ S, Zu Try.prog 33 (by_ k l) (some (.int .i64 ((pre.length : Int) + 1))) none S = some (by_ k suf, S) := fun S => by
     rw [agj hv (lo := some (.int .i64 ((pre.length : Int) + 1))) (hi := none) (i := (pre.length : Int) + 1) (j := l.length) rfl rfl (by omega) (by omega) (by omega), afV hl, if_neg hk]
    have ok2 : Okl k suf := ⟨hv.le, fun h => absurd h k0⟩
    have e5 : ∀ S, zQ Try.prog O slices_Clone.id [by_ k suf] S = some (by_ 2 suf, S) := fun S => by
     rw [slices_Clone.v ok2 hk (by have := congrArg List.length hl; simp at this; omega), if_neg k0]
    conv at hr =>
     rhs
     simp only [hd2, zSs, reduceIte, Nat.reduceEqDiff, Int.reduceEq, Int.reduceLT, Int.reduceLE, jf.r8, hi1, if_neg hk, e4, e5]
    refine ⟨_, _, hL.symm.trans (wz hr (by simp)), ?_⟩
    rw [scan, if_neg hs, if_pos hxs]
    have hxm : x.toNat % 128 = x.toNat := by omega
    rw [hxm]
    refine ⟨rfl, ?_, rfl, rfl, rfl⟩
    rw [hxm] at hadd
    by_cases h9 : pre.length = 9
    ·
     rw [h9] at hacc ⊢
     have : x.toNat ≤ 1 := by omega
     have h1 : x.toNat * 128 ^ 9 ≤ 1 * 128 ^ 9 := Nat.mul_le_mul_right _ this
     have h2 : (128 : Nat) ^ 9 + 1 * 128 ^ 9 = 2 ^ 64 := by decide
     omega
    ·
     have h8 : 128 ^ (pre.length + 1) ≤ 128 ^ 9 := Nat.pow_le_pow_right (by omega) (by omega)
     exact Nat.lt_of_lt_of_le hadd (Nat.le_trans h8 (by decide))
   ·
    have hd2 : decide ((x.toNat : Int) < 128) = false := by simp; omega
    conv at hr =>
     rhs
     simp only [hd2, zSs, reduceIte, Nat.reduceEqDiff, Int.reduceEq, Int.reduceLT, Int.reduceLE, jf.r9, hi1]
    obtain ⟨e, T', g1, g3⟩ := ih (pre ++ [x]) (acc + x.toNat % 128 * 128 ^ pre.length) ((yR hr).symm.trans hL) rfl rfl rfl rfl (by simp) rfl (by simp [hl]) (by simpa using hadd) (by simp; omega)
    refine ⟨e, T', g1, ?_⟩
    rw [scan, if_neg hs, if_neg hxs]
    have hxm : x.toNat % 128 = x.toNat - 128 := by omega
    rw [hxm] at g3
    simpa using g3
theorem jf.v {k : Nat} {l : List UInt8} (hv : Okl k l) (hk : k ≠ 2) (hlen : l.length ≤ 140737488355328) (S : zi) : zQ Try.prog O jf.id [by_ k l] S = some (ad3 l, S) := by
 obtain ⟨T, hTe⟩ : ∃ T, T = (by_ k l :: undef :: undef :: undef :: undef :: undef :: undef :: undef :: undef :: undef :: undef :: undef :: undef :: undef :: undef :: undef :: undef :: undef :: undef :: undef :: undef :: undef :: undef :: undef :: undef :: undef :: undef :: undef :: undef :: undef :: undef :: undef :: undef :: undef :: undef :: undef :: undef :: undef :: undef :: undef :: undef :: undef :: undef :: undef :: undef :: undef :: []) := ⟨_, rfl⟩
 have hr : zA Try.prog O false jf.code T S = zA Try.prog O false jf.code T S := rfl
 conv at hr =>
  rhs
  rw [hTe]
  simp only [jf.code, zSs, reduceIte, Nat.reduceEqDiff, Int.reduceEq, Int.reduceLT, Int.reduceLE, jf.r0, jf.r1, jf.r2, if_neg hk, J7 hv]
 generalize hL : qI (zA Try.prog O false jf.jP) _ _ = r at hr
 obtain ⟨e, T', rfl, g3⟩ := jf.round hv hk hlen l [] 0 hL rfl rfl rfl rfl rfl rfl rfl (by simp) (by simp)
 simp only [List.length_nil] at g3
 unfold ad3
 cases hsc : scan 0 0 l with
 | none =>
  rw [hsc] at g3
  obtain ⟨rfl, hT'⟩ := g3
  obtain ⟨x0, x1, x2, x3, x4, x5, x6, x7, x8, x9, x10, x11, x12, x13, x14, x15, x16, x17, x18, x19, x20, x21, x22, x23, x24, x25, x26, x27, x28, x29, x30, x31, x32, x33, x34, x35, x36, x37, x38, x39, x40, x41, x42, x43, x44, x45, hTe'⟩ := jf.list hT'
  conv at hr =>
   rhs
   rw [hTe']
   simp only [zSs, reduceIte, Nat.reduceEqDiff, Int.reduceEq, Int.reduceLT, Int.reduceLE, jf.r10]
  rw [hTe] at hr
  exact jf.runs hr (.inr rfl) rfl rfl rfl
 | some mr =>
  obtain ⟨m, rest⟩ := mr
  rw [hsc] at g3
  obtain ⟨rfl, hm, h2, h3, h4⟩ := g3
  conv at hr =>
   rhs
   simp only [zSs, reduceIte, Nat.reduceEqDiff, Int.reduceEq, Int.reduceLT, Int.reduceLE]
  rw [hTe] at hr
  have hrun := jf.runs hr (.inr rfl) (by rw [h2]; rfl) (by rw [h3]; exact wB) (by rw [h4]; rfl)
  rw [h2, h3, h4] at hrun
  exact hrun
theorem aaK : ∀ (suf : List UInt8) (i acc : Nat), acc < 128 ^ i → i ≤ 9 → ∀ m rest, scan i acc suf = some (m, rest) → m < 2 ^ 64 ∧ rest.length < suf.length := by
 intro suf
 induction suf with
 | nil => intro i acc _ _ m rest h; cases h
 | cons x suf ih =>
  intro i acc hacc hi m rest h
  rw [scan] at h
  have hx256 := x.toNat_lt
  split at h
  ·
   cases h
  ·
   rename_i hs
   split at h
   ·
    rename_i hx
    cases h
    refine ⟨?_, by simp⟩
    by_cases h9 : i = 9
    ·
     subst h9
     have : x.toNat ≤ 1 := by omega
     have h1 : x.toNat * 128 ^ 9 ≤ 1 * 128 ^ 9 := Nat.mul_le_mul_right _ this
     have h2 : (128 : Nat) ^ 9 + 1 * 128 ^ 9 = 2 ^ 64 := by decide
     omega
    ·
     have h8 : 128 ^ (i + 1) ≤ 128 ^ 9 := Nat.pow_le_pow_right (by omega) (by omega)
     have h3 : acc + x.toNat * 128 ^ i < 128 ^ (i + 1) := by
      rw [Nat.pow_succ]
      have : x.toNat * 128 ^ i ≤ 127 * 128 ^ i := Nat.mul_le_mul_right _ (by omega)
      omega
     exact Nat.lt_of_lt_of_le h3 (Nat.le_trans h8 (by decide))
   ·
    rename_i hx
    have h9 : i ≠ 9 := by omega
    have hadd : acc + (x.toNat - 128) * 128 ^ i < 128 ^ (i + 1) := by
     rw [Nat.pow_succ]
     have : (x.toNat - 128) * 128 ^ i ≤ 127 * 128 ^ i := Nat.mul_le_mul_right _ (by omega)
     omega
    obtain ⟨h1, h2⟩ := ih (i + 1) _ hadd (by omega) m rest h
    exact ⟨h1, by simp; omega⟩
end Go.Proofs.Ytfjogganfjkckaa
namespace Go.Proofs.Ytfjogganfjkckaa
open Go.Abs
theorem aa5 (n : Nat) : 0 < (enc n).length := by
 by_cases h : n < 128
 ·
  rw [Zl h]; simp
 ·
  rw [YA h]; simp
section
variable {k : Nat} {l : List UInt8} {S : zi}
end
end Go.Proofs.Ytfjogganfjkckaa
namespace Go.Proofs.Ytfjogganfjkckaa
open Go.Abs
theorem QV {n : Nat} (h : n < 256) : (UInt8.ofNat n).toNat = n := by rw [UInt8.toNat_ofNat']; omega
theorem abB : ∀ (n i acc : Nat) (r : List UInt8), i ≤ 9 → (0 < i → 0 < n) → n * 128 ^ i < 2 ^ 64 → scan i acc (enc n ++ r) = some (acc + n * 128 ^ i, r) := by
 intro n
 induction n using Nat.strongRecOn with
 | _ n ih =>
  intro i acc r hi hn hlt
  have h9 : i = 9 → n ≤ 1 := by
   intro h; subst h
   have : (128 : Nat) ^ 9 = 2 ^ 63 := by decide
   omega
  by_cases hs : n < 128
  ·
   rw [Zl hs, List.singleton_append, scan, QV (by omega), if_neg (by rintro (⟨h1, h2⟩ | ⟨h1, h2⟩); exact absurd (h9 h1) (by omega); exact absurd (hn h1) (by omega)), if_pos hs]
  ·
   rw [YA hs, List.cons_append, scan, QV (by omega)]
   have hi9 : i ≠ 9 := fun h => by have := h9 h; omega
   rw [if_neg (by rintro (⟨h1, h2⟩ | ⟨h1, h2⟩); exact hi9 h1; omega), if_neg (by omega)]
   have hmul : n / 128 * 128 ^ (i + 1) ≤ n * 128 ^ i := by
    rw [Nat.pow_succ, ← Nat.mul_assoc, Nat.mul_right_comm]
    exact Nat.mul_le_mul_right _ (by omega)
   rw [ih (n / 128) (by omega) (i + 1) _ r (by omega) (fun _ => by omega) (Nat.lt_of_le_of_lt hmul hlt)]
   congr 2
   have : n = n % 128 + n / 128 * 128 := by omega
   have e1 : (n % 128 + 128 - 128) * 128 ^ i + n / 128 * 128 ^ (i + 1) = n * 128 ^ i := by
    rw [Nat.pow_succ]
    conv => rhs; rw [this, Nat.add_mul]
    rw [Nat.add_sub_cancel, Nat.mul_comm (128 ^ i) 128, ← Nat.mul_assoc]
   omega
theorem WL {n : Nat} (h : n < 2 ^ 64) (r : List UInt8) : scan 0 0 (enc n ++ r) = some (n, r) := by
 rw [abB n 0 0 r (by omega) (by omega) (by simpa using h)]; simp
theorem VO : ∀ (l : List UInt8) (i acc m : Nat) (r : List UInt8), scan i acc l = some (m, r) → ∃ n, l = enc n ++ r ∧ m = acc + n * 128 ^ i ∧ (0 < i → 0 < n) := by
 intro l
 induction l with
 | nil => intro i acc m r h; cases h
 | cons x l ih =>
  intro i acc m r h
  rw [scan] at h
  have hx := x.toNat_lt
  split at h
  ·
   cases h
  ·
   rename_i hs
   split at h
   ·
    rename_i hx2
    cases h
    refine ⟨x.toNat, ?_, rfl, fun hi => by omega⟩
    rw [Zl hx2]; simp
   ·
    rename_i hx2
    obtain ⟨n, h1, h2, h3⟩ := ih _ _ _ _ h
    refine ⟨x.toNat - 128 + n * 128, ?_, ?_, fun _ => ?_⟩
    ·
     have hn := h3 (by omega)
     rw [YA (by omega), show (x.toNat - 128 + n * 128) / 128 = n by omega, show (x.toNat - 128 + n * 128) % 128 + 128 = x.toNat by omega, h1]
     simp
    ·
     rw [h2, Nat.pow_succ, Nat.add_mul]
     rw [Nat.mul_comm (128 ^ i) 128, ← Nat.mul_assoc]; omega
    ·
     have := h3 (by omega); omega
theorem VD {l r : List UInt8} {m : Nat} (h : scan 0 0 l = some (m, r)) : l = enc m ++ r ∧ m < 2 ^ 64 := by
 obtain ⟨n, h1, h2, _⟩ := VO l 0 0 m r h
 have : m = n := by simpa using h2
 subst this
 exact ⟨h1, (aaK l 0 0 (by decide) (by omega) m r h).1⟩
theorem aiF {a b : Nat} (ha : a < 2 ^ 64) (hb : b < 2 ^ 64) {r s : List UInt8} (h : enc a ++ r = enc b ++ s) : a = b ∧ r = s := by
 have h1 := WL ha r
 rw [h, WL hb s] at h1
 simp only [Option.some.injEq, Prod.mk.injEq] at h1
 exact ⟨h1.1.symm, h1.2.symm⟩
end Go.Proofs.Ytfjogganfjkckaa
namespace Go.Abs
open Go.RowKit
theorem acR {cs xs : List Value} (h : cs.length = xs.length) : splice cs 0 xs = xs := by
 unfold splice
 rw [List.take_zero, List.nil_append, Nat.zero_add, ← h, List.drop_length, List.append_nil]
theorem ajn {k e n : Nat} {cs : List Value} : (sv k e n cs).oneCell' = true := by unfold sv; split <;> rfl
theorem ahk {α : Type} {f : α → List Value} {e k : Nat} {l : List α} : (vs f e k l).oneCell' = true := ajn
theorem ad1 {k : IntKind} {n : Int} : (Value.int k n).oneCell' = true := rfl
theorem QO {P : Program} {t : TypeId} {z xs : List Value} {x : Value} (S : zi) (hx : x.cells.toList = xs) (hs : Zo P t = some z.length) (hl : xs.length = z.length) (h1 : xs.all (·.oneCell') = true) :
  ∃ S2, wU P t (.pointer (some ⟨S.next, 0, none⟩)) x (S.push (.cells z (.own []) 0)) = some (undef, S2) ∧ S2.get S.next = some (.cells xs (.own []) 0) ∧ Ext S S2 ∧ S.next < S2.next := by
 have hg : (S.push (.cells z (.own []) 0)).get S.next = some (.cells z (.own []) 0) := by rw [zi.yg, if_pos rfl]
 refine ⟨_, xZ hg hs (by rw [← Array.length_toList, hx, hl]) (by rw [hx]; exact h1) (by simp), ?_, (Ext.push S _).set (Nat.le_refl _) _, by simp [zi.kills]⟩
 rw [zi.yT, if_pos rfl, hx, acR hl.symm]
theorem aaA {P : Program} {t : TypeId} {q o n : Nat} {cs : List Value} {e : Nat} {x : Value} {S S0 : zi} (hg : S.get q = some (.cells cs (.own []) e)) (hs : Zo P t = some n) (hn : x.cells.size = n) (h1 : x.cells.toList.all (·.oneCell') = true) (hle : o + n ≤ cs.length) (hE : Ext S0 S) (hq : S0.next ≤ q) :
  ∃ S2, wU P t (.pointer (some ⟨q, o, none⟩)) x S = some (undef, S2) ∧ S2.get q = some (.cells (splice cs o x.cells.toList) (.own []) e) ∧ Ext S0 S2 ∧ S2.next = S.next ∧ ∀ k, k ≠ q → S2.get k = S.get k := by
 exact ⟨_, xZ hg hs hn h1 hle, by rw [zi.yT, if_pos rfl], hE.set hq _, by simp [zi.kills], fun k hk => by rw [zi.yT, if_neg hk]; rfl⟩
theorem ahZ (x : Value) (S : zi) : ∃ S2, Jo x S = some (.pointer (some ⟨S.next, 0, none⟩), S2) ∧ S2.get S.next = some (.cells x.cells.toList (.own []) 0) ∧ Ext S S2 ∧ S.next < S2.next :=
 ⟨_, rfl, by rw [zi.yg, if_pos rfl], Ext.push _ _, by simp⟩
end Go.Abs
namespace Go.Proofs.Ytfjogganfjkckaa
open Go.Abs
structure Tb where
 k : Nat
 b : List UInt8
structure Tb.Ok (t : Tb) : Prop where
 okl : Okl t.k t.b
 ne : t.k ≠ 2
 le : t.b.length ≤ 140737488351232
end Go.Proofs.Ytfjogganfjkckaa
namespace Go.Proofs.Ytfjogganfjkckaa
open Go.Abs
def encs (l : List Int) : List UInt8 := l.flatMap fun n => enc (n + 1).toNat
def ady (k : Nat) (l : List Int) : Value := if 64 < l.length ∨ ∃ n ∈ l, n < -1 then .tuple #[.slice none 0 0, .int .i64 11] else .tuple #[by_ (if l = [] then k else 2) (encs l), .int .i64 0]
theorem KO {n : Int} (h : -1 ≤ n) (h2 : n < 9223372036854775808) : IntKind.u64.wrap (IntKind.u64.wrap n + 1) = ((n + 1).toNat : Int) := by
 simp [IntKind.wrap, IntKind.bits, IntKind.signed]
 omega
theorem vJ (a b : List Int) : encs (a ++ b) = encs a ++ encs b := by simp [encs]
theorem acz (n : Int) : encs [n] = enc (n + 1).toNat := by simp [encs]
theorem ZB {l : List Int} (h : ∀ n ∈ l, n < 9223372036854775808) : (encs l).length ≤ l.length * 10 := by
 induction l with
 | nil => simp [encs]
 | cons n l ih =>
  have h1 := ih fun m hm => h m (by simp [hm])
  have h2 : (enc (n + 1).toNat).length ≤ 10 := ZN (by have := h n (by simp); omega)
  simp only [encs, List.flatMap_cons, List.length_append, List.length_cons] at *
  omega
theorem jk.round {k : Nat} {l : List Int} (hv : Okl k l) (hk : k ≠ 2) (h64 : l.length ≤ 64) (hb : ∀ n ∈ l, n < 9223372036854775808) {S : zi} : ∀ (suf pre : List Int) {T : List Value} {r : St}, qI (zA Try.prog O false jk.jP) T S = r → T.length = 26 →
  T.getD 10 undef = iz k l → T.getD 11 undef = .int .i64 l.length → T.getD 12 undef = .int .i64 pre.length → T.getD 4 undef = by_ (if pre = [] then 0 else 2) (encs pre) → l = pre ++ suf →
  ∃ e T', r = some (e, T', S) ∧ if (∃ n ∈ suf, n < -1) then e = .ret ∧ T'.getD 2 undef = .slice none 0 0 ∧ T'.getD 3 undef = .int .i64 11 else e = .exit 0 ∧ T'.length = 26 ∧ T'.getD 4 undef = by_ (if l = [] then 0 else 2) (encs l) := by
 intro suf
 induction suf with
 | nil =>
  intro pre T r hL hT ha hb hc h4 hl
  have hTe := jk.eta hT
  rw [ha, hb, hc, h4] at hTe
  have hr : zA Try.prog O false jk.jP T S = zA Try.prog O false jk.jP T S := rfl
  have hd : ¬ (pre.length : Int) < (l.length : Int) := by rw [hl]; simp
  conv at hr =>
   rhs
   rw [hTe]
   simp only [jk.jP, jk.code, jk.rs, zSs, reduceIte, Nat.reduceEqDiff, Int.reduceEq, Int.reduceLT, Int.reduceLE, hd]
  refine ⟨_, _, hL.symm.trans (wz hr (by simp)), ?_⟩
  rw [if_neg (by simp)]
  simp only [List.append_nil] at hl
  subst hl
  exact ⟨rfl, rfl, rfl⟩
 | cons n suf ih =>
  intro pre T r hL hT ha hbb hc h4 hl
  have hTe := jk.eta hT
  rw [ha, hbb, hc, h4] at hTe
  have hr : zA Try.prog O false jk.jP T S = zA Try.prog O false jk.jP T S := rfl
  have hll : l.length = pre.length + (suf.length + 1) := by rw [hl]; simp
  have hlt : (pre.length : Int) < (l.length : Int) := by omega
  have e1 : ∀ S, jB Try.prog 24 (iz k l) (.int .i64 pre.length) S = some (EP [.int .i64 n], S) := fun S => by
   rw [aa1 hv (by omega) hlt]; rw [Qy hl]
  have hn := hb n (by rw [hl]; simp)
  by_cases h1 : n < -1
  ·
   conv at hr =>
    rhs
    rw [hTe]
    simp only [jk.jP, jk.code, jk.rs, zSs, reduceIte, Nat.reduceEqDiff, Int.reduceEq, Int.reduceLT, Int.reduceLE, hlt, e1, kN, h1]
   refine ⟨_, _, hL.symm.trans (wz hr (by simp)), ?_⟩
   rw [if_pos ⟨n, by simp, h1⟩]
   exact ⟨rfl, rfl, rfl⟩
  ·
   have w1 := KO (n := n) (by omega) (by omega)
   have hpb : (encs pre).length ≤ pre.length * 10 := ZB fun m hm => hb m (by rw [hl]; simp [hm])
   have hp10 : (enc (n + 1).toNat).length ≤ 10 := ZN (by omega)
   have hpp := aa5 (n + 1).toNat
   have g1 := fun S => wL.v (n + 1).toNat (by omega) S
   have e2 : ∀ S, yj Try.prog 33 33 (by_ (if pre = [] then 0 else 2) (encs pre)) (by_ 2 (enc (n + 1).toNat)) S = some (by_ 2 (encs (pre ++ [n])), S) := fun S => by
    have ok : Okl (if pre = [] then 0 else 2) (encs pre) := ⟨by split <;> omega, fun h => by split at h <;> first | (rename_i hp; subst hp; rfl) | omega⟩
    rw [xE ok (by split <;> omega) Okl.own (by omega), if_neg (fun h => by have := h.2; omega), vJ, acz]
   have wi : IntKind.i64.wrap ((pre.length : Int) + 1) = ((pre ++ [n]).length : Int) := by rw [wrap_i64 (by omega) (by omega)]; simp
   conv at hr =>
    rhs
    rw [hTe]
    simp only [jk.jP, jk.code, jk.rs, zSs, reduceIte, Nat.reduceEqDiff, Int.reduceEq, Int.reduceLT, Int.reduceLE, hlt, e1, kN, h1, Z7, w1, g1, e2, wi]
   obtain ⟨e, T', g1, g2⟩ := ih (pre ++ [n]) ((yR hr).symm.trans hL) rfl rfl rfl rfl (by rw [if_neg (show ¬ pre ++ [n] = [] by simp)]; rfl) (by simp [hl])
   refine ⟨e, T', g1, ?_⟩
   by_cases h2 : ∃ m ∈ suf, m < -1
   ·
    rw [if_pos h2] at g2
    obtain ⟨m, hm, hm2⟩ := h2
    rw [if_pos ⟨m, by simp [hm], hm2⟩]
    exact g2
   ·
    rw [if_neg h2] at g2
    rw [if_neg (by rintro ⟨m, hm, hm2⟩; rcases List.mem_cons.1 hm with rfl | hm; exact h1 hm2; exact h2 ⟨m, hm, hm2⟩)]
    exact g2
theorem jk.v {k : Nat} {l : List Int} (hv : Okl k l) (hk : k ≠ 2) (hb : ∀ n ∈ l, n < 9223372036854775808) (S : zi) : zQ Try.prog O jk.id [iz k l] S = some (ady 0 l, S) := by
 obtain ⟨T, hTe⟩ : ∃ T, T = (iz k l :: undef :: undef :: undef :: undef :: undef :: undef :: undef :: undef :: undef :: undef :: undef :: undef :: undef :: undef :: undef :: undef :: undef :: undef :: undef :: undef :: undef :: undef :: undef :: undef :: undef :: []) := ⟨_, rfl⟩
 have hr : zA Try.prog O false jk.code T S = zA Try.prog O false jk.code T S := rfl
 unfold ady
 by_cases h1 : 64 < l.length
 ·
  have d1 : (64 : Int) < (l.length : Int) := by omega
  conv at hr =>
   rhs
   rw [hTe]
   simp only [jk.code, jk.rs, zSs, reduceIte, Nat.reduceEqDiff, Int.reduceEq, Int.reduceLT, Int.reduceLE, if_neg hk, aav hv, goInt, d1]
  rw [hTe] at hr
  rw [if_pos (.inl h1)]
  exact jk.runs hr (.inr rfl) (by simp only [List.getD_cons_succ, List.getD_cons_zero, wB, wo, jM, jU, jZ]) (by simp only [List.getD_cons_succ, List.getD_cons_zero, wB, wo, jM, jU, jZ])
 ·
  have d1 : ¬ (64 : Int) < (l.length : Int) := by omega
  conv at hr =>
   rhs
   rw [hTe]
   simp only [jk.code, jk.rs, zSs, reduceIte, Nat.reduceEqDiff, Int.reduceEq, Int.reduceLT, Int.reduceLE, if_neg hk, aav hv, goInt, d1, Zv, agD]
  generalize hL : qI (zA Try.prog O false jk.jP) _ _ = r at hr
  obtain ⟨e, T', rfl, g⟩ := jk.round hv hk (by omega) hb l [] hL rfl rfl rfl rfl rfl rfl
  by_cases h2 : ∃ n ∈ l, n < -1
  ·
   rw [if_pos h2] at g
   obtain ⟨rfl, g2, g3⟩ := g
   conv at hr =>
    rhs
    simp only [zSs, reduceIte, Nat.reduceEqDiff, Int.reduceEq, Int.reduceLT, Int.reduceLE]
   rw [hTe] at hr
   rw [if_pos (.inr h2)]
   have hrun := jk.runs hr (.inr rfl) (by rw [g2]; rfl) (by rw [g3]; rfl)
   rw [g2, g3] at hrun
   exact hrun
  ·
   rw [if_neg h2] at g
   obtain ⟨rfl, g2, g3⟩ := g
   have hTe' := jk.eta g2
   rw [g3] at hTe'
   conv at hr =>
    rhs
    rw [hTe']
    simp only [jk.code, jk.rs, zSs, reduceIte, Nat.reduceEqDiff, Int.reduceEq, Int.reduceLT, Int.reduceLE]
   rw [hTe] at hr
   rw [if_neg (by rintro (h | h); exact h1 h; exact h2 h)]
   exact jk.runs hr (.inr rfl) (by simp only [List.getD_cons_succ, List.getD_cons_zero, wB, wo, jM, jU, jZ]) (by simp only [List.getD_cons_succ, List.getD_cons_zero, wB, wo, jM, jU, jZ])
theorem zu.round {k : Nat} {l : List Int} (hv : Okl k l) (hk : k ≠ 2) (h64 : l.length ≤ 64) (hb : ∀ n ∈ l, n < 9223372036854775808) {S : zi} : ∀ (suf pre : List Int) {T : List Value} {r : St}, qI (zA Try.prog O false zu.jP) T S = r → T.length = 27 →
  T.getD 11 undef = iz k l → T.getD 12 undef = .int .i64 l.length → T.getD 13 undef = .int .i64 pre.length → T.getD 4 undef = by_ (if pre = [] then 2 else 2) (encs pre) → l = pre ++ suf →
  ∃ e T', r = some (e, T', S) ∧ if (∃ n ∈ suf, n < -1) then e = .ret ∧ T'.getD 2 undef = .slice none 0 0 ∧ T'.getD 3 undef = .int .i64 11 else e = .exit 0 ∧ T'.length = 27 ∧ T'.getD 4 undef = by_ (if l = [] then 2 else 2) (encs l) := by
 intro suf
 induction suf with
 | nil =>
  intro pre T r hL hT ha hb hc h4 hl
  have hTe := zu.eta hT
  rw [ha, hb, hc, h4] at hTe
  have hr : zA Try.prog O false zu.jP T S = zA Try.prog O false zu.jP T S := rfl
  have hd : ¬ (pre.length : Int) < (l.length : Int) := by rw [hl]; simp
  conv at hr =>
   rhs
   rw [hTe]
   simp only [zu.jP, zu.code, zu.rs, zSs, reduceIte, Nat.reduceEqDiff, Int.reduceEq, Int.reduceLT, Int.reduceLE, hd]
  refine ⟨_, _, hL.symm.trans (wz hr (by simp)), ?_⟩
  rw [if_neg (by simp)]
  simp only [List.append_nil] at hl
  subst hl
  exact ⟨rfl, rfl, rfl⟩
 | cons n suf ih =>
  intro pre T r hL hT ha hbb hc h4 hl
  have hTe := zu.eta hT
  rw [ha, hbb, hc, h4] at hTe
  have hr : zA Try.prog O false zu.jP T S = zA Try.prog O false zu.jP T S := rfl
  have hll : l.length = pre.length + (suf.length + 1) := by rw [hl]; simp
  have hlt : (pre.length : Int) < (l.length : Int) := by omega
  have e1 : ∀ S, jB Try.prog 24 (iz k l) (.int .i64 pre.length) S = some (EP [.int .i64 n], S) := fun S => by
   rw [aa1 hv (by omega) hlt]; rw [Qy hl]
  have hn := hb n (by rw [hl]; simp)
  by_cases h1 : n < -1
  ·
   conv at hr =>
    rhs
    rw [hTe]
    simp only [zu.jP, zu.code, zu.rs, zSs, reduceIte, Nat.reduceEqDiff, Int.reduceEq, Int.reduceLT, Int.reduceLE, hlt, e1, kN, h1]
   refine ⟨_, _, hL.symm.trans (wz hr (by simp)), ?_⟩
   rw [if_pos ⟨n, by simp, h1⟩]
   exact ⟨rfl, rfl, rfl⟩
  ·
   have w1 := KO (n := n) (by omega) (by omega)
   have hpb : (encs pre).length ≤ pre.length * 10 := ZB fun m hm => hb m (by rw [hl]; simp [hm])
   have hp10 : (enc (n + 1).toNat).length ≤ 10 := ZN (by omega)
   have hpp := aa5 (n + 1).toNat
   have g1 := fun S => jd.v (n + 1).toNat (by omega) S
   have e2 : ∀ S, yj Try.prog 33 33 (by_ (if pre = [] then 2 else 2) (encs pre)) (by_ 2 (enc (n + 1).toNat)) S = some (by_ 2 (encs (pre ++ [n])), S) := fun S => by
    have ok : Okl (if pre = [] then 2 else 2) (encs pre) := ⟨by split <;> omega, fun h => by split at h <;> first | (rename_i hp; subst hp; rfl) | omega⟩
    rw [xE ok (by split <;> omega) Okl.own (by omega), if_neg (fun h => by have := h.2; omega), vJ, acz]
   have wi : IntKind.i64.wrap ((pre.length : Int) + 1) = ((pre ++ [n]).length : Int) := by rw [wrap_i64 (by omega) (by omega)]; simp
   conv at hr =>
    rhs
    rw [hTe]
    simp only [zu.jP, zu.code, zu.rs, zSs, reduceIte, Nat.reduceEqDiff, Int.reduceEq, Int.reduceLT, Int.reduceLE, hlt, e1, kN, h1, Z7, w1, g1, e2, wi]
   obtain ⟨e, T', g1, g2⟩ := ih (pre ++ [n]) ((yR hr).symm.trans hL) rfl rfl rfl rfl (by rw [if_neg (show ¬ pre ++ [n] = [] by simp)]; rfl) (by simp [hl])
   refine ⟨e, T', g1, ?_⟩
   by_cases h2 : ∃ m ∈ suf, m < -1
   ·
    rw [if_pos h2] at g2
    obtain ⟨m, hm, hm2⟩ := h2
    rw [if_pos ⟨m, by simp [hm], hm2⟩]
    exact g2
   ·
    rw [if_neg h2] at g2
    rw [if_neg (by rintro ⟨m, hm, hm2⟩; rcases List.mem_cons.1 hm with rfl | hm; exact h1 hm2; exact h2 ⟨m, hm, hm2⟩)]
    exact g2
theorem zu.v {k : Nat} {l : List Int} (hv : Okl k l) (hk : k ≠ 2) (hb : ∀ n ∈ l, n < 9223372036854775808) (S : zi) : zQ Try.prog O zu.id [iz k l] S = some (ady 2 l, S) := by
 obtain ⟨T, hTe⟩ : ∃ T, T = (iz k l :: undef :: undef :: undef :: undef :: undef :: undef :: undef :: undef :: undef :: undef :: undef :: undef :: undef :: undef :: undef :: undef :: undef :: undef :: undef :: undef :: undef :: undef :: undef :: undef :: undef :: undef :: []) := ⟨_, rfl⟩
 have hr : zA Try.prog O false zu.code T S = zA Try.prog O false zu.code T S := rfl
 unfold ady
 by_cases h1 : 64 < l.length
 ·
  have d1 : (64 : Int) < (l.length : Int) := by omega
  conv at hr =>
   rhs
   rw [hTe]
   simp only [zu.code, zu.rs, zSs, reduceIte, Nat.reduceEqDiff, Int.reduceEq, Int.reduceLT, Int.reduceLE, if_neg hk, aav hv, goInt, d1]
  rw [hTe] at hr
  rw [if_pos (.inl h1)]
  exact zu.runs hr (.inr rfl) (by simp only [List.getD_cons_succ, List.getD_cons_zero, wB, wo, jM, jU, jZ]) (by simp only [List.getD_cons_succ, List.getD_cons_zero, wB, wo, jM, jU, jZ])
 ·
  have d1 : ¬ (64 : Int) < (l.length : Int) := by omega
  conv at hr =>
   rhs
   rw [hTe]
   simp only [zu.code, zu.rs, zSs, reduceIte, Nat.reduceEqDiff, Int.reduceEq, Int.reduceLT, Int.reduceLE, if_neg hk, aav hv, goInt, d1, Zv, agD]
  generalize hL : qI (zA Try.prog O false zu.jP) _ _ = r at hr
  obtain ⟨e, T', rfl, g⟩ := zu.round hv hk (by omega) hb l [] hL rfl rfl rfl rfl rfl rfl
  by_cases h2 : ∃ n ∈ l, n < -1
  ·
   rw [if_pos h2] at g
   obtain ⟨rfl, g2, g3⟩ := g
   conv at hr =>
    rhs
    simp only [zSs, reduceIte, Nat.reduceEqDiff, Int.reduceEq, Int.reduceLT, Int.reduceLE]
   rw [hTe] at hr
   rw [if_pos (.inr h2)]
   have hrun := zu.runs hr (.inr rfl) (by rw [g2]; rfl) (by rw [g3]; rfl)
   rw [g2, g3] at hrun
   exact hrun
  ·
   rw [if_neg h2] at g
   obtain ⟨rfl, g2, g3⟩ := g
   have hTe' := zu.eta g2
   rw [g3] at hTe'
   conv at hr =>
    rhs
    rw [hTe']
    simp only [zu.code, zu.rs, zSs, reduceIte, Nat.reduceEqDiff, Int.reduceEq, Int.reduceLT, Int.reduceLE]
   rw [hTe] at hr
   rw [if_neg (by rintro (h | h); exact h1 h; exact h2 h)]
   exact zu.runs hr (.inr rfl) (by simp only [List.getD_cons_succ, List.getD_cons_zero, wB, wo, jM, jU, jZ]) (by simp only [List.getD_cons_succ, List.getD_cons_zero, wB, wo, jM, jU, jZ])
end Go.Proofs.Ytfjogganfjkckaa
namespace Go.Proofs.Ytfjogganfjkckaa
open Go.Abs
def yV : Nat → List UInt8 → Option (List Int × List UInt8)
 | 0, l => some ([], l)
 | m + 1, l => match scan 0 0 l with
  | some (n, r) => if n ≤ 4611686018427387905 then (match yV m r with
   | some (a, b) => some (((n : Int) - 1) :: a, b)
   | none => none) else none
  | none => none
def Jt (k0 k1 : Nat) (many : Int) (l : List UInt8) : Value :=
 if many < 0 ∨ 64 < many then .tuple #[.slice none 0 0, .slice none 0 0, .int .i64 11]
 else match yV many.toNat l with
  | some (a, b) => .tuple #[iz (if many = 0 then k0 else 2) a, by_ (if many = 0 then k1 else 2) b, .int .i64 0]
  | none => .tuple #[.slice none 0 0, .slice none 0 0, .int .i64 11]
theorem zC.round {many : Int} (hmany : many ≤ 64) {S : zi} : ∀ (m : Nat) (i : Int) (rest : List UInt8) (kr : Nat) (out : List Int) (ko : Nat) {T : List Value} {r : St}, qI (zA Try.prog O false zC.jP) T S = r → T.length = 45 →
  T.getD 20 undef = .int .i64 many → T.getD 21 undef = .int .i64 i → T.getD 7 undef = by_ kr rest → T.getD 8 undef = iz ko out → 0 ≤ i → many = i + m → Okl kr rest → rest.length ≤ 140737488355328 → Okl ko out → ko ≠ 1 → (out.length : Int) = i →
  ∃ e T', r = some (e, T', S) ∧ match yV m rest with
   | none => e = .ret ∧ T'.getD 4 undef = .slice none 0 0 ∧ T'.getD 5 undef = .slice none 0 0 ∧ T'.getD 6 undef = .int .i64 11
   | some (a, b) => e = .exit 0 ∧ T'.length = 45 ∧ T'.getD 8 undef = iz (if m = 0 then ko else 2) (out ++ a) ∧ T'.getD 7 undef = by_ (if m = 0 then kr else 2) b := by
 intro m
 induction m with
 | zero =>
  intro i rest kr out ko T r hL hT h1 h2 h3 h4 h0 hm hkr hlen hko hk1 hol
  have hTe := zC.eta hT
  rw [h1, h2, h3, h4] at hTe
  have hr : zA Try.prog O false zC.jP T S = zA Try.prog O false zC.jP T S := rfl
  have hd : ¬ i < many := by omega
  conv at hr =>
   rhs
   rw [hTe]
   simp only [zC.jP, zC.code, zC.rs, zSs, reduceIte, Nat.reduceEqDiff, Int.reduceEq, Int.reduceLT, Int.reduceLE, hd]
  exact ⟨_, _, hL.symm.trans (wz hr (by simp)), rfl, rfl, by simp, rfl⟩
 | succ m ih =>
  intro i rest kr out ko T r hL hT h1 h2 h3 h4 h0 hm hkr hlen hko hk1 hol
  have hTe := zC.eta hT
  rw [h1, h2, h3, h4] at hTe
  have hr : zA Try.prog O false zC.jP T S = zA Try.prog O false zC.jP T S := rfl
  have hd : i < many := by omega
  have g1 : ∀ S, zQ Try.prog O jf.id [by_ (if kr = 2 then 1 else kr) rest] S = some (ad3 rest, S) := jf.v hkr.dem (by split <;> omega) hlen
  unfold ad3 at g1
  rw [yV]
  cases hsc : scan 0 0 rest with
  | none =>
   rw [hsc] at g1
   have d11 : ¬ (11 : Int) = 0 := by omega
   conv at hr =>
    rhs
    rw [hTe]
    simp only [zC.jP, zC.code, zC.rs, zSs, reduceIte, Nat.reduceEqDiff, Int.reduceEq, Int.reduceLT, Int.reduceLE, ahn, hd, g1, d11]
   exact ⟨_, _, hL.symm.trans (wz hr (by simp)), rfl, rfl, rfl, rfl⟩
  | some nr =>
   obtain ⟨n, r'⟩ := nr
   rw [hsc] at g1
   obtain ⟨hn, hrl⟩ := aaK rest 0 0 (by decide) (by omega) n r' hsc
   dsimp only
   by_cases h5 : n ≤ 4611686018427387905
   ·
    have d1 : ¬ (4611686018427387905 : Int) < (n : Int) := by omega
    have w1 : IntKind.i64.wrap (n : Int) = (n : Int) := wrap_i64 (by omega) (by omega)
    have w2 : IntKind.i64.wrap ((n : Int) - 1) = (n : Int) - 1 := wrap_i64 (by omega) (by omega)
    have w3 : IntKind.i64.wrap (i + 1) = i + 1 := wrap_i64 (by omega) (by omega)
    have e1 : ∀ x S, yj Try.prog 24 24 (iz ko out) (iz 2 [x]) S = some (iz 2 (out ++ [x]), S) := fun x S => ai2 hko hk1 (by omega)
    conv at hr =>
     rhs
     rw [hTe]
     simp only [zC.jP, zC.code, zC.rs, zSs, reduceIte, Nat.reduceEqDiff, Int.reduceEq, Int.reduceLT, Int.reduceLE, ahn, hd, g1, d1, X7, w1, w2, w3, YC, ai8, e1]
    obtain ⟨e, T', g2, g3⟩ := ih (i + 1) r' 2 (out ++ [(n : Int) - 1]) 2 ((yR hr).symm.trans hL) rfl rfl rfl rfl rfl (by omega) (by omega) Okl.own (by omega) Okl.own (by decide) (by simp; omega)
    refine ⟨e, T', g2, ?_⟩
    rw [if_pos h5]
    cases hrn : yV m r' with
    | none => rw [hrn] at g3; exact g3
    | some ab =>
     obtain ⟨a, b⟩ := ab
     rw [hrn] at g3
     obtain ⟨q1, q2, q3, q4⟩ := g3
     refine ⟨q1, q2, ?_, ?_⟩
     ·
      rw [q3]; simp
     ·
      rw [q4]; simp
   ·
    have d1 : (4611686018427387905 : Int) < (n : Int) := by omega
    conv at hr =>
     rhs
     rw [hTe]
     simp only [zC.jP, zC.code, zC.rs, zSs, reduceIte, Nat.reduceEqDiff, Int.reduceEq, Int.reduceLT, Int.reduceLE, ahn, hd, g1, d1]
    refine ⟨_, _, hL.symm.trans (wz hr (by simp)), ?_⟩
    rw [if_neg h5]
    exact ⟨rfl, rfl, rfl, rfl⟩
theorem zC.v {k : Nat} {l : List UInt8} {many : Int} (hv : Okl k l) (hk : k ≠ 2) (hlen : l.length ≤ 140737488355328) (S : zi) : zQ Try.prog O zC.id [by_ k l, .int .i64 many] S = some (Jt 0 (if k = 0 then 0 else 2) many l, S) := by
 obtain ⟨T, hTe⟩ : ∃ T, T = (by_ k l :: .int .i64 many :: undef :: undef :: undef :: undef :: undef :: undef :: undef :: undef :: undef :: undef :: undef :: undef :: undef :: undef :: undef :: undef :: undef :: undef :: undef :: undef :: undef :: undef :: undef :: undef :: undef :: undef :: undef :: undef :: undef :: undef :: undef :: undef :: undef :: undef :: undef :: undef :: undef :: undef :: undef :: undef :: undef :: undef :: undef :: []) := ⟨_, rfl⟩
 have hr : zA Try.prog O false zC.code T S = zA Try.prog O false zC.code T S := rfl
 have c1 : ∀ S, zQ Try.prog O 54 [by_ k l] S = some (by_ (if k = 0 then 0 else 2) l, S) := slices_Clone.v hv hk hlen
 unfold Jt
 by_cases h1 : many < 0
 ·
  conv at hr =>
   rhs
   rw [hTe]
   simp only [zC.code, zC.rs, zSs, reduceIte, Nat.reduceEqDiff, Int.reduceEq, Int.reduceLT, Int.reduceLE, h1]
  rw [hTe] at hr
  rw [if_pos (.inl h1)]
  exact zC.runs hr (.inr rfl) (by simp only [List.getD_cons_succ, List.getD_cons_zero, wB, wo, jM, jU, jZ]) (by simp only [List.getD_cons_succ, List.getD_cons_zero, wB, wo, jM, jU, jZ]) (by simp only [List.getD_cons_succ, List.getD_cons_zero, wB, wo, jM, jU, jZ])
 ·
  by_cases h2 : 64 < many
  ·
   conv at hr =>
    rhs
    rw [hTe]
    simp only [zC.code, zC.rs, zSs, reduceIte, Nat.reduceEqDiff, Int.reduceEq, Int.reduceLT, Int.reduceLE, h1, h2]
   rw [hTe] at hr
   rw [if_pos (.inr h2)]
   exact zC.runs hr (.inr rfl) (by simp only [List.getD_cons_succ, List.getD_cons_zero, wB, wo, jM, jU, jZ]) (by simp only [List.getD_cons_succ, List.getD_cons_zero, wB, wo, jM, jU, jZ]) (by simp only [List.getD_cons_succ, List.getD_cons_zero, wB, wo, jM, jU, jZ])
  ·
   rw [if_neg (by omega)]
   conv at hr =>
    rhs
    rw [hTe]
    simp only [zC.code, zC.rs, zSs, reduceIte, Nat.reduceEqDiff, Int.reduceEq, Int.reduceLT, Int.reduceLE, h1, h2, if_neg hk, c1]
   generalize hL : qI (zA Try.prog O false zC.jP) _ _ = r at hr
   have okr : Okl (if k = 0 then 0 else 2) l := ⟨by split <;> omega, fun h => by split at h <;> first | (rename_i hp; exact hv.nil hp) | omega⟩
   obtain ⟨e, T', rfl, g⟩ := zC.round (many := many) (by omega) many.toNat 0 l (if k = 0 then 0 else 2) [] 0 hL rfl rfl rfl rfl rfl (by omega) (by omega) okr hlen Okl.none (by decide) rfl
   cases hrn : yV many.toNat l with
   | none =>
    rw [hrn] at g
    obtain ⟨rfl, g2, g3, g4⟩ := g
    conv at hr =>
     rhs
     simp only [zSs, reduceIte, Nat.reduceEqDiff, Int.reduceEq, Int.reduceLT, Int.reduceLE]
    rw [hTe] at hr
    have hrun := zC.runs hr (.inr rfl) (by rw [g2]; rfl) (by rw [g3]; rfl) (by rw [g4]; rfl)
    rw [g2, g3, g4] at hrun
    exact hrun
   | some ab =>
    obtain ⟨a, b⟩ := ab
    rw [hrn] at g
    obtain ⟨rfl, g2, g3, g4⟩ := g
    have hTe' := zC.eta g2
    rw [g3, g4] at hTe'
    have hz : (many.toNat = 0) ↔ (many = 0) := by omega
    simp only [hz, List.nil_append] at hTe'
    conv at hr =>
     rhs
     rw [hTe']
     simp only [zC.code, zC.rs, zSs, reduceIte, Nat.reduceEqDiff, Int.reduceEq, Int.reduceLT, Int.reduceLE]
    rw [hTe] at hr
    exact zC.runs hr (.inr rfl) (by simp only [List.getD_cons_succ, List.getD_cons_zero, wB, wo, jM, jU, jZ]) (by simp only [List.getD_cons_succ, List.getD_cons_zero, wB, wo, jM, jU, jZ]) (by simp only [List.getD_cons_succ, List.getD_cons_zero, wB, wo, jM, jU, jZ])
end Go.Proofs.Ytfjogganfjkckaa
namespace Go.Proofs.Ytfjogganfjkckaa
open Go.Abs
def Few (n : Int) : Prop := -1 ≤ n ∧ n ≤ 4611686018427387904
theorem yS : ∀ (m : Nat) (l : List UInt8) (a : List Int) (b : List UInt8), yV m l = some (a, b) ↔ a.length = m ∧ l = encs a ++ b ∧ ∀ n ∈ a, Few n := by
 intro m
 induction m with
 | zero =>
  intro l a b
  constructor
  ·
   intro h; cases h; exact ⟨rfl, rfl, fun n h => by cases h⟩
  ·
   rintro ⟨h1, h2, _⟩
   have : a = [] := List.length_eq_zero_iff.mp h1
   subst this
   rw [h2]; rfl
 | succ m ih =>
  intro l a b
  rw [yV]
  constructor
  ·
   intro h
   cases hsc : scan 0 0 l with
   | none => rw [hsc] at h; cases h
   | some nr =>
    obtain ⟨n, r⟩ := nr
    rw [hsc] at h
    dsimp only at h
    split at h
    ·
     rename_i hn
     cases hr : yV m r with
     | none => rw [hr] at h; cases h
     | some ab =>
      obtain ⟨a', b'⟩ := ab
      rw [hr] at h
      obtain ⟨h1, h2, h3⟩ := (ih r a' b').mp hr
      cases h
      obtain ⟨f1, f2⟩ := VD hsc
      refine ⟨by simp [h1], ?_, fun x hx => ?_⟩
      ·
       rw [f1, h2]
       have : ((n : Int) - 1 + 1).toNat = n := by omega
       simp [encs, this]
      ·
       rcases List.mem_cons.1 hx with rfl | hx
       ·
        unfold Few; omega
       ·
        exact h3 x hx
    ·
     cases h
  ·
   rintro ⟨h1, h2, h3⟩
   cases a with
   | nil => simp at h1
   | cons x a =>
    have hx : Few x := h3 x (by simp)
    unfold Few at hx
    have he : encs (x :: a) ++ b = enc (x + 1).toNat ++ (encs a ++ b) := by simp [encs]
    rw [h2, he, WL (by omega)]
    dsimp only
    rw [if_pos (by omega), (ih (encs a ++ b) a b).mpr ⟨by simpa using h1, rfl, fun n hn => h3 n (by simp [hn])⟩]
    have : ((x + 1).toNat : Int) - 1 = x := by omega
    simp only [this]
theorem JV {m : Nat} {l : List UInt8} {a : List Int} {b : List UInt8} (h : yV m l = some (a, b)) : a.length = m ∧ b.length ≤ l.length := by
 obtain ⟨h1, h2, _⟩ := (yS m l a b).mp h
 exact ⟨h1, by rw [h2]; simp⟩
theorem JF {a c : List Int} {b d : List UInt8} (h : a.length = c.length) (ha : ∀ n ∈ a, Few n) (hc : ∀ n ∈ c, Few n) (he : encs a ++ b = encs c ++ d) : a = c ∧ b = d := by
 have h1 := (yS a.length (encs a ++ b) a b).mpr ⟨rfl, rfl, ha⟩
 have h2 := (yS a.length (encs a ++ b) c d).mpr ⟨h.symm, he, hc⟩
 rw [h1] at h2
 simpa using h2
theorem Ja {k : Nat} {l : List Int} (h : l.length ≤ 64) (h1 : ∀ n ∈ l, -1 ≤ n) (h0 : l ≠ []) : ady k l = .tuple #[by_ 2 (encs l), .int .i64 0] := by
 unfold ady
 rw [if_neg (by rintro (h2 | ⟨n, h2, h3⟩); { omega }; { have := h1 n h2; omega }), if_neg h0]
theorem Z4 {k0 k1 m : Nat} {l : List UInt8} (h0 : 0 < m) (h : m ≤ 64) : Jt k0 k1 m l = match yV m l with
  | some (a, b) => .tuple #[iz 2 a, by_ 2 b, .int .i64 0]
  | none => .tuple #[.slice none 0 0, .slice none 0 0, .int .i64 11] := by
 unfold Jt
 rw [if_neg (by omega), Int.toNat_natCast]
 have : (m : Int) ≠ 0 := by omega
 simp only [if_neg this]
 all_goals (cases yV m l <;> rfl)
noncomputable def rd {α : Type} (ok : α → Prop) (e : α → List UInt8) (b : List UInt8) : Option α := open Classical in if h : ∃ x, ok x ∧ b = e x then some h.choose else none
theorem aey {α : Type} {ok : α → Prop} {e : α → List UInt8} (inj : ∀ x y, ok x → ok y → e x = e y → x = y) (b : List UInt8) (x : α) : rd ok e b = some x ↔ ok x ∧ b = e x := by
 unfold rd
 constructor
 ·
  intro h
  split at h
  ·
   rename_i he
   cases h
   exact he.choose_spec
  ·
   cases h
 ·
  intro h
  have he : ∃ x, ok x ∧ b = e x := ⟨x, h⟩
  rw [dif_pos he]
  exact congrArg some (inj _ _ he.choose_spec.1 h.1 (he.choose_spec.2.symm.trans h.2))
end Go.Proofs.Ytfjogganfjkckaa
namespace Go.Proofs.Ytfjogganfjkckaa
open Go.Abs
def KA (n : Int) : Int := IntKind.u64.wrap (IntKind.u64.wrap (IntKind.u64.wrap n + 1) * 11400714819323198485)
def Yb (h : Int) (x : UInt8) : Int := IntKind.u64.wrap (acy .u64 h (x.toNat : Int) * 1099511628211)
def aki (h : Int) : Int := acy .u64 h (h.fdiv (2 ^ min (Int.toNat 29) (IntKind.bits .u64)))
def JY (key : Int) (b : List UInt8) : Int := aki (b.foldl Yb (acy .u64 key 14695981039346656037))
theorem VY (x : UInt8) : IntKind.u64.wrap (x.toNat : Int) = (x.toNat : Int) := Ye (by have := x.toNat_lt; omega)
theorem Y4 (x : Int) : IntKind.u64.wrap x = x % 18446744073709551616 := rfl
theorem acj (a b : Int) : 0 ≤ acy .u64 a b ∧ acy .u64 a b < 18446744073709551616 := by
 unfold acy
 have h : ∀ x : Int, 0 ≤ IntKind.u64.wrap x ∧ IntKind.u64.wrap x < 18446744073709551616 := fun x => by rw [Y4]; omega
 first | exact h _ | (simp only [IntKind.ofBits, IntKind.signed]; first | exact h _ | omega)
theorem ags (h : Int) (x : UInt8) : 0 ≤ Yb h x ∧ Yb h x < 18446744073709551616 := by unfold Yb; rw [Y4]; omega
theorem qX.v (n : Int) (S : zi) : zQ Try.prog O qX.id [.int .i64 n] S = some (.int .u64 (KA n), S) := by
 obtain ⟨T, hTe⟩ : ∃ T, T = (.int .i64 n :: undef :: undef :: undef :: undef :: undef :: undef :: []) := ⟨_, rfl⟩
 have hr : zA Try.prog O false qX.code T S = zA Try.prog O false qX.code T S := rfl
 conv at hr =>
  rhs
  rw [hTe]
  simp only [qX.code, qX.rs, zSs, reduceIte, Nat.reduceEqDiff, Int.reduceEq, Int.reduceLT, Int.reduceLE, WZ, Z7]
 rw [hTe] at hr
 exact qX.runs hr (.inr rfl)
theorem ac2 (S : zi) : zQ Try.prog O yG.id [.int .i64 0] S = some (.int .u64 (KA 0), S) := Z9 (n := 70) (by kernel_rfl)
theorem acU (S : zi) : zQ Try.prog O yG.id [.int .i64 1] S = some (.int .u64 (KA 1), S) := Z9 (n := 70) (by kernel_rfl)
theorem adf (S : zi) : zQ Try.prog O yG.id [.int .i64 2] S = some (.int .u64 (KA 2), S) := Z9 (n := 70) (by kernel_rfl)
theorem adl (S : zi) : zQ Try.prog O yG.id [.int .i64 3] S = some (.int .u64 (KA 3), S) := Z9 (n := 70) (by kernel_rfl)
theorem ac8 (S : zi) : zQ Try.prog O yG.id [.int .i64 4] S = some (.int .u64 (KA 4), S) := Z9 (n := 70) (by kernel_rfl)
theorem ade (S : zi) : zQ Try.prog O yG.id [.int .i64 5] S = some (.int .u64 (KA 5), S) := Z9 (n := 70) (by kernel_rfl)
theorem adu (S : zi) : zQ Try.prog O yG.id [.int .i64 6] S = some (.int .u64 (KA 6), S) := Z9 (n := 70) (by kernel_rfl)
theorem yG.v {n : Int} (h0 : 0 ≤ n) (h6 : n ≤ 6) (S : zi) : zQ Try.prog O yG.id [.int .i64 n] S = some (.int .u64 (KA n), S) := by
 have : n = 0 ∨ n = 1 ∨ n = 2 ∨ n = 3 ∨ n = 4 ∨ n = 5 ∨ n = 6 := by omega
 rcases this with rfl | rfl | rfl | rfl | rfl | rfl | rfl
 ·
  exact ac2 S
 ·
  exact acU S
 ·
  exact adf S
 ·
  exact adl S
 ·
  exact ac8 S
 ·
  exact ade S
 ·
  exact adu S
section
variable {l : List UInt8} {k : Nat}
theorem jW.round (hv : Okl k l) (hlen : l.length ≤ 140737488355328) {S : zi} : ∀ (suf pre : List UInt8) (h : Int) {T : List Value} {r : St}, qI (zA Try.prog O false jW.jP) T S = r → T.length = 35 →
  T.getD 5 undef = .int .u64 h → T.getD 18 undef = by_ k l → T.getD 19 undef = .int .i64 l.length → T.getD 20 undef = .int .i64 pre.length → l = pre ++ suf →
  ∃ T', r = some (.exit 2, T', S) ∧ T'.length = 35 ∧ T'.getD 5 undef = .int .u64 (suf.foldl Yb h) ∧ T'.getD 12 undef = T.getD 12 undef ∧ T'.getD 13 undef = T.getD 13 undef ∧ T'.getD 14 undef = T.getD 14 undef := by
 intro suf
 induction suf with
 | nil =>
  intro pre h T r hL hT h5 h18 h19 h20 hl
  have hTe := jW.eta hT
  rw [h5, h18, h19, h20] at hTe
  have hr : zA Try.prog O false jW.jP T S = zA Try.prog O false jW.jP T S := rfl
  have d1 : ¬ (pre.length : Int) < (l.length : Int) := by rw [hl]; simp
  conv at hr =>
   rhs
   rw [hTe]
   simp only [jW.jP, jW.code, jW.rs, zSs, reduceIte, Nat.reduceEqDiff, Int.reduceEq, Int.reduceLT, Int.reduceLE, d1]
  exact ⟨_, hL.symm.trans (wz hr (by simp)), rfl, rfl, rfl, rfl, rfl⟩
 | cons x suf ih =>
  intro pre h T r hL hT h5 h18 h19 h20 hl
  have hTe := jW.eta hT
  rw [h5, h18, h19, h20] at hTe
  have hr : zA Try.prog O false jW.jP T S = zA Try.prog O false jW.jP T S := rfl
  have d1 : (pre.length : Int) < (l.length : Int) := by rw [hl]; simp; omega
  have e1 : ∀ S, jB Try.prog 33 (by_ k l) (.int .i64 pre.length) S = some (EP [.int .u8 x.toNat], S) := fun S => by
   rw [ait hv (by omega) d1]; rw [acg hl]
  have wi : IntKind.i64.wrap ((pre.length : Int) + 1) = ((pre ++ [x]).length : Int) := by rw [wrap_i64 (by omega) (by omega)]; simp
  have em : IntKind.u64.wrap (acy .u64 h (x.toNat : Int) * 1099511628211) = Yb h x := rfl
  conv at hr =>
   rhs
   rw [hTe]
   simp only [jW.jP, jW.code, jW.rs, zSs, reduceIte, Nat.reduceEqDiff, Int.reduceEq, Int.reduceLT, Int.reduceLE, d1, e1, aa3, Zj, VY, JG, WZ, em, wi]
  obtain ⟨T', q1, q2, q3, q4, q5, q6⟩ := ih (pre ++ [x]) (Yb h x) ((yR hr).symm.trans hL) rfl rfl rfl rfl rfl (by simp [hl])
  exact ⟨T', q1, q2, q3, q4, q5, q6⟩
theorem Y9 (S : zi) : jR Try.prog 29 1 [(0, by_ 1 l)] S = some (sv 2 1 1 [by_ 1 l], S) := by kernel_rfl
theorem afZ (i : Int) (hi : i = 0) (S : zi) : jB Try.prog 29 (sv 1 1 1 [by_ 1 l]) (.int .i64 i) S = some (EP [by_ 1 l], S) := by subst hi; exact Yc aaL aex ⟨by decide, fun h => by cases h⟩ (by omega) (by omega)
theorem jW.v (hlen : l.length ≤ 140737488355328) {key : Int} (S : zi) : zQ Try.prog O jW.id [.int .u64 key, sv 1 1 1 [by_ 1 l]] S = some (.int .u64 (JY key l), S) := by
 obtain ⟨T, hTe⟩ : ∃ T, T = (.int .u64 key :: sv 1 1 1 [by_ 1 l] :: undef :: undef :: undef :: undef :: undef :: undef :: undef :: undef :: undef :: undef :: undef :: undef :: undef :: undef :: undef :: undef :: undef :: undef :: undef :: undef :: undef :: undef :: undef :: undef :: undef :: undef :: undef :: undef :: undef :: undef :: undef :: undef :: undef :: []) := ⟨_, rfl⟩
 have hr : zA Try.prog O false jW.code T S = zA Try.prog O false jW.code T S := rfl
 have ln : ∀ S, ZM Try.prog 29 (sv 1 1 1 [by_ 1 l]) S = some (.int .i64 1, S) := fun S => by kernel_rfl
 have lb : ∀ S, ZM Try.prog 33 (by_ 1 l) S = some (.int .i64 l.length, S) := fun S => J7 Okl.read
 conv at hr =>
  rhs
  rw [hTe]
  simp only [jW.code, jW.rs, zSs, reduceIte, Nat.reduceEqDiff, Int.reduceEq, Int.reduceLT, Int.reduceLE, JG, ln]
 generalize hL : qI (zA Try.prog O false jW.ZY) _ _ = r at hr
 have key1 : ∃ T', r = some (.exit 0, T', S) ∧ T'.length = 35 ∧ T'.getD 5 undef = .int .u64 (l.foldl Yb (acy .u64 key 14695981039346656037)) := by
  generalize hT0 : (_ :: _ : List Value) = T0 at hL
  have hT0' : T0.length = 35 := by rw [← hT0]; rfl
  have g5 : T0.getD 5 undef = .int .u64 (acy .u64 key 14695981039346656037) := by rw [← hT0]; rfl
  have g12 : T0.getD 12 undef = sv 1 1 1 [by_ 1 l] := by rw [← hT0]; rfl
  have g13 : T0.getD 13 undef = .int .i64 1 := by rw [← hT0]; rfl
  have g14 : T0.getD 14 undef = .int .i64 0 := by rw [← hT0]; rfl
  have hTe := jW.eta hT0'
  rw [g5, g12, g13, g14] at hTe
  have hr : zA Try.prog O false jW.ZY T0 S = zA Try.prog O false jW.ZY T0 S := rfl
  have z1 : (0 : Int) < 1 := by omega
  conv at hr =>
   rhs
   rw [hTe]
   simp only [jW.ZY, jW.code, jW.rs, zSs, reduceIte, Nat.reduceEqDiff, Int.reduceEq, Int.reduceLT, Int.reduceLE, z1, afZ 0 rfl, Q8 aei, lb]
  generalize hL1 : qI (zA Try.prog O false jW.jP) _ _ = r1 at hr
  obtain ⟨T1, rfl, q1, q2, q3, q4, q5⟩ := jW.round (Okl.read (l := l)) hlen l [] _ hL1 rfl rfl rfl rfl rfl rfl
  have q3 : T1.getD 12 undef = sv 1 1 1 [by_ 1 l] := q3
  have q4 : T1.getD 13 undef = .int .i64 1 := q4
  have q5 : T1.getD 14 undef = .int .i64 0 := q5
  have hT1 := jW.eta q1
  rw [q2, q3, q4, q5] at hT1
  have w1 : IntKind.i64.wrap (0 + 1) = 1 := by decide
  conv at hr =>
   rhs
   rw [hT1]
   simp only [jW.code, jW.rs, zSs, reduceIte, Nat.reduceEqDiff, Int.reduceEq, Int.reduceLT, Int.reduceLE, w1]
  have hL2 := (yR hr).symm.trans hL
  generalize hT2 : (_ :: _ : List Value) = T2 at hL2
  have hT2' : T2.length = 35 := by rw [← hT2]; rfl
  have f5 : T2.getD 5 undef = .int .u64 (l.foldl Yb (acy .u64 key 14695981039346656037)) := by rw [← hT2]; rfl
  have f13 : T2.getD 13 undef = .int .i64 1 := by rw [← hT2]; rfl
  have f14 : T2.getD 14 undef = .int .i64 1 := by rw [← hT2]; rfl
  have hTe2 := jW.eta hT2'
  rw [f5, f13, f14] at hTe2
  have hr2 : zA Try.prog O false jW.ZY T2 S = zA Try.prog O false jW.ZY T2 S := rfl
  have z2 : ¬ (1 : Int) < 1 := by omega
  conv at hr2 =>
   rhs
   rw [hTe2]
   simp only [jW.ZY, jW.code, jW.rs, zSs, reduceIte, Nat.reduceEqDiff, Int.reduceEq, Int.reduceLT, Int.reduceLE, z2]
  exact ⟨_, hL2.symm.trans (wz hr2 (by simp)), rfl, rfl⟩
 obtain ⟨T', rfl, g1, g2⟩ := key1
 have hT' := jW.eta g1
 rw [g2] at hT'
 conv at hr =>
  rhs
  rw [hT']
  simp only [jW.code, jW.rs, zSs, reduceIte, Nat.reduceEqDiff, Int.reduceEq, Int.reduceLT, Int.reduceLE, JG, ab4 _ _ _ _ (show (0 : Int) ≤ 29 by omega)]
 rw [hTe] at hr
 exact jW.runs hr (.inr rfl)
theorem yU.v (hv : Okl k l) (k1 : k = 1) (hlen : l.length ≤ 140737488355328) {key mark : Int} (S : zi) : zQ Try.prog O yU.id [.int .u64 key, .int .u64 mark, by_ k l] S = some (.bool (decide (JY key l = mark)), S) := by
 subst k1
 obtain ⟨T, hTe⟩ : ∃ T, T = (.int .u64 key :: .int .u64 mark :: by_ 1 l :: undef :: undef :: undef :: undef :: undef :: undef :: undef :: undef :: undef :: undef :: []) := ⟨_, rfl⟩
 have hr : zA Try.prog O false yU.code T S = zA Try.prog O false yU.code T S := rfl
 have c1 := fun S => jW.v hlen (key := key) S
 have z : ¬ (1 : Nat) = 2 := by decide
 conv at hr =>
  rhs
  rw [hTe]
  simp only [yU.code, yU.rs, zSs, reduceIte, Nat.reduceEqDiff, Int.reduceEq, Int.reduceLT, Int.reduceLE, if_neg z, Y9, c1]
 rw [hTe] at hr
 exact yU.runs hr (.inr rfl)
theorem mref (h : Int) : IntKind.u64.wrap (IntKind.u64.wrap (IntKind.u64.wrap (h * 2 ^ (min (Int.toNat 40) (IntKind.bits .u64))) + IntKind.u64.wrap (h * 2 ^ (min (Int.toNat 8) (IntKind.bits .u64)))) + IntKind.u64.wrap (h * 179)) = IntKind.u64.wrap (h * 1099511628211) := by
 have e1 : (2 : Int) ^ (min (Int.toNat 40) (IntKind.bits .u64)) = 1099511627776 := by decide
 have e2 : (2 : Int) ^ (min (Int.toNat 8) (IntKind.bits .u64)) = 256 := by decide
 rw [e1, e2]
 simp only [Y4]
 omega
theorem afY {h : Int} (h0 : 0 ≤ h) (h1 : h < 18446744073709551616) : acy .u64 h (IntKind.u64.wrap (h.tdiv 536870912)) = aki h := by
 unfold aki
 congr 1
 have e1 : (2 : Int) ^ (min (Int.toNat 29) (IntKind.bits .u64)) = 536870912 := by decide
 rw [e1, Y4, Int.tdiv_eq_ediv_of_nonneg h0, Int.fdiv_eq_ediv_of_nonneg _ (by omega)]
 omega
theorem aeF : ∀ (l : List UInt8) (h : Int), 0 ≤ h → h < 18446744073709551616 → 0 ≤ l.foldl Yb h ∧ l.foldl Yb h < 18446744073709551616
 | [], h, h0, h1 => ⟨h0, h1⟩
 | x :: l, h, h0, h1 => by
  have := ags h x
  exact aeF l _ this.1 this.2
theorem zK.round (hv : Okl k l) (hk : k ≠ 2) (hlen : l.length ≤ 140737488355328) {S : zi} : ∀ (suf pre : List UInt8) (h : Int) {T : List Value} {r : St}, qI (zA Try.prog O false zK.jP) T S = r → T.length = 34 →
  T.getD 1 undef = by_ k l → T.getD 5 undef = .int .u64 h → T.getD 6 undef = .int .i64 pre.length → l = pre ++ suf →
  ∃ T', r = some (.exit 0, T', S) ∧ T'.length = 34 ∧ T'.getD 5 undef = .int .u64 (suf.foldl Yb h) := by
 intro suf
 induction suf with
 | nil =>
  intro pre h T r hL hT h1 h5 h6 hl
  have hTe := zK.eta hT
  rw [h1, h5, h6] at hTe
  have hr : zA Try.prog O false zK.jP T S = zA Try.prog O false zK.jP T S := rfl
  have d1 : ¬ (pre.length : Int) < (l.length : Int) := by rw [hl]; simp
  conv at hr =>
   rhs
   rw [hTe]
   simp only [zK.jP, zK.code, zK.rs, zSs, reduceIte, Nat.reduceEqDiff, Int.reduceEq, Int.reduceLT, Int.reduceLE, if_neg hk, J7 hv, goInt, d1]
  exact ⟨_, hL.symm.trans (wz hr (by simp)), rfl, rfl⟩
 | cons x suf ih =>
  intro pre h T r hL hT h1 h5 h6 hl
  have hTe := zK.eta hT
  rw [h1, h5, h6] at hTe
  have hr : zA Try.prog O false zK.jP T S = zA Try.prog O false zK.jP T S := rfl
  have d1 : (pre.length : Int) < (l.length : Int) := by rw [hl]; simp; omega
  have e1 : ∀ S, jB Try.prog 33 (by_ k l) (.int .i64 pre.length) S = some (EP [.int .u8 x.toNat], S) := fun S => by
   rw [ait hv (by omega) d1]; rw [acg hl]
  have wi : IntKind.i64.wrap ((pre.length : Int) + 1) = ((pre ++ [x]).length : Int) := by rw [wrap_i64 (by omega) (by omega)]; simp
  have em : IntKind.u64.wrap (acy .u64 h (x.toNat : Int) * 1099511628211) = Yb h x := rfl
  conv at hr =>
   rhs
   rw [hTe]
   simp only [zK.jP, zK.code, zK.rs, zSs, reduceIte, Nat.reduceEqDiff, Int.reduceEq, Int.reduceLT, Int.reduceLE, if_neg hk, J7 hv, goInt, d1, e1, aa3, Zj, VY, JG, WZ, XY _ _ _ _ (show (0 : Int) ≤ 40 by omega), XY _ _ _ _ (show (0 : Int) ≤ 8 by omega), mref, em, wi]
  obtain ⟨T', q1, q2, q3⟩ := ih (pre ++ [x]) (Yb h x) ((yR hr).symm.trans hL) rfl rfl rfl rfl (by simp [hl])
  exact ⟨T', q1, q2, q3⟩
theorem zK.v (hv : Okl k l) (hk : k ≠ 2) (hlen : l.length ≤ 140737488355328) {key : Int} (S : zi) : zQ Try.prog O zK.id [.int .u64 key, by_ k l] S = some (.int .u64 (JY key l), S) := by
 obtain ⟨T, hTe⟩ : ∃ T, T = (.int .u64 key :: by_ k l :: undef :: undef :: undef :: undef :: undef :: undef :: undef :: undef :: undef :: undef :: undef :: undef :: undef :: undef :: undef :: undef :: undef :: undef :: undef :: undef :: undef :: undef :: undef :: undef :: undef :: undef :: undef :: undef :: undef :: undef :: undef :: undef :: []) := ⟨_, rfl⟩
 have hr : zA Try.prog O false zK.code T S = zA Try.prog O false zK.code T S := rfl
 conv at hr =>
  rhs
  rw [hTe]
  simp only [zK.code, zK.rs, zSs, reduceIte, Nat.reduceEqDiff, Int.reduceEq, Int.reduceLT, Int.reduceLE, JG]
 generalize hL : qI (zA Try.prog O false zK.jP) _ _ = r at hr
 obtain ⟨T', rfl, g1, g2⟩ := zK.round hv hk hlen l [] _ hL rfl rfl rfl rfl rfl
 have hT' := zK.eta g1
 rw [g2] at hT'
 have hx := acj key 14695981039346656037
 have hi := aeF l _ hx.1 hx.2
 have em := afY hi.1 hi.2
 conv at hr =>
  rhs
  rw [hT']
  simp only [zK.code, zK.rs, zSs, reduceIte, Nat.reduceEqDiff, Int.reduceEq, Int.reduceLT, Int.reduceLE, kY _ _ _ (show (536870912 : Int) ≠ 0 by omega), JG, em]
 rw [hTe] at hr
 exact zK.runs hr (.inr rfl)
end
end Go.Proofs.Ytfjogganfjkckaa
namespace Go.Proofs.Ytfjogganfjkckaa
open Go.Abs
abbrev jy.id : FuncId := 57
noncomputable def jy.code : Code := (Code.seq (Code.region 0 (reg Try.f57 0) false) (Code.seq (Code.region 1 (reg Try.f57 1) false) (Code.seq (Code.seq (Code.region 2 (reg Try.f57 2) false) (Code.cond (Operand.tmp 16) (Code.seq (Code.region 3 (reg Try.f57 3) false) Code.ret) Code.skip)) (Code.seq (Code.region 4 (reg Try.f57 4) false) (Code.seq (Code.region 5 (reg Try.f57 5) true) (Code.seq (Code.seq (Code.region 6 (reg Try.f57 6) false) (Code.cond (Operand.tmp 43) (Code.seq (Code.region 7 (reg Try.f57 7) false) Code.ret) Code.skip)) (Code.seq (Code.region 8 (reg Try.f57 8) false) Code.ret)))))))
theorem jy.body : Try.f57.body = some jy.code := by kernel_rfl
variable (U x1 X x3 a Y V W Z x9 c d f g i k l m n o p q r s t u w x y z A B C D E F G H I J K L M N P Q : Value) (S : zi)
theorem jy.r0  : jv Try.prog ⟨false, false, false⟩ (zQ Try.prog O) (reg Try.f57 0) (reg Try.f57 0).toList ([U,x1,X,x3,a,Y,V,W,Z,x9,c,d,f,g,i,k,l,m,n,o,p,q,r,s,t,u,w,x,y,z,A,B,C,D,E,F,G,H,I,J,K,L,M,N,P,Q]) S =
  (zF (yJ Try.prog 46 S) (fun v0 R => some ([U,x1,v0,Value.int IntKind.i64 0,a,Y,V,W,Z,x9,c,d,f,g,i,k,l,m,n,o,p,q,r,s,t,u,w,x,y,z,A,B,C,D,E,F,G,H,I,J,K,L,M,N,P,Q], R)) ()) := by
 kernel_rfl
theorem jy.r1  : jv Try.prog ⟨false, false, false⟩ (zQ Try.prog O) (reg Try.f57 1) (reg Try.f57 1).toList ([U,x1,X,x3,a,Y,V,W,Z,x9,c,d,f,g,i,k,l,m,n,o,p,q,r,s,t,u,w,x,y,z,A,B,C,D,E,F,G,H,I,J,K,L,M,N,P,Q]) S =
  (zF ((zQ Try.prog O) 55 [(dem (dem U)), (Value.int IntKind.i64 4)] S) (fun b R => zF (zS b 0 R) (fun v3 S2 => zF (zS (zV 0 b) 1 S2) (fun v4 S3 => zF (zS (zV 1 (zV 0 b)) 2 S3) (fun v5 S4 => some ([U,x1,X,x3,v3,v4,v5,W,Z,zV 2 (zV 1 (zV 0 b)),dem U,dem b,dem v3,dem v4,dem v5,k,l,m,n,o,p,q,r,s,t,u,w,x,y,z,A,B,C,D,E,F,G,H,I,J,K,L,M,N,P,Q], S4)) ()) ()) ()) ()) := by
 kernel_rfl
theorem jy.r2  : jv Try.prog ⟨false, false, false⟩ (zQ Try.prog O) (reg Try.f57 2) (reg Try.f57 2).toList ([U,x1,X,x3,a,Y,V,W,Z,x9,c,d,f,g,i,k,l,m,n,o,p,q,r,s,t,u,w,x,y,z,A,B,C,D,E,F,G,H,I,J,K,L,M,N,P,Q]) S =
  (zF (jX Try.prog BinOp.neq 64 (dem V) (Value.int IntKind.i64 0) S) (fun b R => some ([U,x1,X,x3,a,Y,V,W,Z,x9,c,d,f,g,i,dem V,b,m,n,o,p,q,r,s,t,u,w,x,y,z,A,B,C,D,E,F,G,H,I,J,K,L,M,N,P,Q], R)) ()) := by
 kernel_rfl
theorem jy.r3  : jv Try.prog ⟨false, false, false⟩ (zQ Try.prog O) (reg Try.f57 3) (reg Try.f57 3).toList ([U,x1,X,x3,a,Y,V,W,Z,x9,c,d,f,g,i,k,l,m,n,o,p,q,r,s,t,u,w,x,y,z,A,B,C,D,E,F,G,H,I,J,K,L,M,N,P,Q]) S =
  (zF (yu Try.prog 46 [] S) (fun v0 R => zF (wU Try.prog 46 X (dem v0) R) (fun b S2 => some ([U,x1,X,Value.int IntKind.i64 71,a,Y,V,W,Z,x9,c,d,f,g,i,k,l,v0,n,o,p,q,r,s,t,u,w,x,y,z,A,B,C,D,E,F,G,H,I,J,K,L,M,N,P,Q], S2)) ()) ()) := by
 kernel_rfl
theorem jy.r4  : jv Try.prog ⟨false, false, false⟩ (zQ Try.prog O) (reg Try.f57 4) (reg Try.f57 4).toList ([U,x1,X,x3,a,Y,V,W,Z,x9,c,d,f,g,i,k,l,m,n,o,p,q,r,s,t,u,w,x,y,z,A,B,C,D,E,F,G,H,I,J,K,L,M,N,P,Q]) S =
  (zF ((zQ Try.prog O) 65 [(dem (dem Y))] S) (fun b R => zF (zS b 0 R) (fun v3 S2 => zF (zS (zV 0 b) 1 S2) (fun v4 S3 => some ([U,x1,X,x3,a,Y,v4,v3,Z,x9,c,d,f,g,i,k,l,m,zV 1 (zV 0 b),dem Y,dem b,dem v3,dem v4,s,t,u,w,x,y,z,A,B,C,D,E,F,G,H,I,J,K,L,M,N,P,Q], S3)) ()) ()) ()) := by
 kernel_rfl
theorem jy.d5 : kD Try.prog (reg Try.f57 5) = true := by kernel_rfl
theorem jy.ff5 : fixed Try.prog (reg Try.f57 5) = false := by kernel_rfl
theorem jy.k5 : checked Try.prog (reg Try.f57 5) = [0, 1, 2, 3, 4, 5, 6, 7, 8, 9, 10, 11, 12, 13] := by kernel_rfl
theorem jy.g5 : again Try.prog (reg Try.f57 5) = [(2, 14), (5, 14), (8, 14), (11, 14)] := by kernel_rfl
theorem jy.r5  : zA Try.prog O false (.region 5 (reg Try.f57 5) true) ([U,x1,X,x3,a,Y,V,W,Z,x9,c,d,f,g,i,k,l,m,n,o,p,q,r,s,t,u,w,x,y,z,A,B,C,D,E,F,G,H,I,J,K,L,M,N,P,Q]) S =
  JE (okK a ( zF (jB Try.prog 24 (dem a) (Value.int IntKind.i64 0) S) (fun b R => okK b ( zF (zZ Try.prog false 3 b R) (fun v2 S2 => okK v2 ( okK a ( zF (jB Try.prog 24 (dem a) (Value.int IntKind.i64 1) S2) (fun v4 S3 => okK v4 ( zF (zZ Try.prog false 3 v4 S3) (fun v5 S4 => okK v5 ( okK a ( zF (jB Try.prog 24 (dem a) (Value.int IntKind.i64 2) S4) (fun v7 S5 => okK v7 ( zF (zZ Try.prog false 3 v7 S5) (fun v8 S6 => okK v8 ( okK a ( zF (jB Try.prog 24 (dem a) (Value.int IntKind.i64 3) S6) (fun a0 S7 => okK a0 ( zF (zZ Try.prog false 3 a0 S7) (fun a2 S8 => okK a2 ( okK W ( zF (yu Try.prog 46 [(0, (dem v2)), (1, (dem v5)), (2, (dem v8)), (3, (dem a2)), (4, (dem (dem W)))] S8) (fun a3 S9 => okK a3 ( zF (yJ Try.prog 46 S9) (fun a4 a1 => zF (wU Try.prog 46 a4 (dem a3) a1) (fun a6 a5 => ckK (ku b R a1 && (ku v4 S3 a1 && (ku v7 S5 a1 && (ku a0 S7 a1 && (true))))) (some ([U,x1,X,x3,a,Y,V,W,a4,x9,c,d,f,g,i,k,l,m,n,o,p,q,r,dem a,b,v2,dem a,v4,v5,dem a,v7,v8,dem a,a0,a2,dem W,a3,H,I,J,K,L,M,N,P,Q], a5)) ()) ()) ()) ()) ()) ()) ()) ()) ()) ()) ()) ()) ()) ()) ()) ()) ()) ()) ()) ()) ()) ()) ()) ()) ()) ()) := by
 rw [yQ jy.d5 jy.ff5 jy.k5 jy.g5]
 refine congrArg JE ?_
 refine uPC Try.f57 5 0 (v := a) (pe := undef) ?_
 refine uDC Try.f57 5 1 (pe := undef) (fun b R => ?_)
 refine uDC Try.f57 5 2 (pe := b) (fun v2 S2 => ?_)
 refine uPC Try.f57 5 3 (v := a) (pe := undef) ?_
 refine uDC Try.f57 5 4 (pe := undef) (fun v4 S3 => ?_)
 refine uDC Try.f57 5 5 (pe := v4) (fun v5 S4 => ?_)
 refine uPC Try.f57 5 6 (v := a) (pe := undef) ?_
 refine uDC Try.f57 5 7 (pe := undef) (fun v7 S5 => ?_)
 refine uDC Try.f57 5 8 (pe := v7) (fun v8 S6 => ?_)
 refine uPC Try.f57 5 9 (v := a) (pe := undef) ?_
 refine uDC Try.f57 5 10 (pe := undef) (fun a0 S7 => ?_)
 refine uDC Try.f57 5 11 (pe := a0) (fun a2 S8 => ?_)
 refine uPC Try.f57 5 12 (v := W) (pe := undef) ?_
 refine uDC Try.f57 5 13 (pe := undef) (fun a3 S9 => ?_)
 refine uD Try.f57 5 14 (pe := undef) (fun a4 a1 => ?_)
 refine uD Try.f57 5 15 (pe := undef) (fun a6 a5 => ?_)
 kernel_rfl
theorem jy.r6  : jv Try.prog ⟨false, false, false⟩ (zQ Try.prog O) (reg Try.f57 6) (reg Try.f57 6).toList ([U,x1,X,x3,a,Y,V,W,Z,x9,c,d,f,g,i,k,l,m,n,o,p,q,r,s,t,u,w,x,y,z,A,B,C,D,E,F,G,H,I,J,K,L,M,N,P,Q]) S =
  (zF (jX Try.prog BinOp.neq 64 (dem V) (Value.int IntKind.i64 0) S) (fun b R => gdK (dem b) false (zZ Try.prog false 46 Z) R (fun v3 S2 => gdK (dem b) false ((zQ Try.prog O) 45 [(dem v3)]) S2 (fun v4 S3 => gdK (dem b) false (aUn Try.prog UnOp.not v4) S3 (fun v5 S4 => zF (wP (dem b) (Value.bool true) v5 S4) (fun v6 S5 => some ([U,x1,X,x3,a,Y,V,W,Z,x9,c,d,f,g,i,k,l,m,n,o,p,q,r,s,t,u,w,x,y,z,A,B,C,D,E,F,G,dem V,b,dem b,v3,v4,v5,v6,P,Q], S5)) ()) ()) ()) ()) ()) := by
 refine sP Try.f57 6 0 (v := V) ?_
 refine sD Try.f57 6 1 (fun b R => ?_)
 refine sP Try.f57 6 2 (v := b) ?_
 refine sG Try.f57 6 3 (j := 2) (fun v3 S2 => ?_)
 refine sG Try.f57 6 4 (j := 2) (fun v4 S3 => ?_)
 refine sG Try.f57 6 5 (j := 2) (fun v5 S4 => ?_)
 refine sD Try.f57 6 6 (fun v6 S5 => ?_)
 kernel_rfl
theorem jy.r7  : jv Try.prog ⟨false, false, false⟩ (zQ Try.prog O) (reg Try.f57 7) (reg Try.f57 7).toList ([U,x1,X,x3,a,Y,V,W,Z,x9,c,d,f,g,i,k,l,m,n,o,p,q,r,s,t,u,w,x,y,z,A,B,C,D,E,F,G,H,I,J,K,L,M,N,P,Q]) S =
  (zF (yu Try.prog 46 [] S) (fun v0 R => zF (wU Try.prog 46 X (dem v0) R) (fun b S2 => some ([U,x1,X,Value.int IntKind.i64 71,a,Y,V,W,Z,x9,c,d,f,g,i,k,l,m,n,o,p,q,r,s,t,u,w,x,y,z,A,B,C,D,E,F,G,H,I,J,K,L,M,N,v0,Q], S2)) ()) ()) := by
 kernel_rfl
theorem jy.r8  : jv Try.prog ⟨false, false, false⟩ (zQ Try.prog O) (reg Try.f57 8) (reg Try.f57 8).toList ([U,x1,X,x3,a,Y,V,W,Z,x9,c,d,f,g,i,k,l,m,n,o,p,q,r,s,t,u,w,x,y,z,A,B,C,D,E,F,G,H,I,J,K,L,M,N,P,Q]) S =
  (zF (zZ Try.prog false 46 Z S) (fun v0 R => zF (wU Try.prog 46 X (dem v0) R) (fun b S2 => some ([U,x1,X,Value.int IntKind.i64 0,a,Y,V,W,Z,x9,c,d,f,g,i,k,l,m,n,o,p,q,r,s,t,u,w,x,y,z,A,B,C,D,E,F,G,H,I,J,K,L,M,N,P,v0], S2)) ()) ()) := by
 kernel_rfl
theorem jy.rs : type_of% (And.intro @jy.r0 (And.intro @jy.r1 (And.intro @jy.r2 (And.intro @jy.r3 (And.intro @jy.r4 (And.intro @jy.r5 (And.intro @jy.r6 (And.intro @jy.r7 (@jy.r8))))))))) := And.intro @jy.r0 (And.intro @jy.r1 (And.intro @jy.r2 (And.intro @jy.r3 (And.intro @jy.r4 (And.intro @jy.r5 (And.intro @jy.r6 (And.intro @jy.r7 (@jy.r8))))))))
theorem jy.runs {U : Value} {S R : zi} {e : AEx} {T : List Value} (h : zA Try.prog O false jy.code ([U,undef,undef,undef,undef,undef,undef,undef,undef,undef,undef,undef,undef,undef,undef,undef,undef,undef,undef,undef,undef,undef,undef,undef,undef,undef,undef,undef,undef,undef,undef,undef,undef,undef,undef,undef,undef,undef,undef,undef,undef,undef,undef,undef,undef,undef]) zi.empty = some (e, T, R)) (he : e = .normal ∨ e = .ret) {w0 : Value} (c0 : zZ Try.prog false 46 (T.getD 2 undef) R = some (w0, R)) (h0 : jY (w0) = true) (h1 : jY (T.getD 3 undef) = true) (hca : [U].all (jH 16) = true) (hcv : jH 16 (Value.tuple #[w0, T.getD 3 undef]) = true) : zQ Try.prog O 57 [U] S = some (Value.tuple #[w0, T.getD 3 undef], S) :=
 wZ rfl rfl Try.func57 (by decide) jy.body (by exact h) he ((ql ((show zG Try.prog T R Try.f57.results.toList = zG Try.prog T R [(ResultVar.cell 2 46), (ResultVar.tmp 3)] from by kernel_rfl).trans (by simp only [zG, c0])) (by kernel_rfl) (by simp only [List.all_cons, List.all_nil, h0, h1, Bool.and_true])).trans rfl) hca hcv
end Go.Proofs.Ytfjogganfjkckaa
namespace Go.Proofs.Ytfjogganfjkckaa
open Go.Abs
abbrev wE.id : FuncId := 73
noncomputable def wE.code : Code := (Code.seq (Code.region 0 (reg Try.f73 0) false) (Code.seq (Code.region 1 (reg Try.f73 1) false) Code.ret))
theorem wE.body : Try.f73.body = some wE.code := by kernel_rfl
variable (g i k l x4 x5 x6 x7 x8 x9 o p q r s t u w x y z A B C D E F G H I J K L M N P Q R : Value) (S : zi)
theorem wE.r0  : jv Try.prog ⟨false, false, false⟩ (zQ Try.prog O) (reg Try.f73 0) (reg Try.f73 0).toList ([g,i,k,l,x4,x5,x6,x7,x8,x9,o,p,q,r,s,t,u,w,x,y,z,A,B,C,D,E,F,G,H,I,J,K,L,M,N,P,Q,R]) S =
  (zF (Jo (dem g) S) (fun U m => zF (Jo (dem i) m) (fun V S2 => some ([g,i,U,V,Value.bool false,x5,x6,x7,x8,x9,o,p,q,r,s,t,u,w,x,y,z,A,B,C,D,E,F,G,H,I,J,K,L,M,N,P,Q,R], S2)) ()) ()) := by
 kernel_rfl
theorem wE.r1  : jv Try.prog ⟨false, false, false⟩ (zQ Try.prog O) (reg Try.f73 1) (reg Try.f73 1).toList ([g,i,k,l,x4,x5,x6,x7,x8,x9,o,p,q,r,s,t,u,w,x,y,z,A,B,C,D,E,F,G,H,I,J,K,L,M,N,P,Q,R]) S =
  (zF (zo Try.prog 46 k 0 S) (fun U m => zF (zZ Try.prog false 3 U m) (fun V S2 => zF (zo Try.prog 46 l 0 S2) (fun v2 S3 => zF (zZ Try.prog false 3 v2 S3) (fun v3 S4 => zF (jX Try.prog BinOp.eql 3 V v3 S4) (fun f S5 => gdK (dem f) true (zo Try.prog 46 k 1) S5 (fun v6 S6 => gdK (dem f) true (zZ Try.prog false 3 v6) S6 (fun v7 S7 => gdK (dem f) true (zo Try.prog 46 l 1) S7 (fun v8 S8 => gdK (dem f) true (zZ Try.prog false 3 v8) S8 (fun v9 S9 => gdK (dem f) true (jX Try.prog BinOp.eql 3 v7 v9) S9 (fun W b2 => zF (wP (dem f) W (Value.bool false) b2) (fun b b3 => gdK (dem b) true (zo Try.prog 46 k 2) b3 (fun X b4 => gdK (dem b) true (zZ Try.prog false 3 X) b4 (fun Y b5 => gdK (dem b) true (zo Try.prog 46 l 2) b5 (fun Z b6 => gdK (dem b) true (zZ Try.prog false 3 Z) b6 (fun a0 b7 => gdK (dem b) true (jX Try.prog BinOp.eql 3 Y a0) b7 (fun a1 b8 => zF (wP (dem b) a1 (Value.bool false) b8) (fun c b9 => gdK (dem c) true (zo Try.prog 46 k 3) b9 (fun a2 c0 => gdK (dem c) true (zZ Try.prog false 3 a2) c0 (fun a3 c1 => gdK (dem c) true (zo Try.prog 46 l 3) c1 (fun a4 c2 => gdK (dem c) true (zZ Try.prog false 3 a4) c2 (fun a5 c3 => gdK (dem c) true (jX Try.prog BinOp.eql 3 a3 a5) c3 (fun a6 c4 => zF (wP (dem c) a6 (Value.bool false) c4) (fun d c5 => gdK (dem d) true (zo Try.prog 46 k 4) c5 (fun a7 c6 => gdK (dem d) true (zZ Try.prog false 44 a7) c6 (fun a8 c7 => gdK (dem d) true (zo Try.prog 46 l 4) c7 (fun a9 c8 => gdK (dem d) true (zZ Try.prog false 44 a9) c8 (fun b0 c9 => gdK (dem d) true ((zQ Try.prog O) 75 [(dem a8), (dem b0)]) c9 (fun b1 d0 => zF (wP (dem d) b1 (Value.bool false) d0) (fun n d1 => some ([g,i,k,l,n,U,V,v2,v3,f,dem f,v6,v7,v8,v9,W,b,dem b,X,Y,Z,a0,a1,c,dem c,a2,a3,a4,a5,a6,d,dem d,a7,a8,a9,b0,b1,dem n], d1)) ()) ()) ()) ()) ()) ()) ()) ()) ()) ()) ()) ()) ()) ()) ()) ()) ()) ()) ()) ()) ()) ()) ()) ()) ()) ()) ()) ()) ()) := by
 refine sD Try.f73 1 0 (fun U m => ?_)
 refine sD Try.f73 1 1 (fun V S2 => ?_)
 refine sD Try.f73 1 2 (fun v2 S3 => ?_)
 refine sD Try.f73 1 3 (fun v3 S4 => ?_)
 refine sD Try.f73 1 4 (fun f S5 => ?_)
 refine sP Try.f73 1 5 (v := f) ?_
 refine sG Try.f73 1 6 (j := 5) (fun v6 S6 => ?_)
 refine sG Try.f73 1 7 (j := 5) (fun v7 S7 => ?_)
 refine sG Try.f73 1 8 (j := 5) (fun v8 S8 => ?_)
 refine sG Try.f73 1 9 (j := 5) (fun v9 S9 => ?_)
 refine sG Try.f73 1 10 (j := 5) (fun W b2 => ?_)
 refine sD Try.f73 1 11 (fun b b3 => ?_)
 refine sP Try.f73 1 12 (v := b) ?_
 refine sG Try.f73 1 13 (j := 12) (fun X b4 => ?_)
 refine sG Try.f73 1 14 (j := 12) (fun Y b5 => ?_)
 refine sG Try.f73 1 15 (j := 12) (fun Z b6 => ?_)
 refine sG Try.f73 1 16 (j := 12) (fun a0 b7 => ?_)
 refine sG Try.f73 1 17 (j := 12) (fun a1 b8 => ?_)
 refine sD Try.f73 1 18 (fun c b9 => ?_)
 refine sP Try.f73 1 19 (v := c) ?_
 refine sG Try.f73 1 20 (j := 19) (fun a2 c0 => ?_)
 refine sG Try.f73 1 21 (j := 19) (fun a3 c1 => ?_)
 refine sG Try.f73 1 22 (j := 19) (fun a4 c2 => ?_)
 refine sG Try.f73 1 23 (j := 19) (fun a5 c3 => ?_)
 refine sG Try.f73 1 24 (j := 19) (fun a6 c4 => ?_)
 refine sD Try.f73 1 25 (fun d c5 => ?_)
 refine sP Try.f73 1 26 (v := d) ?_
 refine sG Try.f73 1 27 (j := 26) (fun a7 c6 => ?_)
 refine sG Try.f73 1 28 (j := 26) (fun a8 c7 => ?_)
 refine sG Try.f73 1 29 (j := 26) (fun a9 c8 => ?_)
 refine sG Try.f73 1 30 (j := 26) (fun b0 c9 => ?_)
 refine sG Try.f73 1 31 (j := 26) (fun b1 d0 => ?_)
 refine sD Try.f73 1 32 (fun n d1 => ?_)
 refine sP Try.f73 1 33 (v := n) ?_
 kernel_rfl
theorem wE.rs : type_of% (And.intro @wE.r0 (@wE.r1)) := And.intro @wE.r0 (@wE.r1)
theorem wE.runs {g i : Value} {S m : zi} {e : AEx} {T : List Value} (h : zA Try.prog O false wE.code ([g,i,undef,undef,undef,undef,undef,undef,undef,undef,undef,undef,undef,undef,undef,undef,undef,undef,undef,undef,undef,undef,undef,undef,undef,undef,undef,undef,undef,undef,undef,undef,undef,undef,undef,undef,undef,undef]) zi.empty = some (e, T, m)) (he : e = .normal ∨ e = .ret) (hca : [g, i].all (jH 16) = true) (hcv : jH 16 (T.getD 4 undef) = true) : zQ Try.prog O 73 [g, i] S = some (T.getD 4 undef, S) :=
 wZ rfl rfl Try.func73 (by decide) wE.body (by exact h) he (wV (a := T.getD 4 undef) ((show zG Try.prog T m Try.f73.results.toList = zG Try.prog T m [(ResultVar.tmp 4)] from by kernel_rfl).trans (by simp only [zG])) (by kernel_rfl)) hca hcv
end Go.Proofs.Ytfjogganfjkckaa
