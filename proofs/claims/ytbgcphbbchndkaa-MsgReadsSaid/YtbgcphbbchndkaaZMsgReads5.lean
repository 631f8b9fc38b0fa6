/-
The law MsgReads returns true for every input, and leaves it as it was; no condition. Part 5 of 7 of the texts (put together by a program: own names are short, what isn't needed is left out).
-/
import Derived.Test.YtbgcphbbchndkaaZMsgReads4
import Derived.Test.YtbgcphbbchndkaaChecked
import Derived.KernelRfl
set_option linter.unusedVariables false
set_option linter.unusedSimpArgs false
set_option maxRecDepth 100000
namespace Go.Proofs.Ytbgcphbbchndkaa
open Go.Abs
abbrev zh.id : FuncId := 19
noncomputable def zh.code : Code := (Code.seq (Code.region 0 (reg Try.f19 0) false) (Code.seq (Code.seq (Code.region 1 (reg Try.f19 1) false) (Code.cond (Operand.tmp 12) (Code.seq (Code.region 2 (reg Try.f19 2) false) Code.ret) Code.skip)) (Code.seq (Code.seq (Code.region 3 (reg Try.f19 3) false) (Code.cond (Operand.tmp 42) (Code.seq (Code.region 4 (reg Try.f19 4) false) Code.ret) Code.skip)) (Code.seq (Code.region 5 (reg Try.f19 5) false) (Code.seq (Code.region 6 (reg Try.f19 6) false) (Code.seq (Code.seq (Code.region 7 (reg Try.f19 7) false) (Code.block 0 (Code.seq (Code.region 8 (reg Try.f19 8) false) (Code.cond (Operand.tmp 61) (Code.seq (Code.region 9 (reg Try.f19 9) false) Code.ret) (Code.seq (Code.region 10 (reg Try.f19 10) false) (Code.cond (Operand.tmp 81) (Code.seq (Code.region 11 (reg Try.f19 11) false) Code.ret) (Code.seq (Code.region 12 (reg Try.f19 12) false) (Code.cond (Operand.tmp 101) (Code.seq (Code.region 13 (reg Try.f19 13) false) Code.ret) (Code.seq (Code.region 14 (reg Try.f19 14) false) (Code.cond (Operand.tmp 116) (Code.seq (Code.region 15 (reg Try.f19 15) false) Code.ret) (Code.seq (Code.seq (Code.region 16 (reg Try.f19 16) false) (Code.cond (Operand.tmp 139) Code.skip (Code.region 17 (reg Try.f19 17) false))) (Code.cond (Operand.tmp 139) (Code.seq (Code.region 18 (reg Try.f19 18) false) Code.ret) (Code.seq (Code.region 19 (reg Try.f19 19) false) (Code.cond (Operand.tmp 156) (Code.seq (Code.region 20 (reg Try.f19 20) false) Code.ret) Code.skip)))))))))))))) (Code.seq (Code.region 21 (reg Try.f19 21) false) Code.ret)))))))
theorem zh.body : Try.f19.body = some zh.code := by kernel_rfl
variable (x0 x1 x2 x3 x4 x5 x6 x7 x8 x9 c6 c7 c8 c9 d0 d1 d2 d3 d4 d5 d6 d7 d8 d9 f0 f1 f2 f3 f4 f5 f6 f7 f8 f9 g0 g1 g2 g3 g4 g5 g6 g7 g8 g9 i0 i1 i2 i3 i4 i5 i6 i7 i8 i9 j0 j1 j2 j3 j4 j5 c5 j6 j7 j8 j9 k0 k1 k2 k3 k4 k5 k6 k7 k8 k9 l0 l1 l2 l3 l4 l5 l6 l7 l8 l9 m0 m1 m2 m3 m4 m5 m6 m7 m8 m9 n0 n1 n2 n3 n4 b c d f g i k l m n o p q r s t u w x y z A B C D E F G H I J K L M N P Q R U c4 V W X Y Z a0 a1 a2 a3 a4 a5 a6 a7 a8 a9 b0 b1 b2 b3 b4 b5 b6 b7 b8 b9 c0 c1 c2 c3 : Value) (S : zk)
theorem zh.r0  : jC Try.prog ⟨false, false, false⟩ (jc Try.prog O) (reg Try.f19 0) (reg Try.f19 0).toList ([x0,x1,x2,x3,x4,x5,x6,x7,x8,x9,c6,c7,c8,c9,d0,d1,d2,d3,d4,d5,d6,d7,d8,d9,f0,f1,f2,f3,f4,f5,f6,f7,f8,f9,g0,g1,g2,g3,g4,g5,g6,g7,g8,g9,i0,i1,i2,i3,i4,i5,i6,i7,i8,i9,j0,j1,j2,j3,j4,j5,c5,j6,j7,j8,j9,k0,k1,k2,k3,k4,k5,k6,k7,k8,k9,l0,l1,l2,l3,l4,l5,l6,l7,l8,l9,m0,m1,m2,m3,m4,m5,m6,m7,m8,m9,n0,n1,n2,n3,n4,b,c,d,f,g,i,k,l,m,n,o,p,q,r,s,t,u,w,x,y,z,A,B,C,D,E,F,G,H,I,J,K,L,M,N,P,Q,R,U,c4,V,W,X,Y,Z,a0,a1,a2,a3,a4,a5,a6,a7,a8,a9,b0,b1,b2,b3,b4,b5,b6,b7,b8,b9,c0,c1,c2,c3]) S =
  (zI (J5 (dem x0) S) (fun v0 S1 => some ([x0,v0,Value.bool false,x3,x4,x5,x6,x7,x8,x9,c6,c7,c8,c9,d0,d1,d2,d3,d4,d5,d6,d7,d8,d9,f0,f1,f2,f3,f4,f5,f6,f7,f8,f9,g0,g1,g2,g3,g4,g5,g6,g7,g8,g9,i0,i1,i2,i3,i4,i5,i6,i7,i8,i9,j0,j1,j2,j3,j4,j5,c5,j6,j7,j8,j9,k0,k1,k2,k3,k4,k5,k6,k7,k8,k9,l0,l1,l2,l3,l4,l5,l6,l7,l8,l9,m0,m1,m2,m3,m4,m5,m6,m7,m8,m9,n0,n1,n2,n3,n4,b,c,d,f,g,i,k,l,m,n,o,p,q,r,s,t,u,w,x,y,z,A,B,C,D,E,F,G,H,I,J,K,L,M,N,P,Q,R,U,c4,V,W,X,Y,Z,a0,a1,a2,a3,a4,a5,a6,a7,a8,a9,b0,b1,b2,b3,b4,b5,b6,b7,b8,b9,c0,c1,c2,c3], S1)) ()) := by
 kernel_rfl
theorem zh.r1  : jC Try.prog ⟨false, false, false⟩ (jc Try.prog O) (reg Try.f19 1) (reg Try.f19 1).toList ([x0,x1,x2,x3,x4,x5,x6,x7,x8,x9,c6,c7,c8,c9,d0,d1,d2,d3,d4,d5,d6,d7,d8,d9,f0,f1,f2,f3,f4,f5,f6,f7,f8,f9,g0,g1,g2,g3,g4,g5,g6,g7,g8,g9,i0,i1,i2,i3,i4,i5,i6,i7,i8,i9,j0,j1,j2,j3,j4,j5,c5,j6,j7,j8,j9,k0,k1,k2,k3,k4,k5,k6,k7,k8,k9,l0,l1,l2,l3,l4,l5,l6,l7,l8,l9,m0,m1,m2,m3,m4,m5,m6,m7,m8,m9,n0,n1,n2,n3,n4,b,c,d,f,g,i,k,l,m,n,o,p,q,r,s,t,u,w,x,y,z,A,B,C,D,E,F,G,H,I,J,K,L,M,N,P,Q,R,U,c4,V,W,X,Y,Z,a0,a1,a2,a3,a4,a5,a6,a7,a8,a9,b0,b1,b2,b3,b4,b5,b6,b7,b8,b9,c0,c1,c2,c3]) S =
  (zI (zy Try.prog 30 x1 1 S) (fun v0 S1 => zI (jf Try.prog false 3 v0 S1) (fun v1 S2 => zI (wu Try.prog BinOp.lss 3 v1 (Value.int IntKind.i64 0) S2) (fun v2 S3 => gdK (dem v2) false (zy Try.prog 30 x1 1) S3 (fun v4 S4 => gdK (dem v2) false (jf Try.prog false 3 v4) S4 (fun v5 S5 => gdK (dem v2) false (wu Try.prog BinOp.gtr 3 v5 (Value.int IntKind.i64 6)) S5 (fun v6 S6 => zI (wJ (dem v2) (Value.bool true) v6 S6) (fun v7 S7 => some ([x0,x1,x2,x3,x4,v0,v1,v2,dem v2,v4,v5,v6,v7,c9,d0,d1,d2,d3,d4,d5,d6,d7,d8,d9,f0,f1,f2,f3,f4,f5,f6,f7,f8,f9,g0,g1,g2,g3,g4,g5,g6,g7,g8,g9,i0,i1,i2,i3,i4,i5,i6,i7,i8,i9,j0,j1,j2,j3,j4,j5,c5,j6,j7,j8,j9,k0,k1,k2,k3,k4,k5,k6,k7,k8,k9,l0,l1,l2,l3,l4,l5,l6,l7,l8,l9,m0,m1,m2,m3,m4,m5,m6,m7,m8,m9,n0,n1,n2,n3,n4,b,c,d,f,g,i,k,l,m,n,o,p,q,r,s,t,u,w,x,y,z,A,B,C,D,E,F,G,H,I,J,K,L,M,N,P,Q,R,U,c4,V,W,X,Y,Z,a0,a1,a2,a3,a4,a5,a6,a7,a8,a9,b0,b1,b2,b3,b4,b5,b6,b7,b8,b9,c0,c1,c2,c3], S7)) ()) ()) ()) ()) ()) ()) ()) := by
 refine sD Try.f19 1 0 (fun v0 S1 => ?_)
 refine sD Try.f19 1 1 (fun v1 S2 => ?_)
 refine sD Try.f19 1 2 (fun v2 S3 => ?_)
 refine sP Try.f19 1 3 (v := v2) ?_
 refine sG Try.f19 1 4 (j := 3) (fun v4 S4 => ?_)
 refine sG Try.f19 1 5 (j := 3) (fun v5 S5 => ?_)
 refine sG Try.f19 1 6 (j := 3) (fun v6 S6 => ?_)
 refine sD Try.f19 1 7 (fun v7 S7 => ?_)
 kernel_rfl
theorem zh.r2  : jC Try.prog ⟨false, false, false⟩ (jc Try.prog O) (reg Try.f19 2) (reg Try.f19 2).toList ([x0,x1,x2,x3,x4,x5,x6,x7,x8,x9,c6,c7,c8,c9,d0,d1,d2,d3,d4,d5,d6,d7,d8,d9,f0,f1,f2,f3,f4,f5,f6,f7,f8,f9,g0,g1,g2,g3,g4,g5,g6,g7,g8,g9,i0,i1,i2,i3,i4,i5,i6,i7,i8,i9,j0,j1,j2,j3,j4,j5,c5,j6,j7,j8,j9,k0,k1,k2,k3,k4,k5,k6,k7,k8,k9,l0,l1,l2,l3,l4,l5,l6,l7,l8,l9,m0,m1,m2,m3,m4,m5,m6,m7,m8,m9,n0,n1,n2,n3,n4,b,c,d,f,g,i,k,l,m,n,o,p,q,r,s,t,u,w,x,y,z,A,B,C,D,E,F,G,H,I,J,K,L,M,N,P,Q,R,U,c4,V,W,X,Y,Z,a0,a1,a2,a3,a4,a5,a6,a7,a8,a9,b0,b1,b2,b3,b4,b5,b6,b7,b8,b9,c0,c1,c2,c3]) S =
  ( some ([x0,x1,Value.bool false,x3,x4,x5,x6,x7,x8,x9,c6,c7,c8,c9,d0,d1,d2,d3,d4,d5,d6,d7,d8,d9,f0,f1,f2,f3,f4,f5,f6,f7,f8,f9,g0,g1,g2,g3,g4,g5,g6,g7,g8,g9,i0,i1,i2,i3,i4,i5,i6,i7,i8,i9,j0,j1,j2,j3,j4,j5,c5,j6,j7,j8,j9,k0,k1,k2,k3,k4,k5,k6,k7,k8,k9,l0,l1,l2,l3,l4,l5,l6,l7,l8,l9,m0,m1,m2,m3,m4,m5,m6,m7,m8,m9,n0,n1,n2,n3,n4,b,c,d,f,g,i,k,l,m,n,o,p,q,r,s,t,u,w,x,y,z,A,B,C,D,E,F,G,H,I,J,K,L,M,N,P,Q,R,U,c4,V,W,X,Y,Z,a0,a1,a2,a3,a4,a5,a6,a7,a8,a9,b0,b1,b2,b3,b4,b5,b6,b7,b8,b9,c0,c1,c2,c3], S)) := by
 kernel_rfl
theorem zh.r3  : jC Try.prog ⟨false, false, false⟩ (jc Try.prog O) (reg Try.f19 3) (reg Try.f19 3).toList ([x0,x1,x2,x3,x4,x5,x6,x7,x8,x9,c6,c7,c8,c9,d0,d1,d2,d3,d4,d5,d6,d7,d8,d9,f0,f1,f2,f3,f4,f5,f6,f7,f8,f9,g0,g1,g2,g3,g4,g5,g6,g7,g8,g9,i0,i1,i2,i3,i4,i5,i6,i7,i8,i9,j0,j1,j2,j3,j4,j5,c5,j6,j7,j8,j9,k0,k1,k2,k3,k4,k5,k6,k7,k8,k9,l0,l1,l2,l3,l4,l5,l6,l7,l8,l9,m0,m1,m2,m3,m4,m5,m6,m7,m8,m9,n0,n1,n2,n3,n4,b,c,d,f,g,i,k,l,m,n,o,p,q,r,s,t,u,w,x,y,z,A,B,C,D,E,F,G,H,I,J,K,L,M,N,P,Q,R,U,c4,V,W,X,Y,Z,a0,a1,a2,a3,a4,a5,a6,a7,a8,a9,b0,b1,b2,b3,b4,b5,b6,b7,b8,b9,c0,c1,c2,c3]) S =
  (zI (zy Try.prog 30 x1 0 S) (fun v0 S1 => zI (jf Try.prog false 3 v0 S1) (fun v1 S2 => zI (wu Try.prog BinOp.neq 3 v1 (Value.int IntKind.i64 0) S2) (fun v2 S3 => gdK (dem v2) true (zy Try.prog 30 x1 6) S3 (fun v4 S4 => gdK (dem v2) true (jf Try.prog false 25 v4) S4 (fun v5 S5 => gdK (dem v2) true (yJ Try.prog 25 []) S5 (fun v6 S6 => gdK (dem v2) true (wu Try.prog BinOp.neq 25 v5 v6) S6 (fun v7 S7 => zI (wJ (dem v2) v7 (Value.bool false) S7) (fun v8 S8 => gdK (dem v8) false (zy Try.prog 30 x1 0) S8 (fun n6 S9 => gdK (dem v8) false (jf Try.prog false 3 n6) S9 (fun n7 n9 => gdK (dem v8) false (wu Try.prog BinOp.neq 3 n7 (Value.int IntKind.i64 1)) n9 (fun n5 o0 => gdK (dem v8) false (ret n5) o0 (fun n8 o5 => gdK (dem n8) true (zy Try.prog 30 x1 7) o5 (fun o6 o7 => gdK (dem n8) true (jf Try.prog false 28 o6) o7 (fun o2 o8 => gdK (dem n8) true ((jc Try.prog O) 45 [(dem o2)]) o8 (fun o3 o9 => gdK (dem n8) true (aUn Try.prog UnOp.not o3) o9 (fun o1 p2 => gdK (dem v8) false (wJ (dem n8) o1 (Value.bool false)) p2 (fun p0 q1 => zI (wJ (dem v8) (Value.bool true) p0 q1) (fun o4 q2 => gdK (dem o4) false (zy Try.prog 30 x1 0) q2 (fun p4 q3 => gdK (dem o4) false (jf Try.prog false 3 p4) q3 (fun p5 q4 => gdK (dem o4) false (wu Try.prog BinOp.neq 3 p5 (Value.int IntKind.i64 3)) q4 (fun p6 q5 => gdK (dem o4) false (ret p6) q5 (fun p1 q6 => gdK (dem p1) true (zy Try.prog 30 x1 5) q6 (fun p7 q7 => gdK (dem p1) true (jf Try.prog false 3 p7) q7 (fun p8 q8 => gdK (dem p1) true (wu Try.prog BinOp.neq 3 p8 (Value.int IntKind.i64 0)) q8 (fun p9 q9 => gdK (dem o4) false (wJ (dem p1) p9 (Value.bool false)) q9 (fun q0 s0 => zI (wJ (dem o4) (Value.bool true) q0 s0) (fun s1 s2 => some ([x0,x1,x2,x3,x4,x5,x6,x7,x8,x9,c6,c7,c8,v0,v1,v2,dem v2,v4,v5,v6,v7,v8,dem v8,n6,n7,n5,dem n8,o6,o2,o3,o1,p0,o4,dem o4,p4,p5,p6,dem p1,p7,p8,p9,q0,s1,g9,i0,i1,i2,i3,i4,i5,i6,i7,i8,i9,j0,j1,j2,j3,j4,j5,c5,j6,j7,j8,j9,k0,k1,k2,k3,k4,k5,k6,k7,k8,k9,l0,l1,l2,l3,l4,l5,l6,l7,l8,l9,m0,m1,m2,m3,m4,m5,m6,m7,m8,m9,n0,n1,n2,n3,n4,b,c,d,f,g,i,k,l,m,n,o,p,q,r,s,t,u,w,x,y,z,A,B,C,D,E,F,G,H,I,J,K,L,M,N,P,Q,R,U,c4,V,W,X,Y,Z,a0,a1,a2,a3,a4,a5,a6,a7,a8,a9,b0,b1,b2,b3,b4,b5,b6,b7,b8,b9,c0,c1,c2,c3], s2)) ()) ()) ()) ()) ()) ()) ()) ()) ()) ()) ()) ()) ()) ()) ()) ()) ()) ()) ()) ()) ()) ()) ()) ()) ()) ()) ()) := by
 refine sD Try.f19 3 0 (fun v0 S1 => ?_)
 refine sD Try.f19 3 1 (fun v1 S2 => ?_)
 refine sD Try.f19 3 2 (fun v2 S3 => ?_)
 refine sP Try.f19 3 3 (v := v2) ?_
 refine sG Try.f19 3 4 (j := 3) (fun v4 S4 => ?_)
 refine sG Try.f19 3 5 (j := 3) (fun v5 S5 => ?_)
 refine sG Try.f19 3 6 (j := 3) (fun v6 S6 => ?_)
 refine sG Try.f19 3 7 (j := 3) (fun v7 S7 => ?_)
 refine sD Try.f19 3 8 (fun v8 S8 => ?_)
 refine sP Try.f19 3 9 (v := v8) ?_
 refine sG Try.f19 3 10 (j := 9) (fun n6 S9 => ?_)
 refine sG Try.f19 3 11 (j := 9) (fun n7 n9 => ?_)
 refine sG Try.f19 3 12 (j := 9) (fun n5 o0 => ?_)
 refine sG Try.f19 3 13 (j := 9) (fun n8 o5 => ?_)
 refine sG Try.f19 3 14 (j := 13) (fun o6 o7 => ?_)
 refine sG Try.f19 3 15 (j := 13) (fun o2 o8 => ?_)
 refine sG Try.f19 3 16 (j := 13) (fun o3 o9 => ?_)
 refine sG Try.f19 3 17 (j := 13) (fun o1 p2 => ?_)
 refine sG Try.f19 3 18 (j := 9) (fun p0 q1 => ?_)
 refine sD Try.f19 3 19 (fun o4 q2 => ?_)
 refine sP Try.f19 3 20 (v := o4) ?_
 refine sG Try.f19 3 21 (j := 20) (fun p4 q3 => ?_)
 refine sG Try.f19 3 22 (j := 20) (fun p5 q4 => ?_)
 refine sG Try.f19 3 23 (j := 20) (fun p6 q5 => ?_)
 refine sG Try.f19 3 24 (j := 20) (fun p1 q6 => ?_)
 refine sG Try.f19 3 25 (j := 24) (fun p7 q7 => ?_)
 refine sG Try.f19 3 26 (j := 24) (fun p8 q8 => ?_)
 refine sG Try.f19 3 27 (j := 24) (fun p9 q9 => ?_)
 refine sG Try.f19 3 28 (j := 20) (fun q0 s0 => ?_)
 refine sD Try.f19 3 29 (fun s1 s2 => ?_)
 kernel_rfl
theorem zh.r4  : jC Try.prog ⟨false, false, false⟩ (jc Try.prog O) (reg Try.f19 4) (reg Try.f19 4).toList ([x0,x1,x2,x3,x4,x5,x6,x7,x8,x9,c6,c7,c8,c9,d0,d1,d2,d3,d4,d5,d6,d7,d8,d9,f0,f1,f2,f3,f4,f5,f6,f7,f8,f9,g0,g1,g2,g3,g4,g5,g6,g7,g8,g9,i0,i1,i2,i3,i4,i5,i6,i7,i8,i9,j0,j1,j2,j3,j4,j5,c5,j6,j7,j8,j9,k0,k1,k2,k3,k4,k5,k6,k7,k8,k9,l0,l1,l2,l3,l4,l5,l6,l7,l8,l9,m0,m1,m2,m3,m4,m5,m6,m7,m8,m9,n0,n1,n2,n3,n4,b,c,d,f,g,i,k,l,m,n,o,p,q,r,s,t,u,w,x,y,z,A,B,C,D,E,F,G,H,I,J,K,L,M,N,P,Q,R,U,c4,V,W,X,Y,Z,a0,a1,a2,a3,a4,a5,a6,a7,a8,a9,b0,b1,b2,b3,b4,b5,b6,b7,b8,b9,c0,c1,c2,c3]) S =
  ( some ([x0,x1,Value.bool false,x3,x4,x5,x6,x7,x8,x9,c6,c7,c8,c9,d0,d1,d2,d3,d4,d5,d6,d7,d8,d9,f0,f1,f2,f3,f4,f5,f6,f7,f8,f9,g0,g1,g2,g3,g4,g5,g6,g7,g8,g9,i0,i1,i2,i3,i4,i5,i6,i7,i8,i9,j0,j1,j2,j3,j4,j5,c5,j6,j7,j8,j9,k0,k1,k2,k3,k4,k5,k6,k7,k8,k9,l0,l1,l2,l3,l4,l5,l6,l7,l8,l9,m0,m1,m2,m3,m4,m5,m6,m7,m8,m9,n0,n1,n2,n3,n4,b,c,d,f,g,i,k,l,m,n,o,p,q,r,s,t,u,w,x,y,z,A,B,C,D,E,F,G,H,I,J,K,L,M,N,P,Q,R,U,c4,V,W,X,Y,Z,a0,a1,a2,a3,a4,a5,a6,a7,a8,a9,b0,b1,b2,b3,b4,b5,b6,b7,b8,b9,c0,c1,c2,c3], S)) := by
 kernel_rfl
theorem zh.r5  : jC Try.prog ⟨false, false, false⟩ (jc Try.prog O) (reg Try.f19 5) (reg Try.f19 5).toList ([x0,x1,x2,x3,x4,x5,x6,x7,x8,x9,c6,c7,c8,c9,d0,d1,d2,d3,d4,d5,d6,d7,d8,d9,f0,f1,f2,f3,f4,f5,f6,f7,f8,f9,g0,g1,g2,g3,g4,g5,g6,g7,g8,g9,i0,i1,i2,i3,i4,i5,i6,i7,i8,i9,j0,j1,j2,j3,j4,j5,c5,j6,j7,j8,j9,k0,k1,k2,k3,k4,k5,k6,k7,k8,k9,l0,l1,l2,l3,l4,l5,l6,l7,l8,l9,m0,m1,m2,m3,m4,m5,m6,m7,m8,m9,n0,n1,n2,n3,n4,b,c,d,f,g,i,k,l,m,n,o,p,q,r,s,t,u,w,x,y,z,A,B,C,D,E,F,G,H,I,J,K,L,M,N,P,Q,R,U,c4,V,W,X,Y,Z,a0,a1,a2,a3,a4,a5,a6,a7,a8,a9,b0,b1,b2,b3,b4,b5,b6,b7,b8,b9,c0,c1,c2,c3]) S =
  (zI (zy Try.prog 30 x1 3 S) (fun v0 S1 => zI (jf Try.prog false 3 v0 S1) (fun v1 S2 => zI (wu Try.prog BinOp.geq 3 v1 (Value.int IntKind.i64 0) S2) (fun v2 S3 => gdK (dem v2) true (zy Try.prog 30 x1 3) S3 (fun v4 S4 => gdK (dem v2) true (jf Try.prog false 3 v4) S4 (fun v5 S5 => gdK (dem v2) true (wu Try.prog BinOp.leq 3 v5 (Value.int IntKind.i64 1000)) S5 (fun v6 S6 => zI (wJ (dem v2) v6 (Value.bool false) S6) (fun v7 S7 => some ([x0,x1,x2,v7,x4,x5,x6,x7,x8,x9,c6,c7,c8,c9,d0,d1,d2,d3,d4,d5,d6,d7,d8,d9,f0,f1,f2,f3,f4,f5,f6,f7,f8,f9,g0,g1,g2,g3,g4,g5,g6,g7,g8,v0,v1,v2,dem v2,v4,v5,v6,dem v7,i7,i8,i9,j0,j1,j2,j3,j4,j5,c5,j6,j7,j8,j9,k0,k1,k2,k3,k4,k5,k6,k7,k8,k9,l0,l1,l2,l3,l4,l5,l6,l7,l8,l9,m0,m1,m2,m3,m4,m5,m6,m7,m8,m9,n0,n1,n2,n3,n4,b,c,d,f,g,i,k,l,m,n,o,p,q,r,s,t,u,w,x,y,z,A,B,C,D,E,F,G,H,I,J,K,L,M,N,P,Q,R,U,c4,V,W,X,Y,Z,a0,a1,a2,a3,a4,a5,a6,a7,a8,a9,b0,b1,b2,b3,b4,b5,b6,b7,b8,b9,c0,c1,c2,c3], S7)) ()) ()) ()) ()) ()) ()) ()) := by
 refine sD Try.f19 5 0 (fun v0 S1 => ?_)
 refine sD Try.f19 5 1 (fun v1 S2 => ?_)
 refine sD Try.f19 5 2 (fun v2 S3 => ?_)
 refine sP Try.f19 5 3 (v := v2) ?_
 refine sG Try.f19 5 4 (j := 3) (fun v4 S4 => ?_)
 refine sG Try.f19 5 5 (j := 3) (fun v5 S5 => ?_)
 refine sG Try.f19 5 6 (j := 3) (fun v6 S6 => ?_)
 refine sD Try.f19 5 7 (fun v7 S7 => ?_)
 refine sP Try.f19 5 8 (v := v7) ?_
 kernel_rfl
theorem zh.r6  : jC Try.prog ⟨false, false, false⟩ (jc Try.prog O) (reg Try.f19 6) (reg Try.f19 6).toList ([x0,x1,x2,x3,x4,x5,x6,x7,x8,x9,c6,c7,c8,c9,d0,d1,d2,d3,d4,d5,d6,d7,d8,d9,f0,f1,f2,f3,f4,f5,f6,f7,f8,f9,g0,g1,g2,g3,g4,g5,g6,g7,g8,g9,i0,i1,i2,i3,i4,i5,i6,i7,i8,i9,j0,j1,j2,j3,j4,j5,c5,j6,j7,j8,j9,k0,k1,k2,k3,k4,k5,k6,k7,k8,k9,l0,l1,l2,l3,l4,l5,l6,l7,l8,l9,m0,m1,m2,m3,m4,m5,m6,m7,m8,m9,n0,n1,n2,n3,n4,b,c,d,f,g,i,k,l,m,n,o,p,q,r,s,t,u,w,x,y,z,A,B,C,D,E,F,G,H,I,J,K,L,M,N,P,Q,R,U,c4,V,W,X,Y,Z,a0,a1,a2,a3,a4,a5,a6,a7,a8,a9,b0,b1,b2,b3,b4,b5,b6,b7,b8,b9,c0,c1,c2,c3]) S =
  (zI (zy Try.prog 30 x1 2 S) (fun v0 S1 => zI (jf Try.prog false 3 v0 S1) (fun v1 S2 => zI (wu Try.prog BinOp.geq 3 v1 (Value.int IntKind.i64 0) S2) (fun v2 S3 => gdK (dem v2) true (zy Try.prog 30 x1 2) S3 (fun v4 S4 => gdK (dem v2) true (jf Try.prog false 3 v4) S4 (fun v5 S5 => gdK (dem v2) true (wu Try.prog BinOp.leq 3 v5 (Value.int IntKind.i64 1000)) S5 (fun v6 S6 => zI (wJ (dem v2) v6 (Value.bool false) S6) (fun v7 S7 => some ([x0,x1,x2,x3,v7,x5,x6,x7,x8,x9,c6,c7,c8,c9,d0,d1,d2,d3,d4,d5,d6,d7,d8,d9,f0,f1,f2,f3,f4,f5,f6,f7,f8,f9,g0,g1,g2,g3,g4,g5,g6,g7,g8,g9,i0,i1,i2,i3,i4,i5,i6,v0,v1,v2,dem v2,v4,v5,v6,dem v7,j5,c5,j6,j7,j8,j9,k0,k1,k2,k3,k4,k5,k6,k7,k8,k9,l0,l1,l2,l3,l4,l5,l6,l7,l8,l9,m0,m1,m2,m3,m4,m5,m6,m7,m8,m9,n0,n1,n2,n3,n4,b,c,d,f,g,i,k,l,m,n,o,p,q,r,s,t,u,w,x,y,z,A,B,C,D,E,F,G,H,I,J,K,L,M,N,P,Q,R,U,c4,V,W,X,Y,Z,a0,a1,a2,a3,a4,a5,a6,a7,a8,a9,b0,b1,b2,b3,b4,b5,b6,b7,b8,b9,c0,c1,c2,c3], S7)) ()) ()) ()) ()) ()) ()) ()) := by
 refine sD Try.f19 6 0 (fun v0 S1 => ?_)
 refine sD Try.f19 6 1 (fun v1 S2 => ?_)
 refine sD Try.f19 6 2 (fun v2 S3 => ?_)
 refine sP Try.f19 6 3 (v := v2) ?_
 refine sG Try.f19 6 4 (j := 3) (fun v4 S4 => ?_)
 refine sG Try.f19 6 5 (j := 3) (fun v5 S5 => ?_)
 refine sG Try.f19 6 6 (j := 3) (fun v6 S6 => ?_)
 refine sD Try.f19 6 7 (fun v7 S7 => ?_)
 refine sP Try.f19 6 8 (v := v7) ?_
 kernel_rfl
theorem zh.r7  : jC Try.prog ⟨false, false, false⟩ (jc Try.prog O) (reg Try.f19 7) (reg Try.f19 7).toList ([x0,x1,x2,x3,x4,x5,x6,x7,x8,x9,c6,c7,c8,c9,d0,d1,d2,d3,d4,d5,d6,d7,d8,d9,f0,f1,f2,f3,f4,f5,f6,f7,f8,f9,g0,g1,g2,g3,g4,g5,g6,g7,g8,g9,i0,i1,i2,i3,i4,i5,i6,i7,i8,i9,j0,j1,j2,j3,j4,j5,c5,j6,j7,j8,j9,k0,k1,k2,k3,k4,k5,k6,k7,k8,k9,l0,l1,l2,l3,l4,l5,l6,l7,l8,l9,m0,m1,m2,m3,m4,m5,m6,m7,m8,m9,n0,n1,n2,n3,n4,b,c,d,f,g,i,k,l,m,n,o,p,q,r,s,t,u,w,x,y,z,A,B,C,D,E,F,G,H,I,J,K,L,M,N,P,Q,R,U,c4,V,W,X,Y,Z,a0,a1,a2,a3,a4,a5,a6,a7,a8,a9,b0,b1,b2,b3,b4,b5,b6,b7,b8,b9,c0,c1,c2,c3]) S =
  (zI (zy Try.prog 30 x1 0 S) (fun v0 S1 => zI (jf Try.prog false 3 v0 S1) (fun v1 S2 => some ([x0,x1,x2,x3,x4,x5,x6,x7,x8,x9,c6,c7,c8,c9,d0,d1,d2,d3,d4,d5,d6,d7,d8,d9,f0,f1,f2,f3,f4,f5,f6,f7,f8,f9,g0,g1,g2,g3,g4,g5,g6,g7,g8,g9,i0,i1,i2,i3,i4,i5,i6,i7,i8,i9,j0,j1,j2,j3,j4,v0,v1,j6,j7,j8,j9,k0,k1,k2,k3,k4,k5,k6,k7,k8,k9,l0,l1,l2,l3,l4,l5,l6,l7,l8,l9,m0,m1,m2,m3,m4,m5,m6,m7,m8,m9,n0,n1,n2,n3,n4,b,c,d,f,g,i,k,l,m,n,o,p,q,r,s,t,u,w,x,y,z,A,B,C,D,E,F,G,H,I,J,K,L,M,N,P,Q,R,U,c4,V,W,X,Y,Z,a0,a1,a2,a3,a4,a5,a6,a7,a8,a9,b0,b1,b2,b3,b4,b5,b6,b7,b8,b9,c0,c1,c2,c3], S2)) ()) ()) := by
 kernel_rfl
theorem zh.r8  : jC Try.prog ⟨false, false, false⟩ (jc Try.prog O) (reg Try.f19 8) (reg Try.f19 8).toList ([x0,x1,x2,x3,x4,x5,x6,x7,x8,x9,c6,c7,c8,c9,d0,d1,d2,d3,d4,d5,d6,d7,d8,d9,f0,f1,f2,f3,f4,f5,f6,f7,f8,f9,g0,g1,g2,g3,g4,g5,g6,g7,g8,g9,i0,i1,i2,i3,i4,i5,i6,i7,i8,i9,j0,j1,j2,j3,j4,j5,c5,j6,j7,j8,j9,k0,k1,k2,k3,k4,k5,k6,k7,k8,k9,l0,l1,l2,l3,l4,l5,l6,l7,l8,l9,m0,m1,m2,m3,m4,m5,m6,m7,m8,m9,n0,n1,n2,n3,n4,b,c,d,f,g,i,k,l,m,n,o,p,q,r,s,t,u,w,x,y,z,A,B,C,D,E,F,G,H,I,J,K,L,M,N,P,Q,R,U,c4,V,W,X,Y,Z,a0,a1,a2,a3,a4,a5,a6,a7,a8,a9,b0,b1,b2,b3,b4,b5,b6,b7,b8,b9,c0,c1,c2,c3]) S =
  (zI (wu Try.prog BinOp.eql 3 c5 (Value.int IntKind.i64 0) S) (fun v0 S1 => some ([x0,x1,x2,x3,x4,x5,x6,x7,x8,x9,c6,c7,c8,c9,d0,d1,d2,d3,d4,d5,d6,d7,d8,d9,f0,f1,f2,f3,f4,f5,f6,f7,f8,f9,g0,g1,g2,g3,g4,g5,g6,g7,g8,g9,i0,i1,i2,i3,i4,i5,i6,i7,i8,i9,j0,j1,j2,j3,j4,j5,c5,v0,dem v0,j8,j9,k0,k1,k2,k3,k4,k5,k6,k7,k8,k9,l0,l1,l2,l3,l4,l5,l6,l7,l8,l9,m0,m1,m2,m3,m4,m5,m6,m7,m8,m9,n0,n1,n2,n3,n4,b,c,d,f,g,i,k,l,m,n,o,p,q,r,s,t,u,w,x,y,z,A,B,C,D,E,F,G,H,I,J,K,L,M,N,P,Q,R,U,c4,V,W,X,Y,Z,a0,a1,a2,a3,a4,a5,a6,a7,a8,a9,b0,b1,b2,b3,b4,b5,b6,b7,b8,b9,c0,c1,c2,c3], S1)) ()) := by
 kernel_rfl
theorem zh.r9  : jC Try.prog ⟨false, false, false⟩ (jc Try.prog O) (reg Try.f19 9) (reg Try.f19 9).toList ([x0,x1,x2,x3,x4,x5,x6,x7,x8,x9,c6,c7,c8,c9,d0,d1,d2,d3,d4,d5,d6,d7,d8,d9,f0,f1,f2,f3,f4,f5,f6,f7,f8,f9,g0,g1,g2,g3,g4,g5,g6,g7,g8,g9,i0,i1,i2,i3,i4,i5,i6,i7,i8,i9,j0,j1,j2,j3,j4,j5,c5,j6,j7,j8,j9,k0,k1,k2,k3,k4,k5,k6,k7,k8,k9,l0,l1,l2,l3,l4,l5,l6,l7,l8,l9,m0,m1,m2,m3,m4,m5,m6,m7,m8,m9,n0,n1,n2,n3,n4,b,c,d,f,g,i,k,l,m,n,o,p,q,r,s,t,u,w,x,y,z,A,B,C,D,E,F,G,H,I,J,K,L,M,N,P,Q,R,U,c4,V,W,X,Y,Z,a0,a1,a2,a3,a4,a5,a6,a7,a8,a9,b0,b1,b2,b3,b4,b5,b6,b7,b8,b9,c0,c1,c2,c3]) S =
  (zI (zy Try.prog 30 x1 2 S) (fun v0 S1 => zI (jf Try.prog false 3 v0 S1) (fun v1 S2 => zI (wu Try.prog BinOp.eql 3 v1 (Value.int IntKind.i64 0) S2) (fun v2 S3 => gdK (dem v2) true (zy Try.prog 30 x1 3) S3 (fun v4 S4 => gdK (dem v2) true (jf Try.prog false 3 v4) S4 (fun v5 S5 => gdK (dem v2) true (wu Try.prog BinOp.eql 3 v5 (Value.int IntKind.i64 0)) S5 (fun v6 S6 => zI (wJ (dem v2) v6 (Value.bool false) S6) (fun v7 S7 => gdK (dem v7) true (zy Try.prog 30 x1 4) S7 (fun v9 S8 => gdK (dem v7) true (jf Try.prog false 3 v9) S8 (fun n6 S9 => gdK (dem v7) true (wu Try.prog BinOp.eql 3 n6 (Value.int IntKind.i64 0)) S9 (fun n7 n9 => zI (wJ (dem v7) n7 (Value.bool false) n9) (fun n5 o0 => gdK (dem n5) true (zy Try.prog 30 x1 6) o0 (fun o6 o5 => gdK (dem n5) true (jf Try.prog false 25 o6) o5 (fun o2 o7 => gdK (dem n5) true ((jc Try.prog O) 46 [(dem o2)]) o7 (fun o3 o8 => zI (wJ (dem n5) o3 (Value.bool false) o8) (fun o1 o9 => some ([x0,x1,o1,x3,x4,x5,x6,x7,x8,x9,c6,c7,c8,c9,d0,d1,d2,d3,d4,d5,d6,d7,d8,d9,f0,f1,f2,f3,f4,f5,f6,f7,f8,f9,g0,g1,g2,g3,g4,g5,g6,g7,g8,g9,i0,i1,i2,i3,i4,i5,i6,i7,i8,i9,j0,j1,j2,j3,j4,j5,c5,j6,j7,v0,v1,v2,dem v2,v4,v5,v6,v7,dem v7,v9,n6,n7,n5,dem n5,o6,o2,o3,dem o1,l6,l7,l8,l9,m0,m1,m2,m3,m4,m5,m6,m7,m8,m9,n0,n1,n2,n3,n4,b,c,d,f,g,i,k,l,m,n,o,p,q,r,s,t,u,w,x,y,z,A,B,C,D,E,F,G,H,I,J,K,L,M,N,P,Q,R,U,c4,V,W,X,Y,Z,a0,a1,a2,a3,a4,a5,a6,a7,a8,a9,b0,b1,b2,b3,b4,b5,b6,b7,b8,b9,c0,c1,c2,c3], o9)) ()) ()) ()) ()) ()) ()) ()) ()) ()) ()) ()) ()) ()) ()) ()) := by
 refine sD Try.f19 9 0 (fun v0 S1 => ?_)
 refine sD Try.f19 9 1 (fun v1 S2 => ?_)
 refine sD Try.f19 9 2 (fun v2 S3 => ?_)
 refine sP Try.f19 9 3 (v := v2) ?_
 refine sG Try.f19 9 4 (j := 3) (fun v4 S4 => ?_)
 refine sG Try.f19 9 5 (j := 3) (fun v5 S5 => ?_)
 refine sG Try.f19 9 6 (j := 3) (fun v6 S6 => ?_)
 refine sD Try.f19 9 7 (fun v7 S7 => ?_)
 refine sP Try.f19 9 8 (v := v7) ?_
 refine sG Try.f19 9 9 (j := 8) (fun v9 S8 => ?_)
 refine sG Try.f19 9 10 (j := 8) (fun n6 S9 => ?_)
 refine sG Try.f19 9 11 (j := 8) (fun n7 n9 => ?_)
 refine sD Try.f19 9 12 (fun n5 o0 => ?_)
 refine sP Try.f19 9 13 (v := n5) ?_
 refine sG Try.f19 9 14 (j := 13) (fun o6 o5 => ?_)
 refine sG Try.f19 9 15 (j := 13) (fun o2 o7 => ?_)
 refine sG Try.f19 9 16 (j := 13) (fun o3 o8 => ?_)
 refine sD Try.f19 9 17 (fun o1 o9 => ?_)
 refine sP Try.f19 9 18 (v := o1) ?_
 kernel_rfl
theorem zh.r10  : jC Try.prog ⟨false, false, false⟩ (jc Try.prog O) (reg Try.f19 10) (reg Try.f19 10).toList ([x0,x1,x2,x3,x4,x5,x6,x7,x8,x9,c6,c7,c8,c9,d0,d1,d2,d3,d4,d5,d6,d7,d8,d9,f0,f1,f2,f3,f4,f5,f6,f7,f8,f9,g0,g1,g2,g3,g4,g5,g6,g7,g8,g9,i0,i1,i2,i3,i4,i5,i6,i7,i8,i9,j0,j1,j2,j3,j4,j5,c5,j6,j7,j8,j9,k0,k1,k2,k3,k4,k5,k6,k7,k8,k9,l0,l1,l2,l3,l4,l5,l6,l7,l8,l9,m0,m1,m2,m3,m4,m5,m6,m7,m8,m9,n0,n1,n2,n3,n4,b,c,d,f,g,i,k,l,m,n,o,p,q,r,s,t,u,w,x,y,z,A,B,C,D,E,F,G,H,I,J,K,L,M,N,P,Q,R,U,c4,V,W,X,Y,Z,a0,a1,a2,a3,a4,a5,a6,a7,a8,a9,b0,b1,b2,b3,b4,b5,b6,b7,b8,b9,c0,c1,c2,c3]) S =
  (zI (wu Try.prog BinOp.eql 3 c5 (Value.int IntKind.i64 1) S) (fun v0 S1 => some ([x0,x1,x2,x3,x4,x5,x6,x7,x8,x9,c6,c7,c8,c9,d0,d1,d2,d3,d4,d5,d6,d7,d8,d9,f0,f1,f2,f3,f4,f5,f6,f7,f8,f9,g0,g1,g2,g3,g4,g5,g6,g7,g8,g9,i0,i1,i2,i3,i4,i5,i6,i7,i8,i9,j0,j1,j2,j3,j4,j5,c5,j6,j7,j8,j9,k0,k1,k2,k3,k4,k5,k6,k7,k8,k9,l0,l1,l2,l3,l4,l5,v0,dem v0,l8,l9,m0,m1,m2,m3,m4,m5,m6,m7,m8,m9,n0,n1,n2,n3,n4,b,c,d,f,g,i,k,l,m,n,o,p,q,r,s,t,u,w,x,y,z,A,B,C,D,E,F,G,H,I,J,K,L,M,N,P,Q,R,U,c4,V,W,X,Y,Z,a0,a1,a2,a3,a4,a5,a6,a7,a8,a9,b0,b1,b2,b3,b4,b5,b6,b7,b8,b9,c0,c1,c2,c3], S1)) ()) := by
 kernel_rfl
theorem zh.r11  : jC Try.prog ⟨false, false, false⟩ (jc Try.prog O) (reg Try.f19 11) (reg Try.f19 11).toList ([x0,x1,x2,x3,x4,x5,x6,x7,x8,x9,c6,c7,c8,c9,d0,d1,d2,d3,d4,d5,d6,d7,d8,d9,f0,f1,f2,f3,f4,f5,f6,f7,f8,f9,g0,g1,g2,g3,g4,g5,g6,g7,g8,g9,i0,i1,i2,i3,i4,i5,i6,i7,i8,i9,j0,j1,j2,j3,j4,j5,c5,j6,j7,j8,j9,k0,k1,k2,k3,k4,k5,k6,k7,k8,k9,l0,l1,l2,l3,l4,l5,l6,l7,l8,l9,m0,m1,m2,m3,m4,m5,m6,m7,m8,m9,n0,n1,n2,n3,n4,b,c,d,f,g,i,k,l,m,n,o,p,q,r,s,t,u,w,x,y,z,A,B,C,D,E,F,G,H,I,J,K,L,M,N,P,Q,R,U,c4,V,W,X,Y,Z,a0,a1,a2,a3,a4,a5,a6,a7,a8,a9,b0,b1,b2,b3,b4,b5,b6,b7,b8,b9,c0,c1,c2,c3]) S =
  (zI (zy Try.prog 30 x1 2 S) (fun v0 S1 => zI (jf Try.prog false 3 v0 S1) (fun v1 S2 => zI (wu Try.prog BinOp.eql 3 v1 (Value.int IntKind.i64 0) S2) (fun v2 S3 => gdK (dem v2) true (zy Try.prog 30 x1 3) S3 (fun v4 S4 => gdK (dem v2) true (jf Try.prog false 3 v4) S4 (fun v5 S5 => gdK (dem v2) true (wu Try.prog BinOp.eql 3 v5 (Value.int IntKind.i64 0)) S5 (fun v6 S6 => zI (wJ (dem v2) v6 (Value.bool false) S6) (fun v7 S7 => gdK (dem v7) true (zy Try.prog 30 x1 4) S7 (fun v9 S8 => gdK (dem v7) true (jf Try.prog false 3 v9) S8 (fun n6 S9 => gdK (dem v7) true (wu Try.prog BinOp.eql 3 n6 (Value.int IntKind.i64 0)) S9 (fun n7 n9 => zI (wJ (dem v7) n7 (Value.bool false) n9) (fun n5 o0 => gdK (dem n5) true (zy Try.prog 30 x1 7) o0 (fun o6 o5 => gdK (dem n5) true (jf Try.prog false 28 o6) o5 (fun o2 o7 => gdK (dem n5) true ((jc Try.prog O) 47 [(dem o2)]) o7 (fun o3 o8 => zI (wJ (dem n5) o3 (Value.bool false) o8) (fun o1 o9 => some ([x0,x1,o1,x3,x4,x5,x6,x7,x8,x9,c6,c7,c8,c9,d0,d1,d2,d3,d4,d5,d6,d7,d8,d9,f0,f1,f2,f3,f4,f5,f6,f7,f8,f9,g0,g1,g2,g3,g4,g5,g6,g7,g8,g9,i0,i1,i2,i3,i4,i5,i6,i7,i8,i9,j0,j1,j2,j3,j4,j5,c5,j6,j7,j8,j9,k0,k1,k2,k3,k4,k5,k6,k7,k8,k9,l0,l1,l2,l3,l4,l5,l6,l7,v0,v1,v2,dem v2,v4,v5,v6,v7,dem v7,v9,n6,n7,n5,dem n5,o6,o2,o3,dem o1,c,d,f,g,i,k,l,m,n,o,p,q,r,s,t,u,w,x,y,z,A,B,C,D,E,F,G,H,I,J,K,L,M,N,P,Q,R,U,c4,V,W,X,Y,Z,a0,a1,a2,a3,a4,a5,a6,a7,a8,a9,b0,b1,b2,b3,b4,b5,b6,b7,b8,b9,c0,c1,c2,c3], o9)) ()) ()) ()) ()) ()) ()) ()) ()) ()) ()) ()) ()) ()) ()) ()) := by
 refine sD Try.f19 11 0 (fun v0 S1 => ?_)
 refine sD Try.f19 11 1 (fun v1 S2 => ?_)
 refine sD Try.f19 11 2 (fun v2 S3 => ?_)
 refine sP Try.f19 11 3 (v := v2) ?_
 refine sG Try.f19 11 4 (j := 3) (fun v4 S4 => ?_)
 refine sG Try.f19 11 5 (j := 3) (fun v5 S5 => ?_)
 refine sG Try.f19 11 6 (j := 3) (fun v6 S6 => ?_)
 refine sD Try.f19 11 7 (fun v7 S7 => ?_)
 refine sP Try.f19 11 8 (v := v7) ?_
 refine sG Try.f19 11 9 (j := 8) (fun v9 S8 => ?_)
 refine sG Try.f19 11 10 (j := 8) (fun n6 S9 => ?_)
 refine sG Try.f19 11 11 (j := 8) (fun n7 n9 => ?_)
 refine sD Try.f19 11 12 (fun n5 o0 => ?_)
 refine sP Try.f19 11 13 (v := n5) ?_
 refine sG Try.f19 11 14 (j := 13) (fun o6 o5 => ?_)
 refine sG Try.f19 11 15 (j := 13) (fun o2 o7 => ?_)
 refine sG Try.f19 11 16 (j := 13) (fun o3 o8 => ?_)
 refine sD Try.f19 11 17 (fun o1 o9 => ?_)
 refine sP Try.f19 11 18 (v := o1) ?_
 kernel_rfl
theorem zh.r12  : jC Try.prog ⟨false, false, false⟩ (jc Try.prog O) (reg Try.f19 12) (reg Try.f19 12).toList ([x0,x1,x2,x3,x4,x5,x6,x7,x8,x9,c6,c7,c8,c9,d0,d1,d2,d3,d4,d5,d6,d7,d8,d9,f0,f1,f2,f3,f4,f5,f6,f7,f8,f9,g0,g1,g2,g3,g4,g5,g6,g7,g8,g9,i0,i1,i2,i3,i4,i5,i6,i7,i8,i9,j0,j1,j2,j3,j4,j5,c5,j6,j7,j8,j9,k0,k1,k2,k3,k4,k5,k6,k7,k8,k9,l0,l1,l2,l3,l4,l5,l6,l7,l8,l9,m0,m1,m2,m3,m4,m5,m6,m7,m8,m9,n0,n1,n2,n3,n4,b,c,d,f,g,i,k,l,m,n,o,p,q,r,s,t,u,w,x,y,z,A,B,C,D,E,F,G,H,I,J,K,L,M,N,P,Q,R,U,c4,V,W,X,Y,Z,a0,a1,a2,a3,a4,a5,a6,a7,a8,a9,b0,b1,b2,b3,b4,b5,b6,b7,b8,b9,c0,c1,c2,c3]) S =
  (zI (wu Try.prog BinOp.eql 3 c5 (Value.int IntKind.i64 2) S) (fun v0 S1 => some ([x0,x1,x2,x3,x4,x5,x6,x7,x8,x9,c6,c7,c8,c9,d0,d1,d2,d3,d4,d5,d6,d7,d8,d9,f0,f1,f2,f3,f4,f5,f6,f7,f8,f9,g0,g1,g2,g3,g4,g5,g6,g7,g8,g9,i0,i1,i2,i3,i4,i5,i6,i7,i8,i9,j0,j1,j2,j3,j4,j5,c5,j6,j7,j8,j9,k0,k1,k2,k3,k4,k5,k6,k7,k8,k9,l0,l1,l2,l3,l4,l5,l6,l7,l8,l9,m0,m1,m2,m3,m4,m5,m6,m7,m8,m9,n0,n1,n2,n3,n4,b,v0,dem v0,f,g,i,k,l,m,n,o,p,q,r,s,t,u,w,x,y,z,A,B,C,D,E,F,G,H,I,J,K,L,M,N,P,Q,R,U,c4,V,W,X,Y,Z,a0,a1,a2,a3,a4,a5,a6,a7,a8,a9,b0,b1,b2,b3,b4,b5,b6,b7,b8,b9,c0,c1,c2,c3], S1)) ()) := by
 kernel_rfl
theorem zh.r13  : jC Try.prog ⟨false, false, false⟩ (jc Try.prog O) (reg Try.f19 13) (reg Try.f19 13).toList ([x0,x1,x2,x3,x4,x5,x6,x7,x8,x9,c6,c7,c8,c9,d0,d1,d2,d3,d4,d5,d6,d7,d8,d9,f0,f1,f2,f3,f4,f5,f6,f7,f8,f9,g0,g1,g2,g3,g4,g5,g6,g7,g8,g9,i0,i1,i2,i3,i4,i5,i6,i7,i8,i9,j0,j1,j2,j3,j4,j5,c5,j6,j7,j8,j9,k0,k1,k2,k3,k4,k5,k6,k7,k8,k9,l0,l1,l2,l3,l4,l5,l6,l7,l8,l9,m0,m1,m2,m3,m4,m5,m6,m7,m8,m9,n0,n1,n2,n3,n4,b,c,d,f,g,i,k,l,m,n,o,p,q,r,s,t,u,w,x,y,z,A,B,C,D,E,F,G,H,I,J,K,L,M,N,P,Q,R,U,c4,V,W,X,Y,Z,a0,a1,a2,a3,a4,a5,a6,a7,a8,a9,b0,b1,b2,b3,b4,b5,b6,b7,b8,b9,c0,c1,c2,c3]) S =
  (zI (zy Try.prog 30 x1 2 S) (fun v0 S1 => zI (jf Try.prog false 3 v0 S1) (fun v1 S2 => zI (wu Try.prog BinOp.eql 3 v1 (Value.int IntKind.i64 0) S2) (fun v2 S3 => gdK (dem v2) true (zy Try.prog 30 x1 3) S3 (fun v4 S4 => gdK (dem v2) true (jf Try.prog false 3 v4) S4 (fun v5 S5 => gdK (dem v2) true (wu Try.prog BinOp.eql 3 v5 (Value.int IntKind.i64 0)) S5 (fun v6 S6 => zI (wJ (dem v2) v6 (Value.bool false) S6) (fun v7 S7 => gdK (dem v7) true (zy Try.prog 30 x1 4) S7 (fun v9 S8 => gdK (dem v7) true (jf Try.prog false 3 v9) S8 (fun n6 S9 => gdK (dem v7) true ((jc Try.prog O) 48 [(dem n6)]) S9 (fun n7 n9 => zI (wJ (dem v7) n7 (Value.bool false) n9) (fun n5 o0 => some ([x0,x1,n5,x3,x4,x5,x6,x7,x8,x9,c6,c7,c8,c9,d0,d1,d2,d3,d4,d5,d6,d7,d8,d9,f0,f1,f2,f3,f4,f5,f6,f7,f8,f9,g0,g1,g2,g3,g4,g5,g6,g7,g8,g9,i0,i1,i2,i3,i4,i5,i6,i7,i8,i9,j0,j1,j2,j3,j4,j5,c5,j6,j7,j8,j9,k0,k1,k2,k3,k4,k5,k6,k7,k8,k9,l0,l1,l2,l3,l4,l5,l6,l7,l8,l9,m0,m1,m2,m3,m4,m5,m6,m7,m8,m9,n0,n1,n2,n3,n4,b,c,d,v0,v1,v2,dem v2,v4,v5,v6,v7,dem v7,v9,n6,n7,dem n5,u,w,x,y,z,A,B,C,D,E,F,G,H,I,J,K,L,M,N,P,Q,R,U,c4,V,W,X,Y,Z,a0,a1,a2,a3,a4,a5,a6,a7,a8,a9,b0,b1,b2,b3,b4,b5,b6,b7,b8,b9,c0,c1,c2,c3], o0)) ()) ()) ()) ()) ()) ()) ()) ()) ()) ()) ()) := by
 refine sD Try.f19 13 0 (fun v0 S1 => ?_)
 refine sD Try.f19 13 1 (fun v1 S2 => ?_)
 refine sD Try.f19 13 2 (fun v2 S3 => ?_)
 refine sP Try.f19 13 3 (v := v2) ?_
 refine sG Try.f19 13 4 (j := 3) (fun v4 S4 => ?_)
 refine sG Try.f19 13 5 (j := 3) (fun v5 S5 => ?_)
 refine sG Try.f19 13 6 (j := 3) (fun v6 S6 => ?_)
 refine sD Try.f19 13 7 (fun v7 S7 => ?_)
 refine sP Try.f19 13 8 (v := v7) ?_
 refine sG Try.f19 13 9 (j := 8) (fun v9 S8 => ?_)
 refine sG Try.f19 13 10 (j := 8) (fun n6 S9 => ?_)
 refine sG Try.f19 13 11 (j := 8) (fun n7 n9 => ?_)
 refine sD Try.f19 13 12 (fun n5 o0 => ?_)
 refine sP Try.f19 13 13 (v := n5) ?_
 kernel_rfl
theorem zh.r14  : jC Try.prog ⟨false, false, false⟩ (jc Try.prog O) (reg Try.f19 14) (reg Try.f19 14).toList ([x0,x1,x2,x3,x4,x5,x6,x7,x8,x9,c6,c7,c8,c9,d0,d1,d2,d3,d4,d5,d6,d7,d8,d9,f0,f1,f2,f3,f4,f5,f6,f7,f8,f9,g0,g1,g2,g3,g4,g5,g6,g7,g8,g9,i0,i1,i2,i3,i4,i5,i6,i7,i8,i9,j0,j1,j2,j3,j4,j5,c5,j6,j7,j8,j9,k0,k1,k2,k3,k4,k5,k6,k7,k8,k9,l0,l1,l2,l3,l4,l5,l6,l7,l8,l9,m0,m1,m2,m3,m4,m5,m6,m7,m8,m9,n0,n1,n2,n3,n4,b,c,d,f,g,i,k,l,m,n,o,p,q,r,s,t,u,w,x,y,z,A,B,C,D,E,F,G,H,I,J,K,L,M,N,P,Q,R,U,c4,V,W,X,Y,Z,a0,a1,a2,a3,a4,a5,a6,a7,a8,a9,b0,b1,b2,b3,b4,b5,b6,b7,b8,b9,c0,c1,c2,c3]) S =
  (zI (wu Try.prog BinOp.eql 3 c5 (Value.int IntKind.i64 3) S) (fun v0 S1 => some ([x0,x1,x2,x3,x4,x5,x6,x7,x8,x9,c6,c7,c8,c9,d0,d1,d2,d3,d4,d5,d6,d7,d8,d9,f0,f1,f2,f3,f4,f5,f6,f7,f8,f9,g0,g1,g2,g3,g4,g5,g6,g7,g8,g9,i0,i1,i2,i3,i4,i5,i6,i7,i8,i9,j0,j1,j2,j3,j4,j5,c5,j6,j7,j8,j9,k0,k1,k2,k3,k4,k5,k6,k7,k8,k9,l0,l1,l2,l3,l4,l5,l6,l7,l8,l9,m0,m1,m2,m3,m4,m5,m6,m7,m8,m9,n0,n1,n2,n3,n4,b,c,d,f,g,i,k,l,m,n,o,p,q,r,s,t,v0,dem v0,x,y,z,A,B,C,D,E,F,G,H,I,J,K,L,M,N,P,Q,R,U,c4,V,W,X,Y,Z,a0,a1,a2,a3,a4,a5,a6,a7,a8,a9,b0,b1,b2,b3,b4,b5,b6,b7,b8,b9,c0,c1,c2,c3], S1)) ()) := by
 kernel_rfl
theorem zh.r15  : jC Try.prog ⟨false, false, false⟩ (jc Try.prog O) (reg Try.f19 15) (reg Try.f19 15).toList ([x0,x1,x2,x3,x4,x5,x6,x7,x8,x9,c6,c7,c8,c9,d0,d1,d2,d3,d4,d5,d6,d7,d8,d9,f0,f1,f2,f3,f4,f5,f6,f7,f8,f9,g0,g1,g2,g3,g4,g5,g6,g7,g8,g9,i0,i1,i2,i3,i4,i5,i6,i7,i8,i9,j0,j1,j2,j3,j4,j5,c5,j6,j7,j8,j9,k0,k1,k2,k3,k4,k5,k6,k7,k8,k9,l0,l1,l2,l3,l4,l5,l6,l7,l8,l9,m0,m1,m2,m3,m4,m5,m6,m7,m8,m9,n0,n1,n2,n3,n4,b,c,d,f,g,i,k,l,m,n,o,p,q,r,s,t,u,w,x,y,z,A,B,C,D,E,F,G,H,I,J,K,L,M,N,P,Q,R,U,c4,V,W,X,Y,Z,a0,a1,a2,a3,a4,a5,a6,a7,a8,a9,b0,b1,b2,b3,b4,b5,b6,b7,b8,b9,c0,c1,c2,c3]) S =
  (gdK (dem x4) true (ret x3) S (fun v2 S1 => zI (wJ (dem x4) (dem v2) (Value.bool false) S1) (fun v3 S2 => gdK (dem v3) true (zy Try.prog 30 x1 4) S2 (fun v5 S3 => gdK (dem v3) true (jf Try.prog false 3 v5) S3 (fun v6 S4 => gdK (dem v3) true ((jc Try.prog O) 48 [(dem v6)]) S4 (fun v7 S5 => zI (wJ (dem v3) v7 (Value.bool false) S5) (fun v8 S6 => gdK (dem v8) true (zy Try.prog 30 x1 5) S6 (fun n6 S7 => gdK (dem v8) true (jf Try.prog false 3 n6) S7 (fun n7 S8 => gdK (dem v8) true (wu Try.prog BinOp.geq 3 n7 (Value.int IntKind.i64 (-1))) S8 (fun n5 S9 => zI (wJ (dem v8) n5 (Value.bool false) S9) (fun n8 n9 => gdK (dem n8) true (zy Try.prog 30 x1 5) n9 (fun o2 o0 => gdK (dem n8) true (jf Try.prog false 3 o2) o0 (fun o3 o5 => gdK (dem n8) true (zy Try.prog 30 x1 3) o5 (fun o1 o7 => gdK (dem n8) true (jf Try.prog false 3 o1) o7 (fun p0 o8 => gdK (dem n8) true (wu Try.prog BinOp.lss 3 o3 p0) o8 (fun o4 o9 => zI (wJ (dem n8) o4 (Value.bool false) o9) (fun p3 p2 => some ([x0,x1,p3,x3,dem x4,x5,x6,x7,x8,x9,c6,c7,c8,c9,d0,d1,d2,d3,d4,d5,d6,d7,d8,d9,f0,f1,f2,f3,f4,f5,f6,f7,f8,f9,g0,g1,g2,g3,g4,g5,g6,g7,g8,g9,i0,i1,i2,i3,i4,i5,i6,i7,i8,i9,j0,j1,j2,j3,j4,j5,c5,j6,j7,j8,j9,k0,k1,k2,k3,k4,k5,k6,k7,k8,k9,l0,l1,l2,l3,l4,l5,l6,l7,l8,l9,m0,m1,m2,m3,m4,m5,m6,m7,m8,m9,n0,n1,n2,n3,n4,b,c,d,f,g,i,k,l,m,n,o,p,q,r,s,t,u,w,x4,dem x4,dem v2,v3,dem v3,v5,v6,v7,v8,dem v8,n6,n7,n5,n8,dem n8,o2,o3,o1,p0,o4,dem p3,c4,V,W,X,Y,Z,a0,a1,a2,a3,a4,a5,a6,a7,a8,a9,b0,b1,b2,b3,b4,b5,b6,b7,b8,b9,c0,c1,c2,c3], p2)) ()) ()) ()) ()) ()) ()) ()) ()) ()) ()) ()) ()) ()) ()) ()) ()) := by
 refine sP Try.f19 15 0 (v := x4) ?_
 refine sP Try.f19 15 1 (v := x4) ?_
 refine sG Try.f19 15 2 (j := 1) (fun v2 S1 => ?_)
 refine sD Try.f19 15 3 (fun v3 S2 => ?_)
 refine sP Try.f19 15 4 (v := v3) ?_
 refine sG Try.f19 15 5 (j := 4) (fun v5 S3 => ?_)
 refine sG Try.f19 15 6 (j := 4) (fun v6 S4 => ?_)
 refine sG Try.f19 15 7 (j := 4) (fun v7 S5 => ?_)
 refine sD Try.f19 15 8 (fun v8 S6 => ?_)
 refine sP Try.f19 15 9 (v := v8) ?_
 refine sG Try.f19 15 10 (j := 9) (fun n6 S7 => ?_)
 refine sG Try.f19 15 11 (j := 9) (fun n7 S8 => ?_)
 refine sG Try.f19 15 12 (j := 9) (fun n5 S9 => ?_)
 refine sD Try.f19 15 13 (fun n8 n9 => ?_)
 refine sP Try.f19 15 14 (v := n8) ?_
 refine sG Try.f19 15 15 (j := 14) (fun o2 o0 => ?_)
 refine sG Try.f19 15 16 (j := 14) (fun o3 o5 => ?_)
 refine sG Try.f19 15 17 (j := 14) (fun o1 o7 => ?_)
 refine sG Try.f19 15 18 (j := 14) (fun p0 o8 => ?_)
 refine sG Try.f19 15 19 (j := 14) (fun o4 o9 => ?_)
 refine sD Try.f19 15 20 (fun p3 p2 => ?_)
 refine sP Try.f19 15 21 (v := p3) ?_
 kernel_rfl
theorem zh.r16  : jC Try.prog ⟨false, false, false⟩ (jc Try.prog O) (reg Try.f19 16) (reg Try.f19 16).toList ([x0,x1,x2,x3,x4,x5,x6,x7,x8,x9,c6,c7,c8,c9,d0,d1,d2,d3,d4,d5,d6,d7,d8,d9,f0,f1,f2,f3,f4,f5,f6,f7,f8,f9,g0,g1,g2,g3,g4,g5,g6,g7,g8,g9,i0,i1,i2,i3,i4,i5,i6,i7,i8,i9,j0,j1,j2,j3,j4,j5,c5,j6,j7,j8,j9,k0,k1,k2,k3,k4,k5,k6,k7,k8,k9,l0,l1,l2,l3,l4,l5,l6,l7,l8,l9,m0,m1,m2,m3,m4,m5,m6,m7,m8,m9,n0,n1,n2,n3,n4,b,c,d,f,g,i,k,l,m,n,o,p,q,r,s,t,u,w,x,y,z,A,B,C,D,E,F,G,H,I,J,K,L,M,N,P,Q,R,U,c4,V,W,X,Y,Z,a0,a1,a2,a3,a4,a5,a6,a7,a8,a9,b0,b1,b2,b3,b4,b5,b6,b7,b8,b9,c0,c1,c2,c3]) S =
  (zI (wu Try.prog BinOp.eql 3 c5 (Value.int IntKind.i64 4) S) (fun v0 S1 => some ([x0,x1,x2,x3,x4,x5,x6,x7,x8,x9,c6,c7,c8,c9,d0,d1,d2,d3,d4,d5,d6,d7,d8,d9,f0,f1,f2,f3,f4,f5,f6,f7,f8,f9,g0,g1,g2,g3,g4,g5,g6,g7,g8,g9,i0,i1,i2,i3,i4,i5,i6,i7,i8,i9,j0,j1,j2,j3,j4,j5,c5,j6,j7,j8,j9,k0,k1,k2,k3,k4,k5,k6,k7,k8,k9,l0,l1,l2,l3,l4,l5,l6,l7,l8,l9,m0,m1,m2,m3,m4,m5,m6,m7,m8,m9,n0,n1,n2,n3,n4,b,c,d,f,g,i,k,l,m,n,o,p,q,r,s,t,u,w,x,y,z,A,B,C,D,E,F,G,H,I,J,K,L,M,N,P,Q,R,U,v0,dem v0,W,X,Y,Z,a0,a1,a2,a3,a4,a5,a6,a7,a8,a9,b0,b1,b2,b3,b4,b5,b6,b7,b8,b9,c0,c1,c2,c3], S1)) ()) := by
 kernel_rfl
theorem zh.r17  : jC Try.prog ⟨false, false, false⟩ (jc Try.prog O) (reg Try.f19 17) (reg Try.f19 17).toList ([x0,x1,x2,x3,x4,x5,x6,x7,x8,x9,c6,c7,c8,c9,d0,d1,d2,d3,d4,d5,d6,d7,d8,d9,f0,f1,f2,f3,f4,f5,f6,f7,f8,f9,g0,g1,g2,g3,g4,g5,g6,g7,g8,g9,i0,i1,i2,i3,i4,i5,i6,i7,i8,i9,j0,j1,j2,j3,j4,j5,c5,j6,j7,j8,j9,k0,k1,k2,k3,k4,k5,k6,k7,k8,k9,l0,l1,l2,l3,l4,l5,l6,l7,l8,l9,m0,m1,m2,m3,m4,m5,m6,m7,m8,m9,n0,n1,n2,n3,n4,b,c,d,f,g,i,k,l,m,n,o,p,q,r,s,t,u,w,x,y,z,A,B,C,D,E,F,G,H,I,J,K,L,M,N,P,Q,R,U,c4,V,W,X,Y,Z,a0,a1,a2,a3,a4,a5,a6,a7,a8,a9,b0,b1,b2,b3,b4,b5,b6,b7,b8,b9,c0,c1,c2,c3]) S =
  (zI (wu Try.prog BinOp.eql 3 c5 (Value.int IntKind.i64 5) S) (fun v0 S1 => some ([x0,x1,x2,x3,x4,x5,x6,x7,x8,x9,c6,c7,c8,c9,d0,d1,d2,d3,d4,d5,d6,d7,d8,d9,f0,f1,f2,f3,f4,f5,f6,f7,f8,f9,g0,g1,g2,g3,g4,g5,g6,g7,g8,g9,i0,i1,i2,i3,i4,i5,i6,i7,i8,i9,j0,j1,j2,j3,j4,j5,c5,j6,j7,j8,j9,k0,k1,k2,k3,k4,k5,k6,k7,k8,k9,l0,l1,l2,l3,l4,l5,l6,l7,l8,l9,m0,m1,m2,m3,m4,m5,m6,m7,m8,m9,n0,n1,n2,n3,n4,b,c,d,f,g,i,k,l,m,n,o,p,q,r,s,t,u,w,x,y,z,A,B,C,D,E,F,G,H,I,J,K,L,M,N,P,Q,R,U,v0,V,dem v0,X,Y,Z,a0,a1,a2,a3,a4,a5,a6,a7,a8,a9,b0,b1,b2,b3,b4,b5,b6,b7,b8,b9,c0,c1,c2,c3], S1)) ()) := by
 kernel_rfl
theorem zh.r18  : jC Try.prog ⟨false, false, false⟩ (jc Try.prog O) (reg Try.f19 18) (reg Try.f19 18).toList ([x0,x1,x2,x3,x4,x5,x6,x7,x8,x9,c6,c7,c8,c9,d0,d1,d2,d3,d4,d5,d6,d7,d8,d9,f0,f1,f2,f3,f4,f5,f6,f7,f8,f9,g0,g1,g2,g3,g4,g5,g6,g7,g8,g9,i0,i1,i2,i3,i4,i5,i6,i7,i8,i9,j0,j1,j2,j3,j4,j5,c5,j6,j7,j8,j9,k0,k1,k2,k3,k4,k5,k6,k7,k8,k9,l0,l1,l2,l3,l4,l5,l6,l7,l8,l9,m0,m1,m2,m3,m4,m5,m6,m7,m8,m9,n0,n1,n2,n3,n4,b,c,d,f,g,i,k,l,m,n,o,p,q,r,s,t,u,w,x,y,z,A,B,C,D,E,F,G,H,I,J,K,L,M,N,P,Q,R,U,c4,V,W,X,Y,Z,a0,a1,a2,a3,a4,a5,a6,a7,a8,a9,b0,b1,b2,b3,b4,b5,b6,b7,b8,b9,c0,c1,c2,c3]) S =
  (gdK (dem x4) true (ret x3) S (fun v2 S1 => zI (wJ (dem x4) (dem v2) (Value.bool false) S1) (fun v3 S2 => gdK (dem v3) true (zy Try.prog 30 x1 4) S2 (fun v5 S3 => gdK (dem v3) true (jf Try.prog false 3 v5) S3 (fun v6 S4 => gdK (dem v3) true (wu Try.prog BinOp.eql 3 v6 (Value.int IntKind.i64 (-1))) S4 (fun v7 S5 => gdK (dem v3) true (ret v7) S5 (fun v8 S6 => gdK (dem v8) false (zy Try.prog 30 x1 4) S6 (fun v9 S7 => gdK (dem v8) false (jf Try.prog false 3 v9) S7 (fun n6 S8 => gdK (dem v8) false ((jc Try.prog O) 48 [(dem n6)]) S8 (fun n7 S9 => gdK (dem v3) true (wJ (dem v8) (Value.bool true) n7) S9 (fun n5 n9 => zI (wJ (dem v3) n5 (Value.bool false) n9) (fun n8 o0 => some ([x0,x1,n8,x3,dem x4,x5,x6,x7,x8,x9,c6,c7,c8,c9,d0,d1,d2,d3,d4,d5,d6,d7,d8,d9,f0,f1,f2,f3,f4,f5,f6,f7,f8,f9,g0,g1,g2,g3,g4,g5,g6,g7,g8,g9,i0,i1,i2,i3,i4,i5,i6,i7,i8,i9,j0,j1,j2,j3,j4,j5,c5,j6,j7,j8,j9,k0,k1,k2,k3,k4,k5,k6,k7,k8,k9,l0,l1,l2,l3,l4,l5,l6,l7,l8,l9,m0,m1,m2,m3,m4,m5,m6,m7,m8,m9,n0,n1,n2,n3,n4,b,c,d,f,g,i,k,l,m,n,o,p,q,r,s,t,u,w,x,y,z,A,B,C,D,E,F,G,H,I,J,K,L,M,N,P,Q,R,U,c4,V,W,x4,dem x4,dem v2,v3,dem v3,v5,v6,v7,dem v8,v9,n6,n7,n5,dem n8,b1,b2,b3,b4,b5,b6,b7,b8,b9,c0,c1,c2,c3], o0)) ()) ()) ()) ()) ()) ()) ()) ()) ()) ()) ()) := by
 refine sP Try.f19 18 0 (v := x4) ?_
 refine sP Try.f19 18 1 (v := x4) ?_
 refine sG Try.f19 18 2 (j := 1) (fun v2 S1 => ?_)
 refine sD Try.f19 18 3 (fun v3 S2 => ?_)
 refine sP Try.f19 18 4 (v := v3) ?_
 refine sG Try.f19 18 5 (j := 4) (fun v5 S3 => ?_)
 refine sG Try.f19 18 6 (j := 4) (fun v6 S4 => ?_)
 refine sG Try.f19 18 7 (j := 4) (fun v7 S5 => ?_)
 refine sG Try.f19 18 8 (j := 4) (fun v8 S6 => ?_)
 refine sG Try.f19 18 9 (j := 8) (fun v9 S7 => ?_)
 refine sG Try.f19 18 10 (j := 8) (fun n6 S8 => ?_)
 refine sG Try.f19 18 11 (j := 8) (fun n7 S9 => ?_)
 refine sG Try.f19 18 12 (j := 4) (fun n5 n9 => ?_)
 refine sD Try.f19 18 13 (fun n8 o0 => ?_)
 refine sP Try.f19 18 14 (v := n8) ?_
 kernel_rfl
theorem zh.r19  : jC Try.prog ⟨false, false, false⟩ (jc Try.prog O) (reg Try.f19 19) (reg Try.f19 19).toList ([x0,x1,x2,x3,x4,x5,x6,x7,x8,x9,c6,c7,c8,c9,d0,d1,d2,d3,d4,d5,d6,d7,d8,d9,f0,f1,f2,f3,f4,f5,f6,f7,f8,f9,g0,g1,g2,g3,g4,g5,g6,g7,g8,g9,i0,i1,i2,i3,i4,i5,i6,i7,i8,i9,j0,j1,j2,j3,j4,j5,c5,j6,j7,j8,j9,k0,k1,k2,k3,k4,k5,k6,k7,k8,k9,l0,l1,l2,l3,l4,l5,l6,l7,l8,l9,m0,m1,m2,m3,m4,m5,m6,m7,m8,m9,n0,n1,n2,n3,n4,b,c,d,f,g,i,k,l,m,n,o,p,q,r,s,t,u,w,x,y,z,A,B,C,D,E,F,G,H,I,J,K,L,M,N,P,Q,R,U,c4,V,W,X,Y,Z,a0,a1,a2,a3,a4,a5,a6,a7,a8,a9,b0,b1,b2,b3,b4,b5,b6,b7,b8,b9,c0,c1,c2,c3]) S =
  (zI (wu Try.prog BinOp.eql 3 c5 (Value.int IntKind.i64 6) S) (fun v0 S1 => some ([x0,x1,x2,x3,x4,x5,x6,x7,x8,x9,c6,c7,c8,c9,d0,d1,d2,d3,d4,d5,d6,d7,d8,d9,f0,f1,f2,f3,f4,f5,f6,f7,f8,f9,g0,g1,g2,g3,g4,g5,g6,g7,g8,g9,i0,i1,i2,i3,i4,i5,i6,i7,i8,i9,j0,j1,j2,j3,j4,j5,c5,j6,j7,j8,j9,k0,k1,k2,k3,k4,k5,k6,k7,k8,k9,l0,l1,l2,l3,l4,l5,l6,l7,l8,l9,m0,m1,m2,m3,m4,m5,m6,m7,m8,m9,n0,n1,n2,n3,n4,b,c,d,f,g,i,k,l,m,n,o,p,q,r,s,t,u,w,x,y,z,A,B,C,D,E,F,G,H,I,J,K,L,M,N,P,Q,R,U,c4,V,W,X,Y,Z,a0,a1,a2,a3,a4,a5,a6,a7,a8,a9,b0,v0,dem v0,b3,b4,b5,b6,b7,b8,b9,c0,c1,c2,c3], S1)) ()) := by
 kernel_rfl
theorem zh.r20  : jC Try.prog ⟨false, false, false⟩ (jc Try.prog O) (reg Try.f19 20) (reg Try.f19 20).toList ([x0,x1,x2,x3,x4,x5,x6,x7,x8,x9,c6,c7,c8,c9,d0,d1,d2,d3,d4,d5,d6,d7,d8,d9,f0,f1,f2,f3,f4,f5,f6,f7,f8,f9,g0,g1,g2,g3,g4,g5,g6,g7,g8,g9,i0,i1,i2,i3,i4,i5,i6,i7,i8,i9,j0,j1,j2,j3,j4,j5,c5,j6,j7,j8,j9,k0,k1,k2,k3,k4,k5,k6,k7,k8,k9,l0,l1,l2,l3,l4,l5,l6,l7,l8,l9,m0,m1,m2,m3,m4,m5,m6,m7,m8,m9,n0,n1,n2,n3,n4,b,c,d,f,g,i,k,l,m,n,o,p,q,r,s,t,u,w,x,y,z,A,B,C,D,E,F,G,H,I,J,K,L,M,N,P,Q,R,U,c4,V,W,X,Y,Z,a0,a1,a2,a3,a4,a5,a6,a7,a8,a9,b0,b1,b2,b3,b4,b5,b6,b7,b8,b9,c0,c1,c2,c3]) S =
  (gdK (dem x4) true (zy Try.prog 30 x1 3) S (fun v2 S1 => gdK (dem x4) true (jf Try.prog false 3 v2) S1 (fun v3 S2 => gdK (dem x4) true (wu Try.prog BinOp.eql 3 v3 (Value.int IntKind.i64 0)) S2 (fun v4 S3 => zI (wJ (dem x4) v4 (Value.bool false) S3) (fun v5 S4 => gdK (dem v5) true (zy Try.prog 30 x1 4) S4 (fun v7 S5 => gdK (dem v5) true (jf Try.prog false 3 v7) S5 (fun v8 S6 => gdK (dem v5) true ((jc Try.prog O) 48 [(dem v8)]) S6 (fun v9 S7 => zI (wJ (dem v5) v9 (Value.bool false) S7) (fun n6 S8 => some ([x0,x1,n6,x3,dem x4,x5,x6,x7,x8,x9,c6,c7,c8,c9,d0,d1,d2,d3,d4,d5,d6,d7,d8,d9,f0,f1,f2,f3,f4,f5,f6,f7,f8,f9,g0,g1,g2,g3,g4,g5,g6,g7,g8,g9,i0,i1,i2,i3,i4,i5,i6,i7,i8,i9,j0,j1,j2,j3,j4,j5,c5,j6,j7,j8,j9,k0,k1,k2,k3,k4,k5,k6,k7,k8,k9,l0,l1,l2,l3,l4,l5,l6,l7,l8,l9,m0,m1,m2,m3,m4,m5,m6,m7,m8,m9,n0,n1,n2,n3,n4,b,c,d,f,g,i,k,l,m,n,o,p,q,r,s,t,u,w,x,y,z,A,B,C,D,E,F,G,H,I,J,K,L,M,N,P,Q,R,U,c4,V,W,X,Y,Z,a0,a1,a2,a3,a4,a5,a6,a7,a8,a9,b0,b1,b2,x4,dem x4,v2,v3,v4,v5,dem v5,v7,v8,v9,dem n6], S8)) ()) ()) ()) ()) ()) ()) ()) ()) := by
 refine sP Try.f19 20 0 (v := x4) ?_
 refine sP Try.f19 20 1 (v := x4) ?_
 refine sG Try.f19 20 2 (j := 1) (fun v2 S1 => ?_)
 refine sG Try.f19 20 3 (j := 1) (fun v3 S2 => ?_)
 refine sG Try.f19 20 4 (j := 1) (fun v4 S3 => ?_)
 refine sD Try.f19 20 5 (fun v5 S4 => ?_)
 refine sP Try.f19 20 6 (v := v5) ?_
 refine sG Try.f19 20 7 (j := 6) (fun v7 S5 => ?_)
 refine sG Try.f19 20 8 (j := 6) (fun v8 S6 => ?_)
 refine sG Try.f19 20 9 (j := 6) (fun v9 S7 => ?_)
 refine sD Try.f19 20 10 (fun n6 S8 => ?_)
 refine sP Try.f19 20 11 (v := n6) ?_
 kernel_rfl
theorem zh.r21  : jC Try.prog ⟨false, false, false⟩ (jc Try.prog O) (reg Try.f19 21) (reg Try.f19 21).toList ([x0,x1,x2,x3,x4,x5,x6,x7,x8,x9,c6,c7,c8,c9,d0,d1,d2,d3,d4,d5,d6,d7,d8,d9,f0,f1,f2,f3,f4,f5,f6,f7,f8,f9,g0,g1,g2,g3,g4,g5,g6,g7,g8,g9,i0,i1,i2,i3,i4,i5,i6,i7,i8,i9,j0,j1,j2,j3,j4,j5,c5,j6,j7,j8,j9,k0,k1,k2,k3,k4,k5,k6,k7,k8,k9,l0,l1,l2,l3,l4,l5,l6,l7,l8,l9,m0,m1,m2,m3,m4,m5,m6,m7,m8,m9,n0,n1,n2,n3,n4,b,c,d,f,g,i,k,l,m,n,o,p,q,r,s,t,u,w,x,y,z,A,B,C,D,E,F,G,H,I,J,K,L,M,N,P,Q,R,U,c4,V,W,X,Y,Z,a0,a1,a2,a3,a4,a5,a6,a7,a8,a9,b0,b1,b2,b3,b4,b5,b6,b7,b8,b9,c0,c1,c2,c3]) S =
  ( some ([x0,x1,Value.bool false,x3,x4,x5,x6,x7,x8,x9,c6,c7,c8,c9,d0,d1,d2,d3,d4,d5,d6,d7,d8,d9,f0,f1,f2,f3,f4,f5,f6,f7,f8,f9,g0,g1,g2,g3,g4,g5,g6,g7,g8,g9,i0,i1,i2,i3,i4,i5,i6,i7,i8,i9,j0,j1,j2,j3,j4,j5,c5,j6,j7,j8,j9,k0,k1,k2,k3,k4,k5,k6,k7,k8,k9,l0,l1,l2,l3,l4,l5,l6,l7,l8,l9,m0,m1,m2,m3,m4,m5,m6,m7,m8,m9,n0,n1,n2,n3,n4,b,c,d,f,g,i,k,l,m,n,o,p,q,r,s,t,u,w,x,y,z,A,B,C,D,E,F,G,H,I,J,K,L,M,N,P,Q,R,U,c4,V,W,X,Y,Z,a0,a1,a2,a3,a4,a5,a6,a7,a8,a9,b0,b1,b2,b3,b4,b5,b6,b7,b8,b9,c0,c1,c2,c3], S)) := by
 kernel_rfl
theorem zh.rs : type_of% (And.intro @zh.r0 (And.intro @zh.r1 (And.intro @zh.r2 (And.intro @zh.r3 (And.intro @zh.r4 (And.intro @zh.r5 (And.intro @zh.r6 (And.intro @zh.r7 (And.intro @zh.r8 (And.intro @zh.r9 (And.intro @zh.r10 (And.intro @zh.r11 (And.intro @zh.r12 (And.intro @zh.r13 (And.intro @zh.r14 (And.intro @zh.r15 (And.intro @zh.r16 (And.intro @zh.r17 (And.intro @zh.r18 (And.intro @zh.r19 (And.intro @zh.r20 (@zh.r21)))))))))))))))))))))) := And.intro @zh.r0 (And.intro @zh.r1 (And.intro @zh.r2 (And.intro @zh.r3 (And.intro @zh.r4 (And.intro @zh.r5 (And.intro @zh.r6 (And.intro @zh.r7 (And.intro @zh.r8 (And.intro @zh.r9 (And.intro @zh.r10 (And.intro @zh.r11 (And.intro @zh.r12 (And.intro @zh.r13 (And.intro @zh.r14 (And.intro @zh.r15 (And.intro @zh.r16 (And.intro @zh.r17 (And.intro @zh.r18 (And.intro @zh.r19 (And.intro @zh.r20 (@zh.r21)))))))))))))))))))))
theorem zh.runs {x0 : Value} {S S1 : zk} {e : AEx} {T : List Value} (h : zF Try.prog O false zh.code ([x0,undef,undef,undef,undef,undef,undef,undef,undef,undef,undef,undef,undef,undef,undef,undef,undef,undef,undef,undef,undef,undef,undef,undef,undef,undef,undef,undef,undef,undef,undef,undef,undef,undef,undef,undef,undef,undef,undef,undef,undef,undef,undef,undef,undef,undef,undef,undef,undef,undef,undef,undef,undef,undef,undef,undef,undef,undef,undef,undef,undef,undef,undef,undef,undef,undef,undef,undef,undef,undef,undef,undef,undef,undef,undef,undef,undef,undef,undef,undef,undef,undef,undef,undef,undef,undef,undef,undef,undef,undef,undef,undef,undef,undef,undef,undef,undef,undef,undef,undef,undef,undef,undef,undef,undef,undef,undef,undef,undef,undef,undef,undef,undef,undef,undef,undef,undef,undef,undef,undef,undef,undef,undef,undef,undef,undef,undef,undef,undef,undef,undef,undef,undef,undef,undef,undef,undef,undef,undef,undef,undef,undef,undef,undef,undef,undef,undef,undef,undef,undef,undef,undef,undef,undef,undef,undef,undef,undef,undef,undef,undef,undef,undef,undef,undef,undef,undef,undef,undef]) zk.empty = some (e, T, S1)) (he : e = .normal ∨ e = .ret) (hca : [x0].all (jH 16) = true) (hcv : jH 16 (T.getD 2 undef) = true) : jc Try.prog O 19 [x0] S = some (T.getD 2 undef, S) :=
 yh rfl rfl Try.func19 (by decide) zh.body (by exact h) he (yN (a := T.getD 2 undef) ((show zO Try.prog T S1 Try.f19.results.toList = zO Try.prog T S1 [(ResultVar.tmp 2)] from by kernel_rfl).trans (by simp only [zO])) (by kernel_rfl)) hca hcv
end Go.Proofs.Ytbgcphbbchndkaa
namespace Go.Proofs.Ytbgcphbbchndkaa
open Go.Abs
abbrev jy.id : FuncId := 48
noncomputable def jy.code : Code := (Code.seq (Code.region 0 (reg Try.f48 0) false) (Code.seq (Code.region 1 (reg Try.f48 1) false) (Code.seq (Code.region 2 (reg Try.f48 2) false) Code.ret)))
theorem jy.body : Try.f48.body = some jy.code := by kernel_rfl
variable (b r B u w x s y z A f g i k l m n o p : Value) (S : zk)
theorem jy.r0  : jC Try.prog ⟨false, false, false⟩ (jc Try.prog O) (reg Try.f48 0) (reg Try.f48 0).toList ([b,r,B,u,w,x,s,y,z,A,f,g,i,k,l,m,n,o,p]) S =
  ( some ([b,r,Value.bool false,u,w,x,s,y,z,A,f,g,i,k,l,m,n,o,p], S)) := by
 kernel_rfl
theorem jy.r1  : jC Try.prog ⟨false, false, false⟩ (jc Try.prog O) (reg Try.f48 1) (reg Try.f48 1).toList ([b,r,B,u,w,x,s,y,z,A,f,g,i,k,l,m,n,o,p]) S =
  (zI ((jc Try.prog O) 62 [(dem (dem b))] S) (fun c d => zI (zU c 0 d) (fun t C => zI (zU (zS 0 c) 1 C) (fun q D => zI (zU (zS 1 (zS 0 c)) 2 D) (fun E G => zI (zU (zS 2 (zS 1 (zS 0 c))) 3 G) (fun F H => some ([b,r,B,t,q,E,F,zS 3 (zS 2 (zS 1 (zS 0 c))),dem b,dem c,dem t,dem q,dem E,dem F,l,m,n,o,p], H)) ()) ()) ()) ()) ()) := by
 kernel_rfl
theorem jy.r2  : jC Try.prog ⟨false, false, false⟩ (jc Try.prog O) (reg Try.f48 2) (reg Try.f48 2).toList ([b,r,B,u,w,x,s,y,z,A,f,g,i,k,l,m,n,o,p]) S =
  (zI (wu Try.prog BinOp.eql 3 (dem b) (Value.int IntKind.i64 0) S) (fun c d => gdK (dem c) false (ret s) d (fun t C => zI (wJ (dem c) (Value.bool true) (dem t) C) (fun q D => some ([b,r,q,u,w,x,s,y,z,A,f,g,i,k,dem b,c,dem c,dem t,dem q], D)) ()) ()) ()) := by
 refine sP Try.f48 2 0 (v := b) ?_
 refine sD Try.f48 2 1 (fun c d => ?_)
 refine sP Try.f48 2 2 (v := c) ?_
 refine sG Try.f48 2 3 (j := 2) (fun t C => ?_)
 refine sD Try.f48 2 4 (fun q D => ?_)
 refine sP Try.f48 2 5 (v := q) ?_
 kernel_rfl
theorem jy.rs : type_of% (And.intro @jy.r0 (And.intro @jy.r1 (@jy.r2))) := And.intro @jy.r0 (And.intro @jy.r1 (@jy.r2))
theorem jy.runs {b : Value} {S d : zk} {e : AEx} {T : List Value} (h : zF Try.prog O false jy.code ([b,undef,undef,undef,undef,undef,undef,undef,undef,undef,undef,undef,undef,undef,undef,undef,undef,undef,undef]) S = some (e, T, d)) (he : e = .normal ∨ e = .ret) : jc Try.prog O 48 [b] S = some (T.getD 2 undef, d) :=
 yR rfl rfl Try.func48 (by decide) jy.body (by exact h) he (yN (a := T.getD 2 undef) ((show zO Try.prog T d Try.f48.results.toList = zO Try.prog T d [(ResultVar.tmp 2)] from by kernel_rfl).trans (by simp only [zO])) (by kernel_rfl))
end Go.Proofs.Ytbgcphbbchndkaa
namespace Go.Proofs.Ytbgcphbbchndkaa
open Go.Abs
abbrev jA.id : FuncId := 45
noncomputable def jA.code : Code := (Code.seq (Code.region 0 (reg Try.f45 0) false) (Code.seq (Code.region 1 (reg Try.f45 1) false) Code.ret))
theorem jA.body : Try.f45.body = some jA.code := by kernel_rfl
variable (b d k g i j : Value) (S : zk)
theorem jA.r0  : jC Try.prog ⟨false, false, false⟩ (jc Try.prog O) (reg Try.f45 0) (reg Try.f45 0).toList ([b,d,k,g,i,j]) S =
  (zI (J5 (dem b) S) (fun f c => some ([b,f,Value.bool false,g,i,j], c)) ()) := by
 kernel_rfl
theorem jA.r1  : jC Try.prog ⟨false, false, false⟩ (jc Try.prog O) (reg Try.f45 1) (reg Try.f45 1).toList ([b,d,k,g,i,j]) S =
  (zI (jf Try.prog false 28 d S) (fun f c => zI (yJ Try.prog 28 [] c) (fun l n => zI ((jc Try.prog O) 31 [(dem f), (dem l)] n) (fun m o => some ([b,d,m,f,l,dem m], o)) ()) ()) ()) := by
 kernel_rfl
theorem jA.rs : type_of% (And.intro @jA.r0 (@jA.r1)) := And.intro @jA.r0 (@jA.r1)
theorem jA.runs {b : Value} {S c : zk} {e : AEx} {T : List Value} (h : zF Try.prog O false jA.code ([b,undef,undef,undef,undef,undef]) zk.empty = some (e, T, c)) (he : e = .normal ∨ e = .ret) (hca : [b].all (jH 16) = true) (hcv : jH 16 (T.getD 2 undef) = true) : jc Try.prog O 45 [b] S = some (T.getD 2 undef, S) :=
 yh rfl rfl Try.func45 (by decide) jA.body (by exact h) he (yN (a := T.getD 2 undef) ((show zO Try.prog T c Try.f45.results.toList = zO Try.prog T c [(ResultVar.tmp 2)] from by kernel_rfl).trans (by simp only [zO])) (by kernel_rfl)) hca hcv
end Go.Proofs.Ytbgcphbbchndkaa
namespace Go.Proofs.Ytbgcphbbchndkaa
open Go.Abs
abbrev je.id : FuncId := 37
noncomputable def je.code : Code := (Code.seq (Code.region 0 (reg Try.f37 0) false) (Code.seq (Code.region 1 (reg Try.f37 1) false) (Code.seq (Code.seq (Code.region 2 (reg Try.f37 2) false) (Code.block 0 (Code.seq (Code.block 6 (Code.seq (Code.block 5 (Code.seq (Code.block 4 (Code.seq (Code.block 3 (Code.seq (Code.block 2 (Code.seq (Code.block 1 (Code.seq (Code.seq (Code.seq (Code.region 3 (reg Try.f37 3) false) (Code.cond (Operand.tmp 11) (Code.exit 1) Code.skip)) (Code.seq (Code.seq (Code.region 4 (reg Try.f37 4) false) (Code.cond (Operand.tmp 13) (Code.exit 2) Code.skip)) (Code.seq (Code.seq (Code.region 5 (reg Try.f37 5) false) (Code.cond (Operand.tmp 15) (Code.exit 3) Code.skip)) (Code.seq (Code.seq (Code.region 6 (reg Try.f37 6) false) (Code.cond (Operand.tmp 17) (Code.exit 4) Code.skip)) (Code.seq (Code.seq (Code.seq (Code.region 7 (reg Try.f37 7) false) (Code.cond (Operand.tmp 19) Code.skip (Code.region 8 (reg Try.f37 8) false))) (Code.cond (Operand.tmp 19) (Code.exit 5) Code.skip)) (Code.seq (Code.region 9 (reg Try.f37 9) false) (Code.cond (Operand.tmp 22) (Code.exit 6) Code.skip))))))) (Code.exit 0))) (Code.seq (Code.region 10 (reg Try.f37 10) false) (Code.exit 0)))) (Code.seq (Code.region 11 (reg Try.f37 11) false) (Code.exit 0)))) (Code.seq (Code.region 12 (reg Try.f37 12) false) (Code.exit 0)))) (Code.region 13 (reg Try.f37 13) false))) (Code.region 14 (reg Try.f37 14) false))) (Code.seq (Code.region 15 (reg Try.f37 15) true) (Code.exit 0))))) (Code.seq (Code.region 16 (reg Try.f37 16) false) Code.ret))))
theorem je.body : Try.f37.body = some je.code := by kernel_rfl
variable (U P V Q W X Y Z x8 x9 b d f g i j k l m N n o p q r s t u v w x y z A B C D E F G H I J K L M : Value) (S : zk)
theorem je.r0  : jC Try.prog ⟨false, false, false⟩ (jc Try.prog O) (reg Try.f37 0) (reg Try.f37 0).toList ([U,P,V,Q,W,X,Y,Z,x8,x9,b,d,f,g,i,j,k,l,m,N,n,o,p,q,r,s,t,u,v,w,x,y,z,A,B,C,D,E,F,G,H,I,J,K,L,M]) S =
  (zI (J5 (dem U) S) (fun c R => zI (yF Try.prog 30 R) (fun v1 S2 => some ([U,c,v1,Q,W,X,Y,Z,x8,x9,b,d,f,g,i,j,k,l,m,N,n,o,p,q,r,s,t,u,v,w,x,y,z,A,B,C,D,E,F,G,H,I,J,K,L,M], S2)) ()) ()) := by
 kernel_rfl
theorem je.r1  : jC Try.prog ⟨false, false, false⟩ (jc Try.prog O) (reg Try.f37 1) (reg Try.f37 1).toList ([U,P,V,Q,W,X,Y,Z,x8,x9,b,d,f,g,i,j,k,l,m,N,n,o,p,q,r,s,t,u,v,w,x,y,z,A,B,C,D,E,F,G,H,I,J,K,L,M]) S =
  (zI (zy Try.prog 30 P 0 S) (fun c R => zI (jf Try.prog false 3 c R) (fun v1 S2 => zI (zy Try.prog 30 P 1 S2) (fun v2 S3 => zI (jf Try.prog false 3 v2 S3) (fun v3 S4 => zI (yJ Try.prog 30 [(0, (dem v1)), (1, (dem v3))] S4) (fun v4 S5 => zI (yF Try.prog 30 S5) (fun v5 S6 => zI (wH Try.prog 30 v5 (dem v4) S6) (fun v6 S7 => some ([U,P,V,v5,c,v1,v2,v3,v4,x9,b,d,f,g,i,j,k,l,m,N,n,o,p,q,r,s,t,u,v,w,x,y,z,A,B,C,D,E,F,G,H,I,J,K,L,M], S7)) ()) ()) ()) ()) ()) ()) ()) := by
 kernel_rfl
theorem je.r2  : jC Try.prog ⟨false, false, false⟩ (jc Try.prog O) (reg Try.f37 2) (reg Try.f37 2).toList ([U,P,V,Q,W,X,Y,Z,x8,x9,b,d,f,g,i,j,k,l,m,N,n,o,p,q,r,s,t,u,v,w,x,y,z,A,B,C,D,E,F,G,H,I,J,K,L,M]) S =
  (zI (zy Try.prog 30 P 0 S) (fun c R => zI (jf Try.prog false 3 c R) (fun v1 S2 => some ([U,P,V,Q,W,X,Y,Z,x8,c,v1,d,f,g,i,j,k,l,m,N,n,o,p,q,r,s,t,u,v,w,x,y,z,A,B,C,D,E,F,G,H,I,J,K,L,M], S2)) ()) ()) := by
 kernel_rfl
theorem je.r3  : jC Try.prog ⟨false, false, false⟩ (jc Try.prog O) (reg Try.f37 3) (reg Try.f37 3).toList ([U,P,V,Q,W,X,Y,Z,x8,x9,b,d,f,g,i,j,k,l,m,N,n,o,p,q,r,s,t,u,v,w,x,y,z,A,B,C,D,E,F,G,H,I,J,K,L,M]) S =
  (zI (wu Try.prog BinOp.eql 3 b (Value.int IntKind.i64 0) S) (fun c R => some ([U,P,V,Q,W,X,Y,Z,x8,x9,b,c,dem c,g,i,j,k,l,m,N,n,o,p,q,r,s,t,u,v,w,x,y,z,A,B,C,D,E,F,G,H,I,J,K,L,M], R)) ()) := by
 kernel_rfl
theorem je.r4  : jC Try.prog ⟨false, false, false⟩ (jc Try.prog O) (reg Try.f37 4) (reg Try.f37 4).toList ([U,P,V,Q,W,X,Y,Z,x8,x9,b,d,f,g,i,j,k,l,m,N,n,o,p,q,r,s,t,u,v,w,x,y,z,A,B,C,D,E,F,G,H,I,J,K,L,M]) S =
  (zI (wu Try.prog BinOp.eql 3 b (Value.int IntKind.i64 1) S) (fun c R => some ([U,P,V,Q,W,X,Y,Z,x8,x9,b,d,f,c,dem c,j,k,l,m,N,n,o,p,q,r,s,t,u,v,w,x,y,z,A,B,C,D,E,F,G,H,I,J,K,L,M], R)) ()) := by
 kernel_rfl
theorem je.r5  : jC Try.prog ⟨false, false, false⟩ (jc Try.prog O) (reg Try.f37 5) (reg Try.f37 5).toList ([U,P,V,Q,W,X,Y,Z,x8,x9,b,d,f,g,i,j,k,l,m,N,n,o,p,q,r,s,t,u,v,w,x,y,z,A,B,C,D,E,F,G,H,I,J,K,L,M]) S =
  (zI (wu Try.prog BinOp.eql 3 b (Value.int IntKind.i64 2) S) (fun c R => some ([U,P,V,Q,W,X,Y,Z,x8,x9,b,d,f,g,i,c,dem c,l,m,N,n,o,p,q,r,s,t,u,v,w,x,y,z,A,B,C,D,E,F,G,H,I,J,K,L,M], R)) ()) := by
 kernel_rfl
theorem je.r6  : jC Try.prog ⟨false, false, false⟩ (jc Try.prog O) (reg Try.f37 6) (reg Try.f37 6).toList ([U,P,V,Q,W,X,Y,Z,x8,x9,b,d,f,g,i,j,k,l,m,N,n,o,p,q,r,s,t,u,v,w,x,y,z,A,B,C,D,E,F,G,H,I,J,K,L,M]) S =
  (zI (wu Try.prog BinOp.eql 3 b (Value.int IntKind.i64 3) S) (fun c R => some ([U,P,V,Q,W,X,Y,Z,x8,x9,b,d,f,g,i,j,k,c,dem c,N,n,o,p,q,r,s,t,u,v,w,x,y,z,A,B,C,D,E,F,G,H,I,J,K,L,M], R)) ()) := by
 kernel_rfl
theorem je.r7  : jC Try.prog ⟨false, false, false⟩ (jc Try.prog O) (reg Try.f37 7) (reg Try.f37 7).toList ([U,P,V,Q,W,X,Y,Z,x8,x9,b,d,f,g,i,j,k,l,m,N,n,o,p,q,r,s,t,u,v,w,x,y,z,A,B,C,D,E,F,G,H,I,J,K,L,M]) S =
  (zI (wu Try.prog BinOp.eql 3 b (Value.int IntKind.i64 4) S) (fun c R => some ([U,P,V,Q,W,X,Y,Z,x8,x9,b,d,f,g,i,j,k,l,m,c,dem c,o,p,q,r,s,t,u,v,w,x,y,z,A,B,C,D,E,F,G,H,I,J,K,L,M], R)) ()) := by
 kernel_rfl
theorem je.r8  : jC Try.prog ⟨false, false, false⟩ (jc Try.prog O) (reg Try.f37 8) (reg Try.f37 8).toList ([U,P,V,Q,W,X,Y,Z,x8,x9,b,d,f,g,i,j,k,l,m,N,n,o,p,q,r,s,t,u,v,w,x,y,z,A,B,C,D,E,F,G,H,I,J,K,L,M]) S =
  (zI (wu Try.prog BinOp.eql 3 b (Value.int IntKind.i64 5) S) (fun c R => some ([U,P,V,Q,W,X,Y,Z,x8,x9,b,d,f,g,i,j,k,l,m,c,n,dem c,p,q,r,s,t,u,v,w,x,y,z,A,B,C,D,E,F,G,H,I,J,K,L,M], R)) ()) := by
 kernel_rfl
theorem je.r9  : jC Try.prog ⟨false, false, false⟩ (jc Try.prog O) (reg Try.f37 9) (reg Try.f37 9).toList ([U,P,V,Q,W,X,Y,Z,x8,x9,b,d,f,g,i,j,k,l,m,N,n,o,p,q,r,s,t,u,v,w,x,y,z,A,B,C,D,E,F,G,H,I,J,K,L,M]) S =
  (zI (wu Try.prog BinOp.eql 3 b (Value.int IntKind.i64 6) S) (fun c R => some ([U,P,V,Q,W,X,Y,Z,x8,x9,b,d,f,g,i,j,k,l,m,N,n,o,c,dem c,r,s,t,u,v,w,x,y,z,A,B,C,D,E,F,G,H,I,J,K,L,M], R)) ()) := by
 kernel_rfl
theorem je.r10  : jC Try.prog ⟨false, false, false⟩ (jc Try.prog O) (reg Try.f37 10) (reg Try.f37 10).toList ([U,P,V,Q,W,X,Y,Z,x8,x9,b,d,f,g,i,j,k,l,m,N,n,o,p,q,r,s,t,u,v,w,x,y,z,A,B,C,D,E,F,G,H,I,J,K,L,M]) S =
  (zI (zy Try.prog 30 P 6 S) (fun c R => zI (jf Try.prog false 25 c R) (fun v1 S2 => zI (zy Try.prog 30 Q 6 S2) (fun v2 S3 => zI (wH Try.prog 25 v2 (dem v1) S3) (fun v3 S4 => some ([U,P,V,Q,W,X,Y,Z,x8,x9,b,d,f,g,i,j,k,l,m,N,n,o,p,q,c,v1,v2,u,v,w,x,y,z,A,B,C,D,E,F,G,H,I,J,K,L,M], S4)) ()) ()) ()) ()) := by
 kernel_rfl
theorem je.r11  : jC Try.prog ⟨false, false, false⟩ (jc Try.prog O) (reg Try.f37 11) (reg Try.f37 11).toList ([U,P,V,Q,W,X,Y,Z,x8,x9,b,d,f,g,i,j,k,l,m,N,n,o,p,q,r,s,t,u,v,w,x,y,z,A,B,C,D,E,F,G,H,I,J,K,L,M]) S =
  (zI (zy Try.prog 30 P 7 S) (fun c R => zI (jf Try.prog false 28 c R) (fun v1 S2 => zI (zy Try.prog 30 Q 7 S2) (fun v2 S3 => zI (wH Try.prog 28 v2 (dem v1) S3) (fun v3 S4 => some ([U,P,V,Q,W,X,Y,Z,x8,x9,b,d,f,g,i,j,k,l,m,N,n,o,p,q,r,s,t,c,v1,v2,x,y,z,A,B,C,D,E,F,G,H,I,J,K,L,M], S4)) ()) ()) ()) ()) := by
 kernel_rfl
theorem je.r12  : jC Try.prog ⟨false, false, false⟩ (jc Try.prog O) (reg Try.f37 12) (reg Try.f37 12).toList ([U,P,V,Q,W,X,Y,Z,x8,x9,b,d,f,g,i,j,k,l,m,N,n,o,p,q,r,s,t,u,v,w,x,y,z,A,B,C,D,E,F,G,H,I,J,K,L,M]) S =
  (zI (zy Try.prog 30 P 4 S) (fun c R => zI (jf Try.prog false 3 c R) (fun v1 S2 => zI (zy Try.prog 30 Q 4 S2) (fun v2 S3 => zI (wH Try.prog 3 v2 (dem v1) S3) (fun v3 S4 => some ([U,P,V,Q,W,X,Y,Z,x8,x9,b,d,f,g,i,j,k,l,m,N,n,o,p,q,r,s,t,u,v,w,c,v1,v2,A,B,C,D,E,F,G,H,I,J,K,L,M], S4)) ()) ()) ()) ()) := by
 kernel_rfl
theorem je.r13  : jC Try.prog ⟨false, false, false⟩ (jc Try.prog O) (reg Try.f37 13) (reg Try.f37 13).toList ([U,P,V,Q,W,X,Y,Z,x8,x9,b,d,f,g,i,j,k,l,m,N,n,o,p,q,r,s,t,u,v,w,x,y,z,A,B,C,D,E,F,G,H,I,J,K,L,M]) S =
  (zI (zy Try.prog 30 P 5 S) (fun c R => zI (jf Try.prog false 3 c R) (fun v1 S2 => zI (zy Try.prog 30 Q 5 S2) (fun v2 S3 => zI (wH Try.prog 3 v2 (dem v1) S3) (fun v3 S4 => some ([U,P,V,Q,W,X,Y,Z,x8,x9,b,d,f,g,i,j,k,l,m,N,n,o,p,q,r,s,t,u,v,w,x,y,z,c,v1,v2,D,E,F,G,H,I,J,K,L,M], S4)) ()) ()) ()) ()) := by
 kernel_rfl
theorem je.r14  : jC Try.prog ⟨false, false, false⟩ (jc Try.prog O) (reg Try.f37 14) (reg Try.f37 14).toList ([U,P,V,Q,W,X,Y,Z,x8,x9,b,d,f,g,i,j,k,l,m,N,n,o,p,q,r,s,t,u,v,w,x,y,z,A,B,C,D,E,F,G,H,I,J,K,L,M]) S =
  (zI (zy Try.prog 30 P 3 S) (fun c R => zI (jf Try.prog false 3 c R) (fun v1 S2 => zI (zy Try.prog 30 Q 3 S2) (fun v2 S3 => zI (wH Try.prog 3 v2 (dem v1) S3) (fun v3 S4 => some ([U,P,V,Q,W,X,Y,Z,x8,x9,b,d,f,g,i,j,k,l,m,N,n,o,p,q,r,s,t,u,v,w,x,y,z,A,B,C,c,v1,v2,G,H,I,J,K,L,M], S4)) ()) ()) ()) ()) := by
 kernel_rfl
theorem je.d15 : qW Try.prog (reg Try.f37 15) = true := by kernel_rfl
theorem je.ajT : fixed Try.prog (reg Try.f37 15) = false := by kernel_rfl
theorem je.k15 : checked Try.prog (reg Try.f37 15) = [2, 3] := by kernel_rfl
theorem je.g15 : again Try.prog (reg Try.f37 15) = [(3, 5)] := by kernel_rfl
theorem je.r15  : zF Try.prog O false (.region 15 (reg Try.f37 15) true) ([U,P,V,Q,W,X,Y,Z,x8,x9,b,d,f,g,i,j,k,l,m,N,n,o,p,q,r,s,t,u,v,w,x,y,z,A,B,C,D,E,F,G,H,I,J,K,L,M]) S =
  Jm (zI (zy Try.prog 30 P 2 S) (fun c R => zI (jf Try.prog false 3 c R) (fun v1 S2 => zI (zy Try.prog 30 P 4 S2) (fun v2 S3 => okK v2 ( zI (jf Try.prog false 3 v2 S3) (fun v3 S4 => okK v3 ( zI (zy Try.prog 30 Q 2 S4) (fun v4 S5 => zI (wH Try.prog 3 v4 (dem v1) S5) (fun v5 S6 => zI (zy Try.prog 30 Q 4 S6) (fun v6 S7 => zI (wH Try.prog 3 v6 (dem v3) S7) (fun v7 S8 => ckK (qB v2 S3 S6 && (true)) (some ([U,P,V,Q,W,X,Y,Z,x8,x9,b,d,f,g,i,j,k,l,m,N,n,o,p,q,r,s,t,u,v,w,x,y,z,A,B,C,D,E,F,c,v1,v2,v3,v4,v6,M], S8)) ()) ()) ()) ()) ()) ()) ()) ()) ()) ()) ()) := by
 rw [yO je.d15 je.ajT je.k15 je.g15]
 refine congrArg Jm ?_
 refine uD Try.f37 15 0 (pe := undef) (fun c R => ?_)
 refine uD Try.f37 15 1 (pe := c) (fun v1 S2 => ?_)
 refine uDC Try.f37 15 2 (pe := undef) (fun v2 S3 => ?_)
 refine uDC Try.f37 15 3 (pe := v2) (fun v3 S4 => ?_)
 refine uD Try.f37 15 4 (pe := undef) (fun v4 S5 => ?_)
 refine uD Try.f37 15 5 (pe := undef) (fun v5 S6 => ?_)
 refine uD Try.f37 15 6 (pe := undef) (fun v6 S7 => ?_)
 refine uD Try.f37 15 7 (pe := undef) (fun v7 S8 => ?_)
 kernel_rfl
theorem je.r16  : jC Try.prog ⟨false, false, false⟩ (jc Try.prog O) (reg Try.f37 16) (reg Try.f37 16).toList ([U,P,V,Q,W,X,Y,Z,x8,x9,b,d,f,g,i,j,k,l,m,N,n,o,p,q,r,s,t,u,v,w,x,y,z,A,B,C,D,E,F,G,H,I,J,K,L,M]) S =
  (zI (jf Try.prog false 30 Q S) (fun c R => zI (wH Try.prog 30 V (dem c) R) (fun v1 S2 => some ([U,P,V,Q,W,X,Y,Z,x8,x9,b,d,f,g,i,j,k,l,m,N,n,o,p,q,r,s,t,u,v,w,x,y,z,A,B,C,D,E,F,G,H,I,J,K,L,c], S2)) ()) ()) := by
 kernel_rfl
theorem je.rs : type_of% (And.intro @je.r0 (And.intro @je.r1 (And.intro @je.r2 (And.intro @je.r3 (And.intro @je.r4 (And.intro @je.r5 (And.intro @je.r6 (And.intro @je.r7 (And.intro @je.r8 (And.intro @je.r9 (And.intro @je.r10 (And.intro @je.r11 (And.intro @je.r12 (And.intro @je.r13 (And.intro @je.r14 (And.intro @je.r15 (@je.r16))))))))))))))))) := And.intro @je.r0 (And.intro @je.r1 (And.intro @je.r2 (And.intro @je.r3 (And.intro @je.r4 (And.intro @je.r5 (And.intro @je.r6 (And.intro @je.r7 (And.intro @je.r8 (And.intro @je.r9 (And.intro @je.r10 (And.intro @je.r11 (And.intro @je.r12 (And.intro @je.r13 (And.intro @je.r14 (And.intro @je.r15 (@je.r16))))))))))))))))
theorem je.runs {U : Value} {S R : zk} {e : AEx} {T : List Value} (h : zF Try.prog O false je.code ([U,undef,undef,undef,undef,undef,undef,undef,undef,undef,undef,undef,undef,undef,undef,undef,undef,undef,undef,undef,undef,undef,undef,undef,undef,undef,undef,undef,undef,undef,undef,undef,undef,undef,undef,undef,undef,undef,undef,undef,undef,undef,undef,undef,undef,undef]) zk.empty = some (e, T, R)) (he : e = .normal ∨ e = .ret) {w0 : Value} (c0 : jf Try.prog false 30 (T.getD 2 undef) R = some (w0, R)) (hca : [U].all (jH 16) = true) (hcv : jH 16 (w0) = true) : jc Try.prog O 37 [U] S = some (w0, S) :=
 yh rfl rfl Try.func37 (by decide) je.body (by exact h) he (yN (a := w0) ((show zO Try.prog T R Try.f37.results.toList = zO Try.prog T R [(ResultVar.cell 2 30)] from by kernel_rfl).trans (by simp only [zO, c0])) (by kernel_rfl)) hca hcv
end Go.Proofs.Ytbgcphbbchndkaa
namespace Go.Proofs.Ytbgcphbbchndkaa
open Go.Abs
abbrev wI.id : FuncId := 15
noncomputable def wI.code : Code := (Code.seq (Code.region 0 (reg Try.f15 0) false) (Code.seq (Code.region 1 (reg Try.f15 1) false) (Code.seq (Code.region 2 (reg Try.f15 2) false) Code.ret)))
theorem wI.body : Try.f15.body = some wI.code := by kernel_rfl
variable (o p l m x4 g x6 x7 x8 x9 z A B C D E F G H I J K L M N P Q R U V W X Y Z a0 a1 a2 a3 a4 a5 a6 a7 a8 a9 b0 b1 b2 b3 b4 b5 b6 b7 b8 b9 c0 c1 c2 c3 c4 c5 c6 : Value) (S : zk)
theorem wI.r0  : jC Try.prog ⟨false, false, false⟩ (jc Try.prog O) (reg Try.f15 0) (reg Try.f15 0).toList ([o,p,l,m,x4,g,x6,x7,x8,x9,z,A,B,C,D,E,F,G,H,I,J,K,L,M,N,P,Q,R,U,V,W,X,Y,Z,a0,a1,a2,a3,a4,a5,a6,a7,a8,a9,b0,b1,b2,b3,b4,b5,b6,b7,b8,b9,c0,c1,c2,c3,c4,c5,c6]) S =
  (zI (J5 (dem o) S) (fun v0 q => zI (J5 (dem p) q) (fun v1 S2 => some ([o,p,v0,v1,Value.bool false,g,x6,x7,x8,x9,z,A,B,C,D,E,F,G,H,I,J,K,L,M,N,P,Q,R,U,V,W,X,Y,Z,a0,a1,a2,a3,a4,a5,a6,a7,a8,a9,b0,b1,b2,b3,b4,b5,b6,b7,b8,b9,c0,c1,c2,c3,c4,c5,c6], S2)) ()) ()) := by
 kernel_rfl
theorem wI.r1  : jC Try.prog ⟨false, false, false⟩ (jc Try.prog O) (reg Try.f15 1) (reg Try.f15 1).toList ([o,p,l,m,x4,g,x6,x7,x8,x9,z,A,B,C,D,E,F,G,H,I,J,K,L,M,N,P,Q,R,U,V,W,X,Y,Z,a0,a1,a2,a3,a4,a5,a6,a7,a8,a9,b0,b1,b2,b3,b4,b5,b6,b7,b8,b9,c0,c1,c2,c3,c4,c5,c6]) S =
  (zI (zy Try.prog 30 l 0 S) (fun v0 q => zI (jf Try.prog false 3 v0 q) (fun v1 S2 => zI (zy Try.prog 30 m 0 S2) (fun v2 S3 => zI (jf Try.prog false 3 v2 S3) (fun v3 S4 => zI (wu Try.prog BinOp.eql 3 v1 v3 S4) (fun i S5 => gdK (dem i) true (zy Try.prog 30 l 1) S5 (fun v6 S6 => gdK (dem i) true (jf Try.prog false 3 v6) S6 (fun k S7 => gdK (dem i) true (zy Try.prog 30 m 1) S7 (fun v8 S8 => gdK (dem i) true (jf Try.prog false 3 v8) S8 (fun v9 S9 => gdK (dem i) true (wu Try.prog BinOp.eql 3 k v9) S9 (fun r c7 => zI (wJ (dem i) r (Value.bool false) c7) (fun b c8 => gdK (dem b) true (zy Try.prog 30 l 2) c8 (fun s c9 => gdK (dem b) true (jf Try.prog false 3 s) c9 (fun c d0 => gdK (dem b) true (zy Try.prog 30 m 2) d0 (fun f2 d1 => gdK (dem b) true (jf Try.prog false 3 f2) d1 (fun t d2 => gdK (dem b) true (wu Try.prog BinOp.eql 3 c t) d2 (fun u d3 => zI (wJ (dem b) u (Value.bool false) d3) (fun d d4 => gdK (dem d) true (zy Try.prog 30 l 3) d4 (fun w d5 => gdK (dem d) true (jf Try.prog false 3 w) d5 (fun f d6 => gdK (dem d) true (zy Try.prog 30 m 3) d6 (fun f3 d7 => gdK (dem d) true (jf Try.prog false 3 f3) d7 (fun x d8 => gdK (dem d) true (wu Try.prog BinOp.eql 3 f x) d8 (fun y d9 => zI (wJ (dem d) y (Value.bool false) d9) (fun n f0 => some ([o,p,l,m,x4,n,v0,v1,v2,v3,i,dem i,v6,k,v8,v9,r,b,dem b,s,c,f2,t,u,d,dem d,w,f,f3,x,y,dem n,Y,Z,a0,a1,a2,a3,a4,a5,a6,a7,a8,a9,b0,b1,b2,b3,b4,b5,b6,b7,b8,b9,c0,c1,c2,c3,c4,c5,c6], f0)) ()) ()) ()) ()) ()) ()) ()) ()) ()) ()) ()) ()) ()) ()) ()) ()) ()) ()) ()) ()) ()) ()) ()) := by
 refine sD Try.f15 1 0 (fun v0 q => ?_)
 refine sD Try.f15 1 1 (fun v1 S2 => ?_)
 refine sD Try.f15 1 2 (fun v2 S3 => ?_)
 refine sD Try.f15 1 3 (fun v3 S4 => ?_)
 refine sD Try.f15 1 4 (fun i S5 => ?_)
 refine sP Try.f15 1 5 (v := i) ?_
 refine sG Try.f15 1 6 (j := 5) (fun v6 S6 => ?_)
 refine sG Try.f15 1 7 (j := 5) (fun k S7 => ?_)
 refine sG Try.f15 1 8 (j := 5) (fun v8 S8 => ?_)
 refine sG Try.f15 1 9 (j := 5) (fun v9 S9 => ?_)
 refine sG Try.f15 1 10 (j := 5) (fun r c7 => ?_)
 refine sD Try.f15 1 11 (fun b c8 => ?_)
 refine sP Try.f15 1 12 (v := b) ?_
 refine sG Try.f15 1 13 (j := 12) (fun s c9 => ?_)
 refine sG Try.f15 1 14 (j := 12) (fun c d0 => ?_)
 refine sG Try.f15 1 15 (j := 12) (fun f2 d1 => ?_)
 refine sG Try.f15 1 16 (j := 12) (fun t d2 => ?_)
 refine sG Try.f15 1 17 (j := 12) (fun u d3 => ?_)
 refine sD Try.f15 1 18 (fun d d4 => ?_)
 refine sP Try.f15 1 19 (v := d) ?_
 refine sG Try.f15 1 20 (j := 19) (fun w d5 => ?_)
 refine sG Try.f15 1 21 (j := 19) (fun f d6 => ?_)
 refine sG Try.f15 1 22 (j := 19) (fun f3 d7 => ?_)
 refine sG Try.f15 1 23 (j := 19) (fun x d8 => ?_)
 refine sG Try.f15 1 24 (j := 19) (fun y d9 => ?_)
 refine sD Try.f15 1 25 (fun n f0 => ?_)
 refine sP Try.f15 1 26 (v := n) ?_
 kernel_rfl
theorem wI.r2  : jC Try.prog ⟨false, false, false⟩ (jc Try.prog O) (reg Try.f15 2) (reg Try.f15 2).toList ([o,p,l,m,x4,g,x6,x7,x8,x9,z,A,B,C,D,E,F,G,H,I,J,K,L,M,N,P,Q,R,U,V,W,X,Y,Z,a0,a1,a2,a3,a4,a5,a6,a7,a8,a9,b0,b1,b2,b3,b4,b5,b6,b7,b8,b9,c0,c1,c2,c3,c4,c5,c6]) S =
  (gdK (dem g) true (zy Try.prog 30 l 4) S (fun v2 q => gdK (dem g) true (jf Try.prog false 3 v2) q (fun v3 S2 => gdK (dem g) true (zy Try.prog 30 m 4) S2 (fun i S3 => gdK (dem g) true (jf Try.prog false 3 i) S3 (fun v5 S4 => gdK (dem g) true (wu Try.prog BinOp.eql 3 v3 v5) S4 (fun v6 S5 => zI (wJ (dem g) v6 (Value.bool false) S5) (fun k S6 => gdK (dem k) true (zy Try.prog 30 l 5) S6 (fun v9 S7 => gdK (dem k) true (jf Try.prog false 3 v9) S7 (fun r S8 => gdK (dem k) true (zy Try.prog 30 m 5) S8 (fun b S9 => gdK (dem k) true (jf Try.prog false 3 b) S9 (fun f4 c7 => gdK (dem k) true (wu Try.prog BinOp.eql 3 r f4) c7 (fun s c8 => zI (wJ (dem k) s (Value.bool false) c8) (fun c c9 => gdK (dem c) true (zy Try.prog 30 l 6) c9 (fun t d0 => gdK (dem c) true (jf Try.prog false 25 t) d0 (fun u d1 => gdK (dem c) true (zy Try.prog 30 m 6) d1 (fun d d2 => gdK (dem c) true (jf Try.prog false 25 d) d2 (fun f5 d3 => gdK (dem c) true (wu Try.prog BinOp.eql 25 u f5) d3 (fun w d4 => zI (wJ (dem c) w (Value.bool false) d4) (fun f d5 => gdK (dem f) true (zy Try.prog 30 l 7) d5 (fun x d6 => gdK (dem f) true (jf Try.prog false 28 x) d6 (fun y d7 => gdK (dem f) true (zy Try.prog 30 m 7) d7 (fun n d8 => gdK (dem f) true (jf Try.prog false 28 n) d8 (fun f6 d9 => gdK (dem f) true ((jc Try.prog O) 41 [(dem y), (dem f6)]) d9 (fun f7 f0 => zI (wJ (dem f) f7 (Value.bool false) f0) (fun f1 f8 => some ([o,p,l,m,f1,dem g,x6,x7,x8,x9,z,A,B,C,D,E,F,G,H,I,J,K,L,M,N,P,Q,R,U,V,W,X,g,dem g,v2,v3,i,v5,v6,k,dem k,v9,r,b,f4,s,c,dem c,t,u,d,f5,w,f,dem f,x,y,n,f6,f7,dem f1], f8)) ()) ()) ()) ()) ()) ()) ()) ()) ()) ()) ()) ()) ()) ()) ()) ()) ()) ()) ()) ()) ()) ()) ()) ()) := by
 refine sP Try.f15 2 0 (v := g) ?_
 refine sP Try.f15 2 1 (v := g) ?_
 refine sG Try.f15 2 2 (j := 1) (fun v2 q => ?_)
 refine sG Try.f15 2 3 (j := 1) (fun v3 S2 => ?_)
 refine sG Try.f15 2 4 (j := 1) (fun i S3 => ?_)
 refine sG Try.f15 2 5 (j := 1) (fun v5 S4 => ?_)
 refine sG Try.f15 2 6 (j := 1) (fun v6 S5 => ?_)
 refine sD Try.f15 2 7 (fun k S6 => ?_)
 refine sP Try.f15 2 8 (v := k) ?_
 refine sG Try.f15 2 9 (j := 8) (fun v9 S7 => ?_)
 refine sG Try.f15 2 10 (j := 8) (fun r S8 => ?_)
 refine sG Try.f15 2 11 (j := 8) (fun b S9 => ?_)
 refine sG Try.f15 2 12 (j := 8) (fun f4 c7 => ?_)
 refine sG Try.f15 2 13 (j := 8) (fun s c8 => ?_)
 refine sD Try.f15 2 14 (fun c c9 => ?_)
 refine sP Try.f15 2 15 (v := c) ?_
 refine sG Try.f15 2 16 (j := 15) (fun t d0 => ?_)
 refine sG Try.f15 2 17 (j := 15) (fun u d1 => ?_)
 refine sG Try.f15 2 18 (j := 15) (fun d d2 => ?_)
 refine sG Try.f15 2 19 (j := 15) (fun f5 d3 => ?_)
 refine sG Try.f15 2 20 (j := 15) (fun w d4 => ?_)
 refine sD Try.f15 2 21 (fun f d5 => ?_)
 refine sP Try.f15 2 22 (v := f) ?_
 refine sG Try.f15 2 23 (j := 22) (fun x d6 => ?_)
 refine sG Try.f15 2 24 (j := 22) (fun y d7 => ?_)
 refine sG Try.f15 2 25 (j := 22) (fun n d8 => ?_)
 refine sG Try.f15 2 26 (j := 22) (fun f6 d9 => ?_)
 refine sG Try.f15 2 27 (j := 22) (fun f7 f0 => ?_)
 refine sD Try.f15 2 28 (fun f1 f8 => ?_)
 refine sP Try.f15 2 29 (v := f1) ?_
 kernel_rfl
theorem wI.rs : type_of% (And.intro @wI.r0 (And.intro @wI.r1 (@wI.r2))) := And.intro @wI.r0 (And.intro @wI.r1 (@wI.r2))
theorem wI.runs {o p : Value} {S q : zk} {e : AEx} {T : List Value} (h : zF Try.prog O false wI.code ([o,p,undef,undef,undef,undef,undef,undef,undef,undef,undef,undef,undef,undef,undef,undef,undef,undef,undef,undef,undef,undef,undef,undef,undef,undef,undef,undef,undef,undef,undef,undef,undef,undef,undef,undef,undef,undef,undef,undef,undef,undef,undef,undef,undef,undef,undef,undef,undef,undef,undef,undef,undef,undef,undef,undef,undef,undef,undef,undef,undef]) zk.empty = some (e, T, q)) (he : e = .normal ∨ e = .ret) (hca : [o, p].all (jH 16) = true) (hcv : jH 16 (T.getD 4 undef) = true) : jc Try.prog O 15 [o, p] S = some (T.getD 4 undef, S) :=
 yh rfl rfl Try.func15 (by decide) wI.body (by exact h) he (yN (a := T.getD 4 undef) ((show zO Try.prog T q Try.f15.results.toList = zO Try.prog T q [(ResultVar.tmp 4)] from by kernel_rfl).trans (by simp only [zO])) (by kernel_rfl)) hca hcv
end Go.Proofs.Ytbgcphbbchndkaa
namespace Go.Proofs.Ytbgcphbbchndkaa
open Go.Abs
abbrev jV.id : FuncId := 40
noncomputable def jV.code : Code := (Code.seq (Code.region 0 (reg Try.f40 0) false) (Code.seq (Code.region 1 (reg Try.f40 1) false) (Code.seq (Code.region 2 (reg Try.f40 2) false) Code.ret)))
theorem jV.body : Try.f40.body = some jV.code := by kernel_rfl
variable (c f x2 L M N P Q R U k l m n o p q r s t u w x y z A B C D : Value) (S : zk)
theorem jV.r0  : jC Try.prog ⟨false, false, false⟩ (jc Try.prog O) (reg Try.f40 0) (reg Try.f40 0).toList ([c,f,x2,L,M,N,P,Q,R,U,k,l,m,n,o,p,q,r,s,t,u,w,x,y,z,A,B,C,D]) S =
  (zI (J5 (dem c) S) (fun i d => some ([c,i,Value.bool false,L,M,N,P,Q,R,U,k,l,m,n,o,p,q,r,s,t,u,w,x,y,z,A,B,C,D], d)) ()) := by
 kernel_rfl
theorem jV.r1  : jC Try.prog ⟨false, false, false⟩ (jc Try.prog O) (reg Try.f40 1) (reg Try.f40 1).toList ([c,f,x2,L,M,N,P,Q,R,U,k,l,m,n,o,p,q,r,s,t,u,w,x,y,z,A,B,C,D]) S =
  (zI (zy Try.prog 30 f 0 S) (fun i d => zI (jf Try.prog false 3 i d) (fun G V => zI (wu Try.prog BinOp.eql 3 G (Value.int IntKind.i64 4) V) (fun b W => gdK (dem b) false (zy Try.prog 30 f 0) W (fun H X => gdK (dem b) false (jf Try.prog false 3 H) X (fun I Y => gdK (dem b) false (wu Try.prog BinOp.eql 3 I (Value.int IntKind.i64 5)) Y (fun J Z => zI (wJ (dem b) (Value.bool true) J Z) (fun E S7 => some ([c,f,x2,E,i,G,b,dem b,H,I,J,dem E,m,n,o,p,q,r,s,t,u,w,x,y,z,A,B,C,D], S7)) ()) ()) ()) ()) ()) ()) ()) := by
 refine sD Try.f40 1 0 (fun i d => ?_)
 refine sD Try.f40 1 1 (fun G V => ?_)
 refine sD Try.f40 1 2 (fun b W => ?_)
 refine sP Try.f40 1 3 (v := b) ?_
 refine sG Try.f40 1 4 (j := 3) (fun H X => ?_)
 refine sG Try.f40 1 5 (j := 3) (fun I Y => ?_)
 refine sG Try.f40 1 6 (j := 3) (fun J Z => ?_)
 refine sD Try.f40 1 7 (fun E S7 => ?_)
 refine sP Try.f40 1 8 (v := E) ?_
 kernel_rfl
theorem jV.r2  : jC Try.prog ⟨false, false, false⟩ (jc Try.prog O) (reg Try.f40 2) (reg Try.f40 2).toList ([c,f,x2,L,M,N,P,Q,R,U,k,l,m,n,o,p,q,r,s,t,u,w,x,y,z,A,B,C,D]) S =
  (zI (zy Try.prog 30 f 4 S) (fun i d => zI (jf Try.prog false 3 i d) (fun G V => zI (wu Try.prog BinOp.eql 3 G (Value.int IntKind.i64 0) V) (fun b W => gdK (dem b) false (zy Try.prog 30 f 4) W (fun H X => gdK (dem b) false (jf Try.prog false 3 H) X (fun I Y => gdK (dem b) false ((jc Try.prog O) 59 [(dem I)]) Y (fun J Z => gdK (dem b) false (wu Try.prog BinOp.gtr 3 J (Value.int IntKind.i64 0)) Z (fun E S7 => zI (wJ (dem b) (Value.bool true) E S7) (fun F S8 => gdK (dem F) false (ret L) S8 (fun a0 S9 => gdK (dem F) false (ret a0) S9 (fun g a5 => gdK (dem g) true (zy Try.prog 30 f 4) a5 (fun a1 a6 => gdK (dem g) true (jf Try.prog false 3 a1) a6 (fun a2 a7 => gdK (dem g) true (wu Try.prog BinOp.eql 3 a2 (Value.int IntKind.i64 (-1))) a7 (fun a3 a8 => gdK (dem F) false (wJ (dem g) a3 (Value.bool false)) a8 (fun a4 a9 => zI (wJ (dem F) (Value.bool true) a4 a9) (fun K b0 => some ([c,f,K,dem L,M,N,P,Q,R,U,k,l,i,G,b,dem b,H,I,J,E,F,dem F,a0,dem g,a1,a2,a3,a4,dem K], b0)) ()) ()) ()) ()) ()) ()) ()) ()) ()) ()) ()) ()) ()) ()) ()) := by
 refine sD Try.f40 2 0 (fun i d => ?_)
 refine sD Try.f40 2 1 (fun G V => ?_)
 refine sD Try.f40 2 2 (fun b W => ?_)
 refine sP Try.f40 2 3 (v := b) ?_
 refine sG Try.f40 2 4 (j := 3) (fun H X => ?_)
 refine sG Try.f40 2 5 (j := 3) (fun I Y => ?_)
 refine sG Try.f40 2 6 (j := 3) (fun J Z => ?_)
 refine sG Try.f40 2 7 (j := 3) (fun E S7 => ?_)
 refine sD Try.f40 2 8 (fun F S8 => ?_)
 refine sP Try.f40 2 9 (v := F) ?_
 refine sG Try.f40 2 10 (j := 9) (fun a0 S9 => ?_)
 refine sG Try.f40 2 11 (j := 9) (fun g a5 => ?_)
 refine sG Try.f40 2 12 (j := 11) (fun a1 a6 => ?_)
 refine sG Try.f40 2 13 (j := 11) (fun a2 a7 => ?_)
 refine sG Try.f40 2 14 (j := 11) (fun a3 a8 => ?_)
 refine sG Try.f40 2 15 (j := 9) (fun a4 a9 => ?_)
 refine sD Try.f40 2 16 (fun K b0 => ?_)
 refine sP Try.f40 2 17 (v := K) ?_
 kernel_rfl
theorem jV.rs : type_of% (And.intro @jV.r0 (And.intro @jV.r1 (@jV.r2))) := And.intro @jV.r0 (And.intro @jV.r1 (@jV.r2))
theorem jV.runs {c : Value} {S d : zk} {e : AEx} {T : List Value} (h : zF Try.prog O false jV.code ([c,undef,undef,undef,undef,undef,undef,undef,undef,undef,undef,undef,undef,undef,undef,undef,undef,undef,undef,undef,undef,undef,undef,undef,undef,undef,undef,undef,undef]) zk.empty = some (e, T, d)) (he : e = .normal ∨ e = .ret) (hca : [c].all (jH 16) = true) (hcv : jH 16 (T.getD 2 undef) = true) : jc Try.prog O 40 [c] S = some (T.getD 2 undef, S) :=
 yh rfl rfl Try.func40 (by decide) jV.body (by exact h) he (yN (a := T.getD 2 undef) ((show zO Try.prog T d Try.f40.results.toList = zO Try.prog T d [(ResultVar.tmp 2)] from by kernel_rfl).trans (by simp only [zO])) (by kernel_rfl)) hca hcv
end Go.Proofs.Ytbgcphbbchndkaa
namespace Go.Proofs.Ytbgcphbbchndkaa
open Go.Abs
abbrev zW.id : FuncId := 12
noncomputable def zW.code : Code := (Code.seq (Code.region 0 (reg Try.f12 0) false) (Code.seq (Code.seq (Code.region 1 (reg Try.f12 1) false) (Code.cond (Operand.tmp 44) (Code.seq (Code.region 2 (reg Try.f12 2) false) Code.ret) Code.skip)) (Code.seq (Code.region 3 (reg Try.f12 3) false) Code.ret)))
theorem zW.body : Try.f12.body = some zW.code := by kernel_rfl
variable (l m i k x4 x5 x6 x7 x8 x9 n o p q r s t u w x y z A B C D E F G H I J K L M N P Q R U V W X Y Z a0 a1 a2 a3 a4 a5 a6 a7 a8 a9 b0 b1 : Value) (S : zk)
theorem zW.r0  : jC Try.prog ⟨false, false, false⟩ (jc Try.prog O) (reg Try.f12 0) (reg Try.f12 0).toList ([l,m,i,k,x4,x5,x6,x7,x8,x9,n,o,p,q,r,s,t,u,w,x,y,z,A,B,C,D,E,F,G,H,I,J,K,L,M,N,P,Q,R,U,V,W,X,Y,Z,a0,a1,a2,a3,a4,a5,a6,a7,a8,a9,b0,b1]) S =
  (zI (J5 (dem l) S) (fun v0 S1 => zI (J5 (dem m) S1) (fun v1 S2 => some ([l,m,v0,v1,Value.bool false,x5,x6,x7,x8,x9,n,o,p,q,r,s,t,u,w,x,y,z,A,B,C,D,E,F,G,H,I,J,K,L,M,N,P,Q,R,U,V,W,X,Y,Z,a0,a1,a2,a3,a4,a5,a6,a7,a8,a9,b0,b1], S2)) ()) ()) := by
 kernel_rfl
theorem zW.r1  : jC Try.prog ⟨false, false, false⟩ (jc Try.prog O) (reg Try.f12 1) (reg Try.f12 1).toList ([l,m,i,k,x4,x5,x6,x7,x8,x9,n,o,p,q,r,s,t,u,w,x,y,z,A,B,C,D,E,F,G,H,I,J,K,L,M,N,P,Q,R,U,V,W,X,Y,Z,a0,a1,a2,a3,a4,a5,a6,a7,a8,a9,b0,b1]) S =
  (zI (zy Try.prog 30 i 0 S) (fun v0 S1 => zI (jf Try.prog false 3 v0 S1) (fun v1 S2 => zI (zy Try.prog 30 k 0 S2) (fun v2 S3 => zI (jf Try.prog false 3 v2 S3) (fun v3 S4 => zI (wu Try.prog BinOp.neq 3 v1 v3 S4) (fun c S5 => gdK (dem c) false (zy Try.prog 30 i 1) S5 (fun v6 S6 => gdK (dem c) false (jf Try.prog false 3 v6) S6 (fun v7 S7 => gdK (dem c) false (zy Try.prog 30 k 1) S7 (fun v8 S8 => gdK (dem c) false (jf Try.prog false 3 v8) S8 (fun v9 S9 => gdK (dem c) false (wu Try.prog BinOp.neq 3 v7 v9) S9 (fun b2 b3 => zI (wJ (dem c) (Value.bool true) b2 b3) (fun b b4 => gdK (dem b) false (zy Try.prog 30 i 2) b4 (fun b5 d5 => gdK (dem b) false (jf Try.prog false 3 b5) d5 (fun b6 d6 => gdK (dem b) false (zy Try.prog 30 k 2) d6 (fun b7 d7 => gdK (dem b) false (jf Try.prog false 3 b7) d7 (fun b8 d8 => gdK (dem b) false (wu Try.prog BinOp.neq 3 b6 b8) d8 (fun b9 d9 => zI (wJ (dem b) (Value.bool true) b9 d9) (fun d f0 => gdK (dem d) false (zy Try.prog 30 i 3) f0 (fun c0 f1 => gdK (dem d) false (jf Try.prog false 3 c0) f1 (fun c1 f2 => gdK (dem d) false (zy Try.prog 30 k 3) f2 (fun c2 f3 => gdK (dem d) false (jf Try.prog false 3 c2) f3 (fun c3 f4 => gdK (dem d) false (wu Try.prog BinOp.neq 3 c1 c3) f4 (fun c4 f5 => zI (wJ (dem d) (Value.bool true) c4 f5) (fun f f6 => gdK (dem f) false (zy Try.prog 30 i 4) f6 (fun c5 f7 => gdK (dem f) false (jf Try.prog false 3 c5) f7 (fun c6 f8 => gdK (dem f) false (zy Try.prog 30 k 4) f8 (fun c7 f9 => gdK (dem f) false (jf Try.prog false 3 c7) f9 (fun c8 g0 => gdK (dem f) false (wu Try.prog BinOp.neq 3 c6 c8) g0 (fun c9 g1 => zI (wJ (dem f) (Value.bool true) c9 g1) (fun g g2 => gdK (dem g) false (zy Try.prog 30 i 5) g2 (fun d0 g3 => gdK (dem g) false (jf Try.prog false 3 d0) g3 (fun d1 g4 => gdK (dem g) false (zy Try.prog 30 k 5) g4 (fun d2 g5 => gdK (dem g) false (jf Try.prog false 3 d2) g5 (fun d3 g6 => gdK (dem g) false (wu Try.prog BinOp.neq 3 d1 d3) g6 (fun d4 g7 => zI (wJ (dem g) (Value.bool true) d4 g7) (fun g8 g9 => some ([l,m,i,k,x4,v0,v1,v2,v3,c,dem c,v6,v7,v8,v9,b2,b,dem b,b5,b6,b7,b8,b9,d,dem d,c0,c1,c2,c3,c4,f,dem f,c5,c6,c7,c8,c9,g,dem g,d0,d1,d2,d3,d4,g8,a0,a1,a2,a3,a4,a5,a6,a7,a8,a9,b0,b1], g9)) ()) ()) ()) ()) ()) ()) ()) ()) ()) ()) ()) ()) ()) ()) ()) ()) ()) ()) ()) ()) ()) ()) ()) ()) ()) ()) ()) ()) ()) ()) ()) ()) ()) ()) ()) := by
 refine sD Try.f12 1 0 (fun v0 S1 => ?_)
 refine sD Try.f12 1 1 (fun v1 S2 => ?_)
 refine sD Try.f12 1 2 (fun v2 S3 => ?_)
 refine sD Try.f12 1 3 (fun v3 S4 => ?_)
 refine sD Try.f12 1 4 (fun c S5 => ?_)
 refine sP Try.f12 1 5 (v := c) ?_
 refine sG Try.f12 1 6 (j := 5) (fun v6 S6 => ?_)
 refine sG Try.f12 1 7 (j := 5) (fun v7 S7 => ?_)
 refine sG Try.f12 1 8 (j := 5) (fun v8 S8 => ?_)
 refine sG Try.f12 1 9 (j := 5) (fun v9 S9 => ?_)
 refine sG Try.f12 1 10 (j := 5) (fun b2 b3 => ?_)
 refine sD Try.f12 1 11 (fun b b4 => ?_)
 refine sP Try.f12 1 12 (v := b) ?_
 refine sG Try.f12 1 13 (j := 12) (fun b5 d5 => ?_)
 refine sG Try.f12 1 14 (j := 12) (fun b6 d6 => ?_)
 refine sG Try.f12 1 15 (j := 12) (fun b7 d7 => ?_)
 refine sG Try.f12 1 16 (j := 12) (fun b8 d8 => ?_)
 refine sG Try.f12 1 17 (j := 12) (fun b9 d9 => ?_)
 refine sD Try.f12 1 18 (fun d f0 => ?_)
 refine sP Try.f12 1 19 (v := d) ?_
 refine sG Try.f12 1 20 (j := 19) (fun c0 f1 => ?_)
 refine sG Try.f12 1 21 (j := 19) (fun c1 f2 => ?_)
 refine sG Try.f12 1 22 (j := 19) (fun c2 f3 => ?_)
 refine sG Try.f12 1 23 (j := 19) (fun c3 f4 => ?_)
 refine sG Try.f12 1 24 (j := 19) (fun c4 f5 => ?_)
 refine sD Try.f12 1 25 (fun f f6 => ?_)
 refine sP Try.f12 1 26 (v := f) ?_
 refine sG Try.f12 1 27 (j := 26) (fun c5 f7 => ?_)
 refine sG Try.f12 1 28 (j := 26) (fun c6 f8 => ?_)
 refine sG Try.f12 1 29 (j := 26) (fun c7 f9 => ?_)
 refine sG Try.f12 1 30 (j := 26) (fun c8 g0 => ?_)
 refine sG Try.f12 1 31 (j := 26) (fun c9 g1 => ?_)
 refine sD Try.f12 1 32 (fun g g2 => ?_)
 refine sP Try.f12 1 33 (v := g) ?_
 refine sG Try.f12 1 34 (j := 33) (fun d0 g3 => ?_)
 refine sG Try.f12 1 35 (j := 33) (fun d1 g4 => ?_)
 refine sG Try.f12 1 36 (j := 33) (fun d2 g5 => ?_)
 refine sG Try.f12 1 37 (j := 33) (fun d3 g6 => ?_)
 refine sG Try.f12 1 38 (j := 33) (fun d4 g7 => ?_)
 refine sD Try.f12 1 39 (fun g8 g9 => ?_)
 kernel_rfl
theorem zW.r2  : jC Try.prog ⟨false, false, false⟩ (jc Try.prog O) (reg Try.f12 2) (reg Try.f12 2).toList ([l,m,i,k,x4,x5,x6,x7,x8,x9,n,o,p,q,r,s,t,u,w,x,y,z,A,B,C,D,E,F,G,H,I,J,K,L,M,N,P,Q,R,U,V,W,X,Y,Z,a0,a1,a2,a3,a4,a5,a6,a7,a8,a9,b0,b1]) S =
  ( some ([l,m,i,k,Value.bool false,x5,x6,x7,x8,x9,n,o,p,q,r,s,t,u,w,x,y,z,A,B,C,D,E,F,G,H,I,J,K,L,M,N,P,Q,R,U,V,W,X,Y,Z,a0,a1,a2,a3,a4,a5,a6,a7,a8,a9,b0,b1], S)) := by
 kernel_rfl
theorem zW.r3  : jC Try.prog ⟨false, false, false⟩ (jc Try.prog O) (reg Try.f12 3) (reg Try.f12 3).toList ([l,m,i,k,x4,x5,x6,x7,x8,x9,n,o,p,q,r,s,t,u,w,x,y,z,A,B,C,D,E,F,G,H,I,J,K,L,M,N,P,Q,R,U,V,W,X,Y,Z,a0,a1,a2,a3,a4,a5,a6,a7,a8,a9,b0,b1]) S =
  (zI (zy Try.prog 30 i 6 S) (fun v0 S1 => zI (jf Try.prog false 25 v0 S1) (fun v1 S2 => zI (zy Try.prog 30 k 6 S2) (fun v2 S3 => zI (jf Try.prog false 25 v2 S3) (fun v3 S4 => zI (wu Try.prog BinOp.eql 25 v1 v3 S4) (fun c S5 => gdK (dem c) true (zy Try.prog 30 i 7) S5 (fun v6 S6 => gdK (dem c) true (jf Try.prog false 28 v6) S6 (fun v7 S7 => gdK (dem c) true (zy Try.prog 30 k 7) S7 (fun v8 S8 => gdK (dem c) true (jf Try.prog false 28 v8) S8 (fun v9 S9 => gdK (dem c) true ((jc Try.prog O) 31 [(dem v7), (dem v9)]) S9 (fun b2 b3 => zI (wJ (dem c) b2 (Value.bool false) b3) (fun b b4 => some ([l,m,i,k,b,x5,x6,x7,x8,x9,n,o,p,q,r,s,t,u,w,x,y,z,A,B,C,D,E,F,G,H,I,J,K,L,M,N,P,Q,R,U,V,W,X,Y,Z,v0,v1,v2,v3,c,dem c,v6,v7,v8,v9,b2,dem b], b4)) ()) ()) ()) ()) ()) ()) ()) ()) ()) ()) ()) := by
 refine sD Try.f12 3 0 (fun v0 S1 => ?_)
 refine sD Try.f12 3 1 (fun v1 S2 => ?_)
 refine sD Try.f12 3 2 (fun v2 S3 => ?_)
 refine sD Try.f12 3 3 (fun v3 S4 => ?_)
 refine sD Try.f12 3 4 (fun c S5 => ?_)
 refine sP Try.f12 3 5 (v := c) ?_
 refine sG Try.f12 3 6 (j := 5) (fun v6 S6 => ?_)
 refine sG Try.f12 3 7 (j := 5) (fun v7 S7 => ?_)
 refine sG Try.f12 3 8 (j := 5) (fun v8 S8 => ?_)
 refine sG Try.f12 3 9 (j := 5) (fun v9 S9 => ?_)
 refine sG Try.f12 3 10 (j := 5) (fun b2 b3 => ?_)
 refine sD Try.f12 3 11 (fun b b4 => ?_)
 refine sP Try.f12 3 12 (v := b) ?_
 kernel_rfl
theorem zW.rs : type_of% (And.intro @zW.r0 (And.intro @zW.r1 (And.intro @zW.r2 (@zW.r3)))) := And.intro @zW.r0 (And.intro @zW.r1 (And.intro @zW.r2 (@zW.r3)))
theorem zW.runs {l m : Value} {S S1 : zk} {e : AEx} {T : List Value} (h : zF Try.prog O false zW.code ([l,m,undef,undef,undef,undef,undef,undef,undef,undef,undef,undef,undef,undef,undef,undef,undef,undef,undef,undef,undef,undef,undef,undef,undef,undef,undef,undef,undef,undef,undef,undef,undef,undef,undef,undef,undef,undef,undef,undef,undef,undef,undef,undef,undef,undef,undef,undef,undef,undef,undef,undef,undef,undef,undef,undef,undef]) zk.empty = some (e, T, S1)) (he : e = .normal ∨ e = .ret) (hca : [l, m].all (jH 16) = true) (hcv : jH 16 (T.getD 4 undef) = true) : jc Try.prog O 12 [l, m] S = some (T.getD 4 undef, S) :=
 yh rfl rfl Try.func12 (by decide) zW.body (by exact h) he (yN (a := T.getD 4 undef) ((show zO Try.prog T S1 Try.f12.results.toList = zO Try.prog T S1 [(ResultVar.tmp 4)] from by kernel_rfl).trans (by simp only [zO])) (by kernel_rfl)) hca hcv
end Go.Proofs.Ytbgcphbbchndkaa
namespace Go.Proofs.Ytbgcphbbchndkaa
open Go.Abs
abbrev qU.id : FuncId := 27
noncomputable def qU.code : Code := (Code.seq (Code.region 0 (reg Try.f27 0) false) (Code.seq (Code.region 1 (reg Try.f27 1) false) Code.ret))
theorem qU.body : Try.f27.body = some qU.code := by kernel_rfl
variable (b d k f g i j : Value) (S : zk)
theorem qU.r0  : jC Try.prog ⟨false, false, false⟩ (jc Try.prog O) (reg Try.f27 0) (reg Try.f27 0).toList ([b,d,k,f,g,i,j]) S =
  ( some ([b,d,Value.int IntKind.u64 0,f,g,i,j], S)) := by
 kernel_rfl
theorem qU.r1  : jC Try.prog ⟨false, false, false⟩ (jc Try.prog O) (reg Try.f27 1) (reg Try.f27 1).toList ([b,d,k,f,g,i,j]) S =
  (zI (qI Try.prog false false 3 42 (dem b) S) (fun l c => zI (wu Try.prog BinOp.add 42 l (Value.int IntKind.u64 1) c) (fun m o => zI (wu Try.prog BinOp.mul 42 m (Value.int IntKind.u64 11400714819323198485) o) (fun n p => some ([b,d,n,dem b,l,m,dem n], p)) ()) ()) ()) := by
 kernel_rfl
theorem qU.rs : type_of% (And.intro @qU.r0 (@qU.r1)) := And.intro @qU.r0 (@qU.r1)
theorem qU.runs {b : Value} {S c : zk} {e : AEx} {T : List Value} (h : zF Try.prog O false qU.code ([b,undef,undef,undef,undef,undef,undef]) S = some (e, T, c)) (he : e = .normal ∨ e = .ret) : jc Try.prog O 27 [b] S = some (T.getD 2 undef, c) :=
 yR rfl rfl Try.func27 (by decide) qU.body (by exact h) he (yN (a := T.getD 2 undef) ((show zO Try.prog T c Try.f27.results.toList = zO Try.prog T c [(ResultVar.tmp 2)] from by kernel_rfl).trans (by simp only [zO])) (by kernel_rfl))
end Go.Proofs.Ytbgcphbbchndkaa
namespace Go.Proofs.Ytbgcphbbchndkaa
open Go.Abs
abbrev wB.id : FuncId := 36
noncomputable def wB.jI : Code := (Code.seq (Code.region 6 (reg Try.f36 6) false) (Code.seq (Code.cond (Operand.tmp 21) Code.skip (Code.exit 2)) (Code.seq (Code.block 3 (Code.seq (Code.region 7 (reg Try.f36 7) false) (Code.region 8 (reg Try.f36 8) false))) (Code.region 9 (reg Try.f36 9) false))))
noncomputable def wB.xJ : Code := (Code.seq (Code.region 3 (reg Try.f36 3) false) (Code.seq (Code.cond (Operand.tmp 15) Code.skip (Code.exit 0)) (Code.seq (Code.block 1 (Code.seq (Code.region 4 (reg Try.f36 4) false) (Code.seq (Code.region 5 (reg Try.f36 5) false) (Code.block 2 (Code.loop wB.jI))))) (Code.region 10 (reg Try.f36 10) false))))
noncomputable def wB.code : Code := (Code.seq (Code.region 0 (reg Try.f36 0) false) (Code.seq (Code.region 1 (reg Try.f36 1) false) (Code.seq (Code.seq (Code.region 2 (reg Try.f36 2) false) (Code.block 0 (Code.loop wB.xJ))) (Code.seq (Code.region 11 (reg Try.f36 11) false) Code.ret))))
theorem wB.body : Try.f36.body = some wB.code := by kernel_rfl
theorem wB.eta {T : List Value} (h : T.length = 35) : T = [T.getD 0 undef,T.getD 1 undef,T.getD 2 undef,T.getD 3 undef,T.getD 4 undef,T.getD 5 undef,T.getD 6 undef,T.getD 7 undef,T.getD 8 undef,T.getD 9 undef,T.getD 10 undef,T.getD 11 undef,T.getD 12 undef,T.getD 13 undef,T.getD 14 undef,T.getD 15 undef,T.getD 16 undef,T.getD 17 undef,T.getD 18 undef,T.getD 19 undef,T.getD 20 undef,T.getD 21 undef,T.getD 22 undef,T.getD 23 undef,T.getD 24 undef,T.getD 25 undef,T.getD 26 undef,T.getD 27 undef,T.getD 28 undef,T.getD 29 undef,T.getD 30 undef,T.getD 31 undef,T.getD 32 undef,T.getD 33 undef,T.getD 34 undef] := (qw T 35 h).trans (by kernel_rfl)
variable (C D I J M E K G L H j k d f b l m n g i c o p q r s t u v w x y z A B : Value) (S : zk)
theorem wB.r0  : jC Try.prog ⟨false, false, false⟩ (jc Try.prog O) (reg Try.f36 0) (reg Try.f36 0).toList ([C,D,I,J,M,E,K,G,L,H,j,k,d,f,b,l,m,n,g,i,c,o,p,q,r,s,t,u,v,w,x,y,z,A,B]) S =
  ( some ([C,D,I,J,Value.int IntKind.u64 0,E,K,G,L,H,j,k,d,f,b,l,m,n,g,i,c,o,p,q,r,s,t,u,v,w,x,y,z,A,B], S)) := by
 kernel_rfl
theorem wB.r1  : jC Try.prog ⟨false, false, false⟩ (jc Try.prog O) (reg Try.f36 1) (reg Try.f36 1).toList ([C,D,I,J,M,E,K,G,L,H,j,k,d,f,b,l,m,n,g,i,c,o,p,q,r,s,t,u,v,w,x,y,z,A,B]) S =
  (zI (wu Try.prog BinOp.xor 42 (dem C) (Value.int IntKind.u64 14695981039346656037) S) (fun P F => some ([C,D,I,J,M,P,K,G,L,H,dem C,dem P,d,f,b,l,m,n,g,i,c,o,p,q,r,s,t,u,v,w,x,y,z,A,B], F)) ()) := by
 kernel_rfl
theorem wB.r2  : jC Try.prog ⟨false, false, false⟩ (jc Try.prog O) (reg Try.f36 2) (reg Try.f36 2).toList ([C,D,I,J,M,E,K,G,L,H,j,k,d,f,b,l,m,n,g,i,c,o,p,q,r,s,t,u,v,w,x,y,z,A,B]) S =
  (zI (Zz Try.prog 88 (dem D) S) (fun P F => some ([C,D,I,J,M,E,K,G,L,H,j,k,dem D,P,Value.int IntKind.i64 0,l,m,n,g,i,c,o,p,q,r,s,t,u,v,w,x,y,z,A,B], F)) ()) := by
 kernel_rfl
theorem wB.r3  : jC Try.prog ⟨false, false, false⟩ (jc Try.prog O) (reg Try.f36 3) (reg Try.f36 3).toList ([C,D,I,J,M,E,K,G,L,H,j,k,d,f,b,l,m,n,g,i,c,o,p,q,r,s,t,u,v,w,x,y,z,A,B]) S =
  (zI (wu Try.prog BinOp.lss 3 b f S) (fun N F => some ([C,D,I,J,M,E,K,G,L,H,j,k,d,f,b,N,m,n,g,i,c,o,p,q,r,s,t,u,v,w,x,y,z,A,B], F)) ()) := by
 kernel_rfl
theorem wB.r4  : jC Try.prog ⟨false, false, false⟩ (jc Try.prog O) (reg Try.f36 4) (reg Try.f36 4).toList ([C,D,I,J,M,E,K,G,L,H,j,k,d,f,b,l,m,n,g,i,c,o,p,q,r,s,t,u,v,w,x,y,z,A,B]) S =
  (zI (jo Try.prog 88 d b S) (fun N F => zI (jf Try.prog false 23 N F) (fun P Q => some ([C,D,I,J,M,E,K,P,L,H,j,k,d,f,b,l,N,dem P,g,i,c,o,p,q,r,s,t,u,v,w,x,y,z,A,B], Q)) ()) ()) := by
 kernel_rfl
theorem wB.r5  : jC Try.prog ⟨false, false, false⟩ (jc Try.prog O) (reg Try.f36 5) (reg Try.f36 5).toList ([C,D,I,J,M,E,K,G,L,H,j,k,d,f,b,l,m,n,g,i,c,o,p,q,r,s,t,u,v,w,x,y,z,A,B]) S =
  (zI (Zz Try.prog 23 (dem G) S) (fun P F => some ([C,D,I,J,M,E,K,G,L,H,j,k,d,f,b,l,m,n,dem G,P,Value.int IntKind.i64 0,o,p,q,r,s,t,u,v,w,x,y,z,A,B], F)) ()) := by
 kernel_rfl
theorem wB.r6  : jC Try.prog ⟨false, false, false⟩ (jc Try.prog O) (reg Try.f36 6) (reg Try.f36 6).toList ([C,D,I,J,M,E,K,G,L,H,j,k,d,f,b,l,m,n,g,i,c,o,p,q,r,s,t,u,v,w,x,y,z,A,B]) S =
  (zI (wu Try.prog BinOp.lss 3 c i S) (fun N F => some ([C,D,I,J,M,E,K,G,L,H,j,k,d,f,b,l,m,n,g,i,c,N,p,q,r,s,t,u,v,w,x,y,z,A,B], F)) ()) := by
 kernel_rfl
theorem wB.r7  : jC Try.prog ⟨false, false, false⟩ (jc Try.prog O) (reg Try.f36 7) (reg Try.f36 7).toList ([C,D,I,J,M,E,K,G,L,H,j,k,d,f,b,l,m,n,g,i,c,o,p,q,r,s,t,u,v,w,x,y,z,A,B]) S =
  (zI (jo Try.prog 23 g c S) (fun N F => zI (jf Try.prog false 5 N F) (fun P Q => some ([C,D,I,J,M,E,K,G,L,P,j,k,d,f,b,l,m,n,g,i,c,o,N,dem P,r,s,t,u,v,w,x,y,z,A,B], Q)) ()) ()) := by
 kernel_rfl
theorem wB.r8  : jC Try.prog ⟨false, false, false⟩ (jc Try.prog O) (reg Try.f36 8) (reg Try.f36 8).toList ([C,D,I,J,M,E,K,G,L,H,j,k,d,f,b,l,m,n,g,i,c,o,p,q,r,s,t,u,v,w,x,y,z,A,B]) S =
  (zI (qI Try.prog false false 5 42 (dem H) S) (fun R F => zI (wu Try.prog BinOp.xor 42 (dem E) R F) (fun U Q => zI (wu Try.prog BinOp.mul 42 U (Value.int IntKind.u64 1099511628211) Q) (fun V W => some ([C,D,I,J,M,V,K,G,L,H,j,k,d,f,b,l,m,n,g,i,c,o,p,q,dem E,dem H,R,U,dem V,w,x,y,z,A,B], W)) ()) ()) ()) := by
 kernel_rfl
theorem wB.r9  : jC Try.prog ⟨false, false, false⟩ (jc Try.prog O) (reg Try.f36 9) (reg Try.f36 9).toList ([C,D,I,J,M,E,K,G,L,H,j,k,d,f,b,l,m,n,g,i,c,o,p,q,r,s,t,u,v,w,x,y,z,A,B]) S =
  (zI (wu Try.prog BinOp.add 3 c (Value.int IntKind.i64 1) S) (fun N F => some ([C,D,I,J,M,E,K,G,L,H,j,k,d,f,b,l,m,n,g,i,dem N,o,p,q,r,s,t,u,v,N,x,y,z,A,B], F)) ()) := by
 kernel_rfl
theorem wB.r10  : jC Try.prog ⟨false, false, false⟩ (jc Try.prog O) (reg Try.f36 10) (reg Try.f36 10).toList ([C,D,I,J,M,E,K,G,L,H,j,k,d,f,b,l,m,n,g,i,c,o,p,q,r,s,t,u,v,w,x,y,z,A,B]) S =
  (zI (wu Try.prog BinOp.add 3 b (Value.int IntKind.i64 1) S) (fun N F => some ([C,D,I,J,M,E,K,G,L,H,j,k,d,f,dem N,l,m,n,g,i,c,o,p,q,r,s,t,u,v,w,N,y,z,A,B], F)) ()) := by
 kernel_rfl
theorem wB.r11  : jC Try.prog ⟨false, false, false⟩ (jc Try.prog O) (reg Try.f36 11) (reg Try.f36 11).toList ([C,D,I,J,M,E,K,G,L,H,j,k,d,f,b,l,m,n,g,i,c,o,p,q,r,s,t,u,v,w,x,y,z,A,B]) S =
  (zI (wu Try.prog BinOp.shr 42 (dem E) (Value.int IntKind.u64 29) S) (fun R F => zI (wu Try.prog BinOp.xor 42 (dem E) R F) (fun U Q => some ([C,D,I,J,U,E,K,G,L,H,j,k,d,f,b,l,m,n,g,i,c,o,p,q,r,s,t,u,v,w,x,dem E,dem E,R,dem U], Q)) ()) ()) := by
 kernel_rfl
theorem wB.rs : type_of% (And.intro @wB.r0 (And.intro @wB.r1 (And.intro @wB.r2 (And.intro @wB.r3 (And.intro @wB.r4 (And.intro @wB.r5 (And.intro @wB.r6 (And.intro @wB.r7 (And.intro @wB.r8 (And.intro @wB.r9 (And.intro @wB.r10 (@wB.r11)))))))))))) := And.intro @wB.r0 (And.intro @wB.r1 (And.intro @wB.r2 (And.intro @wB.r3 (And.intro @wB.r4 (And.intro @wB.r5 (And.intro @wB.r6 (And.intro @wB.r7 (And.intro @wB.r8 (And.intro @wB.r9 (And.intro @wB.r10 (@wB.r11)))))))))))
theorem wB.runs {C D : Value} {S F : zk} {e : AEx} {T : List Value} (h : zF Try.prog O false wB.code ([C,D,undef,undef,undef,undef,undef,undef,undef,undef,undef,undef,undef,undef,undef,undef,undef,undef,undef,undef,undef,undef,undef,undef,undef,undef,undef,undef,undef,undef,undef,undef,undef,undef,undef]) S = some (e, T, F)) (he : e = .normal ∨ e = .ret) : jc Try.prog O 36 [C, D] S = some (T.getD 4 undef, F) :=
 yR rfl rfl Try.func36 (by decide) wB.body (by exact h) he (yN (a := T.getD 4 undef) ((show zO Try.prog T F Try.f36.results.toList = zO Try.prog T F [(ResultVar.tmp 4)] from by kernel_rfl).trans (by simp only [zO])) (by kernel_rfl))
end Go.Proofs.Ytbgcphbbchndkaa
namespace Go.Proofs.Ytbgcphbbchndkaa
open Go.Abs
abbrev yT.id : FuncId := 26
noncomputable def yT.code : Code := (Code.seq (Code.region 0 (reg Try.f26 0) false) (Code.seq (Code.region 1 (reg Try.f26 1) false) Code.ret))
theorem yT.body : Try.f26.body = some yT.code := by kernel_rfl
variable (b c d k l m q n o p g i j : Value) (S : zk)
theorem yT.r0  : jC Try.prog ⟨false, false, false⟩ (jc Try.prog O) (reg Try.f26 0) (reg Try.f26 0).toList ([b,c,d,k,l,m,q,n,o,p,g,i,j]) S =
  ( some ([b,c,d,k,l,m,Value.bool false,n,o,p,g,i,j], S)) := by
 kernel_rfl
theorem yT.r1  : jC Try.prog ⟨false, false, false⟩ (jc Try.prog O) (reg Try.f26 1) (reg Try.f26 1).toList ([b,c,d,k,l,m,q,n,o,p,g,i,j]) S =
  (zI (jR Try.prog 88 1 [(0, (dem d))] S) (fun r f => zI ((jc Try.prog O) 36 [(dem (dem b)), (dem r)] f) (fun s u => zI (wu Try.prog BinOp.eql 42 s (dem c) u) (fun t v => some ([b,c,d,k,l,m,t,dem b,dem d,r,s,dem c,dem t], v)) ()) ()) ()) := by
 kernel_rfl
theorem yT.rs : type_of% (And.intro @yT.r0 (@yT.r1)) := And.intro @yT.r0 (@yT.r1)
theorem yT.runs {b c d : Value} {S f : zk} {e : AEx} {T : List Value} (h : zF Try.prog O false yT.code ([b,c,d,undef,undef,undef,undef,undef,undef,undef,undef,undef,undef]) S = some (e, T, f)) (he : e = .normal ∨ e = .ret) : jc Try.prog O 26 [b, c, d] S = some (T.getD 6 undef, f) :=
 yR rfl rfl Try.func26 (by decide) yT.body (by exact h) he (yN (a := T.getD 6 undef) ((show zO Try.prog T f Try.f26.results.toList = zO Try.prog T f [(ResultVar.tmp 6)] from by kernel_rfl).trans (by simp only [zO])) (by kernel_rfl))
end Go.Proofs.Ytbgcphbbchndkaa
namespace Go.Proofs.Ytbgcphbbchndkaa
open Go.Abs
abbrev yH.id : FuncId := 23
variable (p q r s t u v w x y a b c d f g i j k l m n o : Value) (S : zk)
end Go.Proofs.Ytbgcphbbchndkaa
namespace Go.Proofs.Ytbgcphbbchndkaa
open Go.Abs
abbrev zQ.id : FuncId := 22
noncomputable def zQ.jI : Code := (Code.seq (Code.seq (Code.region 3 (reg Try.f22 3) false) (Code.cond (Operand.tmp 12) Code.skip (Code.exit 0))) (Code.seq (Code.block 1 (Code.seq (Code.region 5 (reg Try.f22 5) false) (Code.region 6 (reg Try.f22 6) false))) (Code.region 4 (reg Try.f22 4) false)))
noncomputable def zQ.code : Code := (Code.seq (Code.region 0 (reg Try.f22 0) false) (Code.seq (Code.region 1 (reg Try.f22 1) false) (Code.seq (Code.seq (Code.region 2 (reg Try.f22 2) false) (Code.block 0 (Code.loop zQ.jI))) (Code.seq (Code.region 7 (reg Try.f22 7) false) Code.ret))))
theorem zQ.body : Try.f22.body = some zQ.code := by kernel_rfl
theorem zQ.eta {T : List Value} (h : T.length = 34) : T = [T.getD 0 undef,T.getD 1 undef,T.getD 2 undef,T.getD 3 undef,T.getD 4 undef,T.getD 5 undef,T.getD 6 undef,T.getD 7 undef,T.getD 8 undef,T.getD 9 undef,T.getD 10 undef,T.getD 11 undef,T.getD 12 undef,T.getD 13 undef,T.getD 14 undef,T.getD 15 undef,T.getD 16 undef,T.getD 17 undef,T.getD 18 undef,T.getD 19 undef,T.getD 20 undef,T.getD 21 undef,T.getD 22 undef,T.getD 23 undef,T.getD 24 undef,T.getD 25 undef,T.getD 26 undef,T.getD 27 undef,T.getD 28 undef,T.getD 29 undef,T.getD 30 undef,T.getD 31 undef,T.getD 32 undef,T.getD 33 undef] := (qw T 34 h).trans (by kernel_rfl)
variable (D c F G L b E I J K d f g i j k l m n o p q r s t u v w x y z A B C : Value) (S : zk)
theorem zQ.r0  : jC Try.prog ⟨false, false, false⟩ (jc Try.prog O) (reg Try.f22 0) (reg Try.f22 0).toList ([D,c,F,G,L,b,E,I,J,K,d,f,g,i,j,k,l,m,n,o,p,q,r,s,t,u,v,w,x,y,z,A,B,C]) S =
  ( some ([D,c,F,G,Value.int IntKind.u64 0,b,E,I,J,K,d,f,g,i,j,k,l,m,n,o,p,q,r,s,t,u,v,w,x,y,z,A,B,C], S)) := by
 kernel_rfl
theorem zQ.r1  : jC Try.prog ⟨false, false, false⟩ (jc Try.prog O) (reg Try.f22 1) (reg Try.f22 1).toList ([D,c,F,G,L,b,E,I,J,K,d,f,g,i,j,k,l,m,n,o,p,q,r,s,t,u,v,w,x,y,z,A,B,C]) S =
  (zI (wu Try.prog BinOp.xor 42 (dem D) (Value.int IntKind.u64 14695981039346656037) S) (fun N H => some ([D,c,F,G,L,N,E,dem D,dem N,K,d,f,g,i,j,k,l,m,n,o,p,q,r,s,t,u,v,w,x,y,z,A,B,C], H)) ()) := by
 kernel_rfl
theorem zQ.r2  : jC Try.prog ⟨false, false, false⟩ (jc Try.prog O) (reg Try.f22 2) (reg Try.f22 2).toList ([D,c,F,G,L,b,E,I,J,K,d,f,g,i,j,k,l,m,n,o,p,q,r,s,t,u,v,w,x,y,z,A,B,C]) S =
  ( some ([D,c,F,G,L,b,Value.int IntKind.i64 0,I,J,K,d,f,g,i,j,k,l,m,n,o,p,q,r,s,t,u,v,w,x,y,z,A,B,C], S)) := by
 kernel_rfl
theorem zQ.r3  : jC Try.prog ⟨false, false, false⟩ (jc Try.prog O) (reg Try.f22 3) (reg Try.f22 3).toList ([D,c,F,G,L,b,E,I,J,K,d,f,g,i,j,k,l,m,n,o,p,q,r,s,t,u,v,w,x,y,z,A,B,C]) S =
  (zI (Zz Try.prog 23 (dem c) S) (fun Q H => zI (wu Try.prog BinOp.lss 3 (dem E) Q H) (fun M P => some ([D,c,F,G,L,b,E,I,J,dem E,dem c,Q,M,i,j,k,l,m,n,o,p,q,r,s,t,u,v,w,x,y,z,A,B,C], P)) ()) ()) := by
 kernel_rfl
theorem zQ.r5  : jC Try.prog ⟨false, false, false⟩ (jc Try.prog O) (reg Try.f22 5) (reg Try.f22 5).toList ([D,c,F,G,L,b,E,I,J,K,d,f,g,i,j,k,l,m,n,o,p,q,r,s,t,u,v,w,x,y,z,A,B,C]) S =
  (zI (jo Try.prog 23 (dem c) (dem E) S) (fun M H => zI (jf Try.prog false 5 M H) (fun R P => zI (qI Try.prog false false 5 42 R P) (fun X V => zI (wu Try.prog BinOp.xor 42 (dem b) X V) (fun U W => some ([D,c,F,G,L,U,E,I,J,K,d,f,g,i,j,dem b,dem c,dem E,M,R,X,dem U,r,s,t,u,v,w,x,y,z,A,B,C], W)) ()) ()) ()) ()) := by
 kernel_rfl
theorem zQ.r6  : jC Try.prog ⟨false, false, false⟩ (jc Try.prog O) (reg Try.f22 6) (reg Try.f22 6).toList ([D,c,F,G,L,b,E,I,J,K,d,f,g,i,j,k,l,m,n,o,p,q,r,s,t,u,v,w,x,y,z,A,B,C]) S =
  (zI (wu Try.prog BinOp.shl 42 (dem b) (Value.int IntKind.u64 40) S) (fun N H => zI (wu Try.prog BinOp.shl 42 (dem b) (Value.int IntKind.u64 8) H) (fun M P => zI (wu Try.prog BinOp.add 42 N M P) (fun R V => zI (wu Try.prog BinOp.mul 42 (dem b) (Value.int IntKind.u64 179) V) (fun U W => zI (wu Try.prog BinOp.add 42 R U W) (fun Y Z => some ([D,c,F,G,L,Y,E,I,J,K,d,f,g,i,j,k,l,m,n,o,p,q,dem b,N,dem b,M,R,dem b,U,dem Y,z,A,B,C], Z)) ()) ()) ()) ()) ()) := by
 kernel_rfl
theorem zQ.r4  : jC Try.prog ⟨false, false, false⟩ (jc Try.prog O) (reg Try.f22 4) (reg Try.f22 4).toList ([D,c,F,G,L,b,E,I,J,K,d,f,g,i,j,k,l,m,n,o,p,q,r,s,t,u,v,w,x,y,z,A,B,C]) S =
  (zI (wu Try.prog BinOp.add 3 (dem E) (Value.int IntKind.i64 1) S) (fun N H => some ([D,c,F,G,L,b,N,I,J,K,d,f,g,dem E,dem N,k,l,m,n,o,p,q,r,s,t,u,v,w,x,y,z,A,B,C], H)) ()) := by
 kernel_rfl
theorem zQ.r7  : jC Try.prog ⟨false, false, false⟩ (jc Try.prog O) (reg Try.f22 7) (reg Try.f22 7).toList ([D,c,F,G,L,b,E,I,J,K,d,f,g,i,j,k,l,m,n,o,p,q,r,s,t,u,v,w,x,y,z,A,B,C]) S =
  (zI (wu Try.prog BinOp.quo 42 (dem b) (Value.int IntKind.u64 536870912) S) (fun Q H => zI (wu Try.prog BinOp.xor 42 (dem b) Q H) (fun M P => some ([D,c,F,G,M,b,E,I,J,K,d,f,g,i,j,k,l,m,n,o,p,q,r,s,t,u,v,w,x,y,dem b,dem b,Q,dem M], P)) ()) ()) := by
 kernel_rfl
theorem zQ.rs : type_of% (And.intro @zQ.r0 (And.intro @zQ.r1 (And.intro @zQ.r2 (And.intro @zQ.r3 (And.intro @zQ.r5 (And.intro @zQ.r6 (And.intro @zQ.r4 (@zQ.r7)))))))) := And.intro @zQ.r0 (And.intro @zQ.r1 (And.intro @zQ.r2 (And.intro @zQ.r3 (And.intro @zQ.r5 (And.intro @zQ.r6 (And.intro @zQ.r4 (@zQ.r7)))))))
theorem zQ.runs {D c : Value} {S H : zk} {e : AEx} {T : List Value} (h : zF Try.prog O false zQ.code ([D,c,undef,undef,undef,undef,undef,undef,undef,undef,undef,undef,undef,undef,undef,undef,undef,undef,undef,undef,undef,undef,undef,undef,undef,undef,undef,undef,undef,undef,undef,undef,undef,undef]) S = some (e, T, H)) (he : e = .normal ∨ e = .ret) : jc Try.prog O 22 [D, c] S = some (T.getD 4 undef, H) :=
 yR rfl rfl Try.func22 (by decide) zQ.body (by exact h) he (yN (a := T.getD 4 undef) ((show zO Try.prog T H Try.f22.results.toList = zO Try.prog T H [(ResultVar.tmp 4)] from by kernel_rfl).trans (by simp only [zO])) (by kernel_rfl))
end Go.Proofs.Ytbgcphbbchndkaa
namespace Go.Proofs.Ytbgcphbbchndkaa
open Go.Abs
abbrev zG.id : FuncId := 51
noncomputable def zG.jI : Code := (Code.seq (Code.region 6 (reg Try.f51 6) false) (Code.seq (Code.cond (Operand.tmp 22) Code.skip (Code.exit 0)) (Code.seq (Code.block 1 (Code.seq (Code.region 7 (reg Try.f51 7) false) (Code.seq (Code.seq (Code.region 8 (reg Try.f51 8) false) (Code.cond (Operand.tmp 34) (Code.seq (Code.region 9 (reg Try.f51 9) false) Code.ret) Code.skip)) (Code.seq (Code.region 10 (reg Try.f51 10) false) (Code.region 11 (reg Try.f51 11) false))))) (Code.region 12 (reg Try.f51 12) false))))
noncomputable def zG.code : Code := (Code.seq (Code.region 0 (reg Try.f51 0) false) (Code.seq (Code.seq (Code.region 1 (reg Try.f51 1) false) (Code.cond (Operand.tmp 17) (Code.seq (Code.region 2 (reg Try.f51 2) false) Code.ret) Code.skip)) (Code.seq (Code.region 3 (reg Try.f51 3) false) (Code.seq (Code.region 4 (reg Try.f51 4) false) (Code.seq (Code.seq (Code.region 5 (reg Try.f51 5) false) (Code.block 0 (Code.loop zG.jI))) (Code.seq (Code.region 13 (reg Try.f51 13) false) Code.ret))))))
theorem zG.body : Try.f51.body = some zG.code := by kernel_rfl
theorem zG.eta {T : List Value} (h : T.length = 45) : T = [T.getD 0 undef,T.getD 1 undef,T.getD 2 undef,T.getD 3 undef,T.getD 4 undef,T.getD 5 undef,T.getD 6 undef,T.getD 7 undef,T.getD 8 undef,T.getD 9 undef,T.getD 10 undef,T.getD 11 undef,T.getD 12 undef,T.getD 13 undef,T.getD 14 undef,T.getD 15 undef,T.getD 16 undef,T.getD 17 undef,T.getD 18 undef,T.getD 19 undef,T.getD 20 undef,T.getD 21 undef,T.getD 22 undef,T.getD 23 undef,T.getD 24 undef,T.getD 25 undef,T.getD 26 undef,T.getD 27 undef,T.getD 28 undef,T.getD 29 undef,T.getD 30 undef,T.getD 31 undef,T.getD 32 undef,T.getD 33 undef,T.getD 34 undef,T.getD 35 undef,T.getD 36 undef,T.getD 37 undef,T.getD 38 undef,T.getD 39 undef,T.getD 40 undef,T.getD 41 undef,T.getD 42 undef,T.getD 43 undef,T.getD 44 undef] := (qw T 45 h).trans (by kernel_rfl)
variable (P N V W X Y Z Q R U b a f g i k l m n o c d p q r s t u w x y z A B C D E F G H I J K L M : Value) (S : zk)
theorem zG.r0  : jC Try.prog ⟨false, false, false⟩ (jc Try.prog O) (reg Try.f51 0) (reg Try.f51 0).toList ([P,N,V,W,X,Y,Z,Q,R,U,b,a,f,g,i,k,l,m,n,o,c,d,p,q,r,s,t,u,w,x,y,z,A,B,C,D,E,F,G,H,I,J,K,L,M]) S =
  ( some ([P,N,V,W,Value.slice none 0 0,Value.slice none 0 0,Value.int IntKind.i64 0,Q,R,U,b,a,f,g,i,k,l,m,n,o,c,d,p,q,r,s,t,u,w,x,y,z,A,B,C,D,E,F,G,H,I,J,K,L,M], S)) := by
 kernel_rfl
theorem zG.r1  : jC Try.prog ⟨false, false, false⟩ (jc Try.prog O) (reg Try.f51 1) (reg Try.f51 1).toList ([P,N,V,W,X,Y,Z,Q,R,U,b,a,f,g,i,k,l,m,n,o,c,d,p,q,r,s,t,u,w,x,y,z,A,B,C,D,E,F,G,H,I,J,K,L,M]) S =
  (zI (wu Try.prog BinOp.lss 3 (dem N) (Value.int IntKind.i64 0) S) (fun v1 S1 => gdK (dem v1) false (ret N) S1 (fun v3 S2 => gdK (dem v1) false (wu Try.prog BinOp.gtr 3 (dem v3) (Value.int IntKind.i64 64)) S2 (fun v4 S3 => zI (wJ (dem v1) (Value.bool true) v4 S3) (fun v5 S4 => some ([P,N,V,W,X,Y,Z,Q,R,U,b,a,dem N,v1,dem v1,dem v3,v4,v5,n,o,c,d,p,q,r,s,t,u,w,x,y,z,A,B,C,D,E,F,G,H,I,J,K,L,M], S4)) ()) ()) ()) ()) := by
 refine sP Try.f51 1 0 (v := N) ?_
 refine sD Try.f51 1 1 (fun v1 S1 => ?_)
 refine sP Try.f51 1 2 (v := v1) ?_
 refine sG Try.f51 1 3 (j := 2) (fun v3 S2 => ?_)
 refine sG Try.f51 1 4 (j := 2) (fun v4 S3 => ?_)
 refine sD Try.f51 1 5 (fun v5 S4 => ?_)
 kernel_rfl
theorem zG.r2  : jC Try.prog ⟨false, false, false⟩ (jc Try.prog O) (reg Try.f51 2) (reg Try.f51 2).toList ([P,N,V,W,X,Y,Z,Q,R,U,b,a,f,g,i,k,l,m,n,o,c,d,p,q,r,s,t,u,w,x,y,z,A,B,C,D,E,F,G,H,I,J,K,L,M]) S =
  ( some ([P,N,V,W,Value.slice none 0 0,Value.slice none 0 0,Value.int IntKind.i64 11,Q,R,U,b,a,f,g,i,k,l,m,n,o,c,d,p,q,r,s,t,u,w,x,y,z,A,B,C,D,E,F,G,H,I,J,K,L,M], S)) := by
 kernel_rfl
theorem zG.r3  : jC Try.prog ⟨false, false, false⟩ (jc Try.prog O) (reg Try.f51 3) (reg Try.f51 3).toList ([P,N,V,W,X,Y,Z,Q,R,U,b,a,f,g,i,k,l,m,n,o,c,d,p,q,r,s,t,u,w,x,y,z,A,B,C,D,E,F,G,H,I,J,K,L,M]) S =
  (zI ((jc Try.prog O) 50 [(dem (dem P))] S) (fun v1 S1 => some ([P,N,V,W,X,Y,Z,v1,R,U,b,a,f,g,i,k,l,m,dem P,dem v1,c,d,p,q,r,s,t,u,w,x,y,z,A,B,C,D,E,F,G,H,I,J,K,L,M], S1)) ()) := by
 kernel_rfl
theorem zG.r4  : jC Try.prog ⟨false, false, false⟩ (jc Try.prog O) (reg Try.f51 4) (reg Try.f51 4).toList ([P,N,V,W,X,Y,Z,Q,R,U,b,a,f,g,i,k,l,m,n,o,c,d,p,q,r,s,t,u,w,x,y,z,A,B,C,D,E,F,G,H,I,J,K,L,M]) S =
  ( some ([P,N,V,W,X,Y,Z,Q,Value.slice none 0 0,U,b,a,f,g,i,k,l,m,n,o,c,d,p,q,r,s,t,u,w,x,y,z,A,B,C,D,E,F,G,H,I,J,K,L,M], S)) := by
 kernel_rfl
theorem zG.r5  : jC Try.prog ⟨false, false, false⟩ (jc Try.prog O) (reg Try.f51 5) (reg Try.f51 5).toList ([P,N,V,W,X,Y,Z,Q,R,U,b,a,f,g,i,k,l,m,n,o,c,d,p,q,r,s,t,u,w,x,y,z,A,B,C,D,E,F,G,H,I,J,K,L,M]) S =
  ( some ([P,N,V,W,X,Y,Z,Q,R,U,b,a,f,g,i,k,l,m,n,o,dem N,Value.int IntKind.i64 0,p,q,r,s,t,u,w,x,y,z,A,B,C,D,E,F,G,H,I,J,K,L,M], S)) := by
 kernel_rfl
theorem zG.r6  : jC Try.prog ⟨false, false, false⟩ (jc Try.prog O) (reg Try.f51 6) (reg Try.f51 6).toList ([P,N,V,W,X,Y,Z,Q,R,U,b,a,f,g,i,k,l,m,n,o,c,d,p,q,r,s,t,u,w,x,y,z,A,B,C,D,E,F,G,H,I,J,K,L,M]) S =
  (zI (wu Try.prog BinOp.lss 3 d c S) (fun v0 S1 => some ([P,N,V,W,X,Y,Z,Q,R,U,b,a,f,g,i,k,l,m,n,o,c,d,v0,q,r,s,t,u,w,x,y,z,A,B,C,D,E,F,G,H,I,J,K,L,M], S1)) ()) := by
 kernel_rfl
theorem zG.r7  : jC Try.prog ⟨false, false, false⟩ (jc Try.prog O) (reg Try.f51 7) (reg Try.f51 7).toList ([P,N,V,W,X,Y,Z,Q,R,U,b,a,f,g,i,k,l,m,n,o,c,d,p,q,r,s,t,u,w,x,y,z,A,B,C,D,E,F,G,H,I,J,K,L,M]) S =
  (zI ((jc Try.prog O) 24 [(dem (dem Q))] S) (fun v1 S1 => zI (zU v1 0 S1) (fun v3 S2 => zI (zU (zS 0 v1) 1 S2) (fun v4 S3 => zI (zU (zS 1 (zS 0 v1)) 2 S3) (fun v5 S4 => some ([P,N,V,W,X,Y,Z,Q,R,v3,v4,v5,f,g,i,k,l,m,n,o,c,d,p,zS 2 (zS 1 (zS 0 v1)),dem Q,dem v1,dem v3,dem v4,dem v5,x,y,z,A,B,C,D,E,F,G,H,I,J,K,L,M], S4)) ()) ()) ()) ()) := by
 kernel_rfl
theorem zG.r8  : jC Try.prog ⟨false, false, false⟩ (jc Try.prog O) (reg Try.f51 8) (reg Try.f51 8).toList ([P,N,V,W,X,Y,Z,Q,R,U,b,a,f,g,i,k,l,m,n,o,c,d,p,q,r,s,t,u,w,x,y,z,A,B,C,D,E,F,G,H,I,J,K,L,M]) S =
  (zI (wu Try.prog BinOp.neq 31 (dem a) (Value.int IntKind.i64 0) S) (fun v1 S1 => gdK (dem v1) false (ret U) S1 (fun v3 S2 => gdK (dem v1) false (wu Try.prog BinOp.gtr 42 (dem v3) (Value.int IntKind.u64 4611686018427387905)) S2 (fun v4 S3 => zI (wJ (dem v1) (Value.bool true) v4 S3) (fun v5 S4 => some ([P,N,V,W,X,Y,Z,Q,R,U,b,a,f,g,i,k,l,m,n,o,c,d,p,q,r,s,t,u,w,dem a,v1,dem v1,dem v3,v4,v5,D,E,F,G,H,I,J,K,L,M], S4)) ()) ()) ()) ()) := by
 refine sP Try.f51 8 0 (v := a) ?_
 refine sD Try.f51 8 1 (fun v1 S1 => ?_)
 refine sP Try.f51 8 2 (v := v1) ?_
 refine sG Try.f51 8 3 (j := 2) (fun v3 S2 => ?_)
 refine sG Try.f51 8 4 (j := 2) (fun v4 S3 => ?_)
 refine sD Try.f51 8 5 (fun v5 S4 => ?_)
 kernel_rfl
theorem zG.r9  : jC Try.prog ⟨false, false, false⟩ (jc Try.prog O) (reg Try.f51 9) (reg Try.f51 9).toList ([P,N,V,W,X,Y,Z,Q,R,U,b,a,f,g,i,k,l,m,n,o,c,d,p,q,r,s,t,u,w,x,y,z,A,B,C,D,E,F,G,H,I,J,K,L,M]) S =
  ( some ([P,N,V,W,Value.slice none 0 0,Value.slice none 0 0,Value.int IntKind.i64 11,Q,R,U,b,a,f,g,i,k,l,m,n,o,c,d,p,q,r,s,t,u,w,x,y,z,A,B,C,D,E,F,G,H,I,J,K,L,M], S)) := by
 kernel_rfl
theorem zG.r10  : jC Try.prog ⟨false, false, false⟩ (jc Try.prog O) (reg Try.f51 10) (reg Try.f51 10).toList ([P,N,V,W,X,Y,Z,Q,R,U,b,a,f,g,i,k,l,m,n,o,c,d,p,q,r,s,t,u,w,x,y,z,A,B,C,D,E,F,G,H,I,J,K,L,M]) S =
  (zI (qI Try.prog false false 42 3 (dem U) S) (fun v2 S1 => zI (wu Try.prog BinOp.sub 3 v2 (Value.int IntKind.i64 1) S1) (fun v3 S2 => zI (jR Try.prog 57 1 [(0, v3)] S2) (fun v4 S3 => zI (wY Try.prog 57 57 R v4 S3) (fun v5 S4 => some ([P,N,V,W,X,Y,Z,Q,v5,U,b,a,f,g,i,k,l,m,n,o,c,d,p,q,r,s,t,u,w,x,y,z,A,B,C,dem R,dem U,v2,v3,v4,dem v5,J,K,L,M], S4)) ()) ()) ()) ()) := by
 kernel_rfl
theorem zG.r11  : jC Try.prog ⟨false, false, false⟩ (jc Try.prog O) (reg Try.f51 11) (reg Try.f51 11).toList ([P,N,V,W,X,Y,Z,Q,R,U,b,a,f,g,i,k,l,m,n,o,c,d,p,q,r,s,t,u,w,x,y,z,A,B,C,D,E,F,G,H,I,J,K,L,M]) S =
  ( some ([P,N,V,W,X,Y,Z,b,R,U,dem b,a,f,g,i,k,l,m,n,o,c,d,p,q,r,s,t,u,w,x,y,z,A,B,C,D,E,F,G,H,I,dem b,K,L,M], S)) := by
 kernel_rfl
theorem zG.r12  : jC Try.prog ⟨false, false, false⟩ (jc Try.prog O) (reg Try.f51 12) (reg Try.f51 12).toList ([P,N,V,W,X,Y,Z,Q,R,U,b,a,f,g,i,k,l,m,n,o,c,d,p,q,r,s,t,u,w,x,y,z,A,B,C,D,E,F,G,H,I,J,K,L,M]) S =
  (zI (wu Try.prog BinOp.add 3 d (Value.int IntKind.i64 1) S) (fun v0 S1 => some ([P,N,V,W,X,Y,Z,Q,R,U,b,a,f,g,i,k,l,m,n,o,c,dem v0,p,q,r,s,t,u,w,x,y,z,A,B,C,D,E,F,G,H,I,J,v0,L,M], S1)) ()) := by
 kernel_rfl
theorem zG.r13  : jC Try.prog ⟨false, false, false⟩ (jc Try.prog O) (reg Try.f51 13) (reg Try.f51 13).toList ([P,N,V,W,X,Y,Z,Q,R,U,b,a,f,g,i,k,l,m,n,o,c,d,p,q,r,s,t,u,w,x,y,z,A,B,C,D,E,F,G,H,I,J,K,L,M]) S =
  ( some ([P,N,V,W,R,Q,Value.int IntKind.i64 0,dem Q,dem R,U,b,a,f,g,i,k,l,m,n,o,c,d,p,q,r,s,t,u,w,x,y,z,A,B,C,D,E,F,G,H,I,J,K,dem R,dem Q], S)) := by
 kernel_rfl
theorem zG.rs : type_of% (And.intro @zG.r0 (And.intro @zG.r1 (And.intro @zG.r2 (And.intro @zG.r3 (And.intro @zG.r4 (And.intro @zG.r5 (And.intro @zG.r6 (And.intro @zG.r7 (And.intro @zG.r8 (And.intro @zG.r9 (And.intro @zG.r10 (And.intro @zG.r11 (And.intro @zG.r12 (@zG.r13)))))))))))))) := And.intro @zG.r0 (And.intro @zG.r1 (And.intro @zG.r2 (And.intro @zG.r3 (And.intro @zG.r4 (And.intro @zG.r5 (And.intro @zG.r6 (And.intro @zG.r7 (And.intro @zG.r8 (And.intro @zG.r9 (And.intro @zG.r10 (And.intro @zG.r11 (And.intro @zG.r12 (@zG.r13)))))))))))))
theorem zG.runs {P N : Value} {S S1 : zk} {e : AEx} {T : List Value} (h : zF Try.prog O false zG.code ([P,N,undef,undef,undef,undef,undef,undef,undef,undef,undef,undef,undef,undef,undef,undef,undef,undef,undef,undef,undef,undef,undef,undef,undef,undef,undef,undef,undef,undef,undef,undef,undef,undef,undef,undef,undef,undef,undef,undef,undef,undef,undef,undef,undef]) S = some (e, T, S1)) (he : e = .normal ∨ e = .ret)  (h0 : jW (T.getD 4 undef) = true) (h1 : jW (T.getD 5 undef) = true) (h2 : jW (T.getD 6 undef) = true) : jc Try.prog O 51 [P, N] S = some (Value.tuple #[T.getD 4 undef, T.getD 5 undef, T.getD 6 undef], S1) :=
 yR rfl rfl Try.func51 (by decide) zG.body (by exact h) he ((yP ((show zO Try.prog T S1 Try.f51.results.toList = zO Try.prog T S1 [(ResultVar.tmp 4), (ResultVar.tmp 5), (ResultVar.tmp 6)] from by kernel_rfl).trans (by simp only [zO])) (by kernel_rfl) (by simp only [List.all_cons, List.all_nil, h0, h1, h2, Bool.and_true])).trans rfl)
end Go.Proofs.Ytbgcphbbchndkaa
namespace Go.Proofs.Ytbgcphbbchndkaa
open Go.Abs
abbrev zq.id : FuncId := 28
noncomputable def zq.jI : Code := (Code.seq (Code.seq (Code.region 6 (reg Try.f28 6) false) (Code.cond (Operand.tmp 25) Code.skip (Code.exit 0))) (Code.seq (Code.block 1 (Code.seq (Code.region 8 (reg Try.f28 8) false) (Code.seq (Code.seq (Code.region 9 (reg Try.f28 9) false) (Code.cond (Operand.tmp 39) (Code.seq (Code.region 10 (reg Try.f28 10) false) Code.ret) Code.skip)) (Code.seq (Code.region 11 (reg Try.f28 11) false) (Code.region 12 (reg Try.f28 12) false))))) (Code.region 7 (reg Try.f28 7) false)))
noncomputable def zq.code : Code := (Code.seq (Code.region 0 (reg Try.f28 0) false) (Code.seq (Code.seq (Code.region 1 (reg Try.f28 1) false) (Code.cond (Operand.tmp 18) (Code.seq (Code.region 2 (reg Try.f28 2) false) Code.ret) Code.skip)) (Code.seq (Code.region 3 (reg Try.f28 3) false) (Code.seq (Code.region 4 (reg Try.f28 4) false) (Code.seq (Code.seq (Code.region 5 (reg Try.f28 5) false) (Code.block 0 (Code.loop zq.jI))) (Code.seq (Code.region 13 (reg Try.f28 13) false) Code.ret))))))
theorem zq.body : Try.f28.body = some zq.code := by kernel_rfl
theorem zq.eta {T : List Value} (h : T.length = 49) : T = [T.getD 0 undef,T.getD 1 undef,T.getD 2 undef,T.getD 3 undef,T.getD 4 undef,T.getD 5 undef,T.getD 6 undef,T.getD 7 undef,T.getD 8 undef,T.getD 9 undef,T.getD 10 undef,T.getD 11 undef,T.getD 12 undef,T.getD 13 undef,T.getD 14 undef,T.getD 15 undef,T.getD 16 undef,T.getD 17 undef,T.getD 18 undef,T.getD 19 undef,T.getD 20 undef,T.getD 21 undef,T.getD 22 undef,T.getD 23 undef,T.getD 24 undef,T.getD 25 undef,T.getD 26 undef,T.getD 27 undef,T.getD 28 undef,T.getD 29 undef,T.getD 30 undef,T.getD 31 undef,T.getD 32 undef,T.getD 33 undef,T.getD 34 undef,T.getD 35 undef,T.getD 36 undef,T.getD 37 undef,T.getD 38 undef,T.getD 39 undef,T.getD 40 undef,T.getD 41 undef,T.getD 42 undef,T.getD 43 undef,T.getD 44 undef,T.getD 45 undef,T.getD 46 undef,T.getD 47 undef,T.getD 48 undef] := (qw T 49 h).trans (by kernel_rfl)
variable (V U Z x3 x4 x5 x6 W X Y a c b d f g i k l m n o p q r s t u w x y z A B C D E F G H I J K L M N P Q R : Value) (S : zk)
theorem zq.r0  : jC Try.prog ⟨false, false, false⟩ (jc Try.prog O) (reg Try.f28 0) (reg Try.f28 0).toList ([V,U,Z,x3,x4,x5,x6,W,X,Y,a,c,b,d,f,g,i,k,l,m,n,o,p,q,r,s,t,u,w,x,y,z,A,B,C,D,E,F,G,H,I,J,K,L,M,N,P,Q,R]) S =
  ( some ([V,U,Z,x3,Value.slice none 0 0,Value.slice none 0 0,Value.int IntKind.i64 0,W,X,Y,a,c,b,d,f,g,i,k,l,m,n,o,p,q,r,s,t,u,w,x,y,z,A,B,C,D,E,F,G,H,I,J,K,L,M,N,P,Q,R], S)) := by
 kernel_rfl
theorem zq.r1  : jC Try.prog ⟨false, false, false⟩ (jc Try.prog O) (reg Try.f28 1) (reg Try.f28 1).toList ([V,U,Z,x3,x4,x5,x6,W,X,Y,a,c,b,d,f,g,i,k,l,m,n,o,p,q,r,s,t,u,w,x,y,z,A,B,C,D,E,F,G,H,I,J,K,L,M,N,P,Q,R]) S =
  (zI (wu Try.prog BinOp.lss 3 (dem U) (Value.int IntKind.i64 0) S) (fun v1 S1 => gdK (dem v1) false (ret U) S1 (fun v3 S2 => gdK (dem v1) false (wu Try.prog BinOp.gtr 3 (dem v3) (Value.int IntKind.i64 64)) S2 (fun v4 S3 => zI (wJ (dem v1) (Value.bool true) v4 S3) (fun v5 S4 => some ([V,U,Z,x3,x4,x5,x6,W,X,Y,a,c,b,dem U,v1,dem v1,dem v3,v4,v5,m,n,o,p,q,r,s,t,u,w,x,y,z,A,B,C,D,E,F,G,H,I,J,K,L,M,N,P,Q,R], S4)) ()) ()) ()) ()) := by
 refine sP Try.f28 1 0 (v := U) ?_
 refine sD Try.f28 1 1 (fun v1 S1 => ?_)
 refine sP Try.f28 1 2 (v := v1) ?_
 refine sG Try.f28 1 3 (j := 2) (fun v3 S2 => ?_)
 refine sG Try.f28 1 4 (j := 2) (fun v4 S3 => ?_)
 refine sD Try.f28 1 5 (fun v5 S4 => ?_)
 kernel_rfl
theorem zq.r2  : jC Try.prog ⟨false, false, false⟩ (jc Try.prog O) (reg Try.f28 2) (reg Try.f28 2).toList ([V,U,Z,x3,x4,x5,x6,W,X,Y,a,c,b,d,f,g,i,k,l,m,n,o,p,q,r,s,t,u,w,x,y,z,A,B,C,D,E,F,G,H,I,J,K,L,M,N,P,Q,R]) S =
  ( some ([V,U,Z,x3,Value.slice none 0 0,Value.slice none 0 0,Value.int IntKind.i64 11,W,X,Y,a,c,b,d,f,g,i,k,l,m,n,o,p,q,r,s,t,u,w,x,y,z,A,B,C,D,E,F,G,H,I,J,K,L,M,N,P,Q,R], S)) := by
 kernel_rfl
theorem zq.r3  : jC Try.prog ⟨false, false, false⟩ (jc Try.prog O) (reg Try.f28 3) (reg Try.f28 3).toList ([V,U,Z,x3,x4,x5,x6,W,X,Y,a,c,b,d,f,g,i,k,l,m,n,o,p,q,r,s,t,u,w,x,y,z,A,B,C,D,E,F,G,H,I,J,K,L,M,N,P,Q,R]) S =
  (zI (jR Try.prog 57 0 [] S) (fun v0 S1 => some ([V,U,Z,x3,x4,x5,x6,v0,X,Y,a,c,b,d,f,g,i,k,l,dem v0,n,o,p,q,r,s,t,u,w,x,y,z,A,B,C,D,E,F,G,H,I,J,K,L,M,N,P,Q,R], S1)) ()) := by
 kernel_rfl
theorem zq.r4  : jC Try.prog ⟨false, false, false⟩ (jc Try.prog O) (reg Try.f28 4) (reg Try.f28 4).toList ([V,U,Z,x3,x4,x5,x6,W,X,Y,a,c,b,d,f,g,i,k,l,m,n,o,p,q,r,s,t,u,w,x,y,z,A,B,C,D,E,F,G,H,I,J,K,L,M,N,P,Q,R]) S =
  (zI (jR Try.prog 23 0 [] S) (fun v0 S1 => zI (wY Try.prog 23 23 v0 (dem V) S1) (fun v2 S2 => some ([V,U,Z,x3,x4,x5,x6,W,v2,Y,a,c,b,d,f,g,i,k,l,m,dem v0,dem V,dem v2,q,r,s,t,u,w,x,y,z,A,B,C,D,E,F,G,H,I,J,K,L,M,N,P,Q,R], S2)) ()) ()) := by
 kernel_rfl
theorem zq.r5  : jC Try.prog ⟨false, false, false⟩ (jc Try.prog O) (reg Try.f28 5) (reg Try.f28 5).toList ([V,U,Z,x3,x4,x5,x6,W,X,Y,a,c,b,d,f,g,i,k,l,m,n,o,p,q,r,s,t,u,w,x,y,z,A,B,C,D,E,F,G,H,I,J,K,L,M,N,P,Q,R]) S =
  ( some ([V,U,Z,x3,x4,x5,x6,W,X,Value.int IntKind.i64 0,a,c,b,d,f,g,i,k,l,m,n,o,p,q,r,s,t,u,w,x,y,z,A,B,C,D,E,F,G,H,I,J,K,L,M,N,P,Q,R], S)) := by
 kernel_rfl
theorem zq.r6  : jC Try.prog ⟨false, false, false⟩ (jc Try.prog O) (reg Try.f28 6) (reg Try.f28 6).toList ([V,U,Z,x3,x4,x5,x6,W,X,Y,a,c,b,d,f,g,i,k,l,m,n,o,p,q,r,s,t,u,w,x,y,z,A,B,C,D,E,F,G,H,I,J,K,L,M,N,P,Q,R]) S =
  (zI (wu Try.prog BinOp.lss 3 (dem Y) (dem U) S) (fun v2 S1 => some ([V,U,Z,x3,x4,x5,x6,W,X,Y,a,c,b,d,f,g,i,k,l,m,n,o,p,dem Y,dem U,v2,t,u,w,x,y,z,A,B,C,D,E,F,G,H,I,J,K,L,M,N,P,Q,R], S1)) ()) := by
 kernel_rfl
theorem zq.r8  : jC Try.prog ⟨false, false, false⟩ (jc Try.prog O) (reg Try.f28 8) (reg Try.f28 8).toList ([V,U,Z,x3,x4,x5,x6,W,X,Y,a,c,b,d,f,g,i,k,l,m,n,o,p,q,r,s,t,u,w,x,y,z,A,B,C,D,E,F,G,H,I,J,K,L,M,N,P,Q,R]) S =
  (zI ((jc Try.prog O) 16 [(dem (dem X))] S) (fun v1 S1 => zI (zU v1 0 S1) (fun v3 S2 => zI (zU (zS 0 v1) 1 S2) (fun v4 S3 => zI (zU (zS 1 (zS 0 v1)) 2 S3) (fun v5 S4 => some ([V,U,Z,x3,x4,x5,x6,W,X,Y,v3,v4,v5,d,f,g,i,k,l,m,n,o,p,q,r,s,t,u,zS 2 (zS 1 (zS 0 v1)),dem X,dem v1,dem v3,dem v4,dem v5,C,D,E,F,G,H,I,J,K,L,M,N,P,Q,R], S4)) ()) ()) ()) ()) := by
 kernel_rfl
theorem zq.r9  : jC Try.prog ⟨false, false, false⟩ (jc Try.prog O) (reg Try.f28 9) (reg Try.f28 9).toList ([V,U,Z,x3,x4,x5,x6,W,X,Y,a,c,b,d,f,g,i,k,l,m,n,o,p,q,r,s,t,u,w,x,y,z,A,B,C,D,E,F,G,H,I,J,K,L,M,N,P,Q,R]) S =
  (zI (wu Try.prog BinOp.neq 3 (dem b) (Value.int IntKind.i64 0) S) (fun v1 S1 => gdK (dem v1) false (ret a) S1 (fun v3 S2 => gdK (dem v1) false (wu Try.prog BinOp.gtr 42 (dem v3) (Value.int IntKind.u64 4611686018427387905)) S2 (fun v4 S3 => zI (wJ (dem v1) (Value.bool true) v4 S3) (fun v5 S4 => some ([V,U,Z,x3,x4,x5,x6,W,X,Y,a,c,b,d,f,g,i,k,l,m,n,o,p,q,r,s,t,u,w,x,y,z,A,B,dem b,v1,dem v1,dem v3,v4,v5,I,J,K,L,M,N,P,Q,R], S4)) ()) ()) ()) ()) := by
 refine sP Try.f28 9 0 (v := b) ?_
 refine sD Try.f28 9 1 (fun v1 S1 => ?_)
 refine sP Try.f28 9 2 (v := v1) ?_
 refine sG Try.f28 9 3 (j := 2) (fun v3 S2 => ?_)
 refine sG Try.f28 9 4 (j := 2) (fun v4 S3 => ?_)
 refine sD Try.f28 9 5 (fun v5 S4 => ?_)
 kernel_rfl
theorem zq.r10  : jC Try.prog ⟨false, false, false⟩ (jc Try.prog O) (reg Try.f28 10) (reg Try.f28 10).toList ([V,U,Z,x3,x4,x5,x6,W,X,Y,a,c,b,d,f,g,i,k,l,m,n,o,p,q,r,s,t,u,w,x,y,z,A,B,C,D,E,F,G,H,I,J,K,L,M,N,P,Q,R]) S =
  ( some ([V,U,Z,x3,Value.slice none 0 0,Value.slice none 0 0,Value.int IntKind.i64 11,W,X,Y,a,c,b,d,f,g,i,k,l,m,n,o,p,q,r,s,t,u,w,x,y,z,A,B,C,D,E,F,G,H,I,J,K,L,M,N,P,Q,R], S)) := by
 kernel_rfl
theorem zq.r11  : jC Try.prog ⟨false, false, false⟩ (jc Try.prog O) (reg Try.f28 11) (reg Try.f28 11).toList ([V,U,Z,x3,x4,x5,x6,W,X,Y,a,c,b,d,f,g,i,k,l,m,n,o,p,q,r,s,t,u,w,x,y,z,A,B,C,D,E,F,G,H,I,J,K,L,M,N,P,Q,R]) S =
  (zI (qI Try.prog false false 42 3 (dem a) S) (fun v2 S1 => zI (wu Try.prog BinOp.sub 3 v2 (Value.int IntKind.i64 1) S1) (fun v3 S2 => zI (jR Try.prog 57 1 [(0, v3)] S2) (fun v4 S3 => zI (wY Try.prog 57 57 W v4 S3) (fun v5 S4 => some ([V,U,Z,x3,x4,x5,x6,v5,X,Y,a,c,b,d,f,g,i,k,l,m,n,o,p,q,r,s,t,u,w,x,y,z,A,B,C,D,E,F,G,H,dem W,dem a,v2,v3,v4,dem v5,P,Q,R], S4)) ()) ()) ()) ()) := by
 kernel_rfl
theorem zq.r12  : jC Try.prog ⟨false, false, false⟩ (jc Try.prog O) (reg Try.f28 12) (reg Try.f28 12).toList ([V,U,Z,x3,x4,x5,x6,W,X,Y,a,c,b,d,f,g,i,k,l,m,n,o,p,q,r,s,t,u,w,x,y,z,A,B,C,D,E,F,G,H,I,J,K,L,M,N,P,Q,R]) S =
  ( some ([V,U,Z,x3,x4,x5,x6,W,c,Y,a,dem c,b,d,f,g,i,k,l,m,n,o,p,q,r,s,t,u,w,x,y,z,A,B,C,D,E,F,G,H,I,J,K,L,M,N,dem c,Q,R], S)) := by
 kernel_rfl
theorem zq.r7  : jC Try.prog ⟨false, false, false⟩ (jc Try.prog O) (reg Try.f28 7) (reg Try.f28 7).toList ([V,U,Z,x3,x4,x5,x6,W,X,Y,a,c,b,d,f,g,i,k,l,m,n,o,p,q,r,s,t,u,w,x,y,z,A,B,C,D,E,F,G,H,I,J,K,L,M,N,P,Q,R]) S =
  (zI (wu Try.prog BinOp.add 3 (dem Y) (Value.int IntKind.i64 1) S) (fun v1 S1 => some ([V,U,Z,x3,x4,x5,x6,W,X,v1,a,c,b,d,f,g,i,k,l,m,n,o,p,q,r,s,dem Y,dem v1,w,x,y,z,A,B,C,D,E,F,G,H,I,J,K,L,M,N,P,Q,R], S1)) ()) := by
 kernel_rfl
theorem zq.r13  : jC Try.prog ⟨false, false, false⟩ (jc Try.prog O) (reg Try.f28 13) (reg Try.f28 13).toList ([V,U,Z,x3,x4,x5,x6,W,X,Y,a,c,b,d,f,g,i,k,l,m,n,o,p,q,r,s,t,u,w,x,y,z,A,B,C,D,E,F,G,H,I,J,K,L,M,N,P,Q,R]) S =
  ( some ([V,U,Z,x3,W,X,Value.int IntKind.i64 0,dem W,dem X,Y,a,c,b,d,f,g,i,k,l,m,n,o,p,q,r,s,t,u,w,x,y,z,A,B,C,D,E,F,G,H,I,J,K,L,M,N,P,dem W,dem X], S)) := by
 kernel_rfl
theorem zq.rs : type_of% (And.intro @zq.r0 (And.intro @zq.r1 (And.intro @zq.r2 (And.intro @zq.r3 (And.intro @zq.r4 (And.intro @zq.r5 (And.intro @zq.r6 (And.intro @zq.r8 (And.intro @zq.r9 (And.intro @zq.r10 (And.intro @zq.r11 (And.intro @zq.r12 (And.intro @zq.r7 (@zq.r13)))))))))))))) := And.intro @zq.r0 (And.intro @zq.r1 (And.intro @zq.r2 (And.intro @zq.r3 (And.intro @zq.r4 (And.intro @zq.r5 (And.intro @zq.r6 (And.intro @zq.r8 (And.intro @zq.r9 (And.intro @zq.r10 (And.intro @zq.r11 (And.intro @zq.r12 (And.intro @zq.r7 (@zq.r13)))))))))))))
theorem zq.runs {V U : Value} {S S1 : zk} {e : AEx} {T : List Value} (h : zF Try.prog O false zq.code ([V,U,undef,undef,undef,undef,undef,undef,undef,undef,undef,undef,undef,undef,undef,undef,undef,undef,undef,undef,undef,undef,undef,undef,undef,undef,undef,undef,undef,undef,undef,undef,undef,undef,undef,undef,undef,undef,undef,undef,undef,undef,undef,undef,undef,undef,undef,undef,undef]) S = some (e, T, S1)) (he : e = .normal ∨ e = .ret)  (h0 : jW (T.getD 4 undef) = true) (h1 : jW (T.getD 5 undef) = true) (h2 : jW (T.getD 6 undef) = true) : jc Try.prog O 28 [V, U] S = some (Value.tuple #[T.getD 4 undef, T.getD 5 undef, T.getD 6 undef], S1) :=
 yR rfl rfl Try.func28 (by decide) zq.body (by exact h) he ((yP ((show zO Try.prog T S1 Try.f28.results.toList = zO Try.prog T S1 [(ResultVar.tmp 4), (ResultVar.tmp 5), (ResultVar.tmp 6)] from by kernel_rfl).trans (by simp only [zO])) (by kernel_rfl) (by simp only [List.all_cons, List.all_nil, h0, h1, h2, Bool.and_true])).trans rfl)
end Go.Proofs.Ytbgcphbbchndkaa
namespace Go.Proofs.Ytbgcphbbchndkaa
open Go.Abs
abbrev jw.id : FuncId := 32
noncomputable def jw.jI : Code := (Code.seq (Code.region 5 (reg Try.f32 5) false) (Code.seq (Code.cond (Operand.tmp 13) Code.skip (Code.exit 0)) (Code.seq (Code.block 1 (Code.seq (Code.region 6 (reg Try.f32 6) false) (Code.seq (Code.seq (Code.region 7 (reg Try.f32 7) false) (Code.cond (Operand.tmp 17) (Code.seq (Code.region 8 (reg Try.f32 8) false) Code.ret) Code.skip)) (Code.region 9 (reg Try.f32 9) false)))) (Code.region 10 (reg Try.f32 10) false))))
noncomputable def jw.code : Code := (Code.seq (Code.region 0 (reg Try.f32 0) false) (Code.seq (Code.seq (Code.region 1 (reg Try.f32 1) false) (Code.cond (Operand.tmp 9) (Code.seq (Code.region 2 (reg Try.f32 2) false) Code.ret) Code.skip)) (Code.seq (Code.region 3 (reg Try.f32 3) false) (Code.seq (Code.seq (Code.region 4 (reg Try.f32 4) false) (Code.block 0 (Code.loop jw.jI))) (Code.seq (Code.region 11 (reg Try.f32 11) false) Code.ret)))))
theorem jw.body : Try.f32.body = some jw.code := by kernel_rfl
theorem jw.eta {T : List Value} (h : T.length = 26) : T = [T.getD 0 undef,T.getD 1 undef,T.getD 2 undef,T.getD 3 undef,T.getD 4 undef,T.getD 5 undef,T.getD 6 undef,T.getD 7 undef,T.getD 8 undef,T.getD 9 undef,T.getD 10 undef,T.getD 11 undef,T.getD 12 undef,T.getD 13 undef,T.getD 14 undef,T.getD 15 undef,T.getD 16 undef,T.getD 17 undef,T.getD 18 undef,T.getD 19 undef,T.getD 20 undef,T.getD 21 undef,T.getD 22 undef,T.getD 23 undef,T.getD 24 undef,T.getD 25 undef] := (qw T 26 h).trans (by kernel_rfl)
variable (s v A B u w t x y z b c a d f g i j k l m n o p q r : Value) (S : zk)
theorem jw.r0  : jC Try.prog ⟨false, false, false⟩ (jc Try.prog O) (reg Try.f32 0) (reg Try.f32 0).toList ([s,v,A,B,u,w,t,x,y,z,b,c,a,d,f,g,i,j,k,l,m,n,o,p,q,r]) S =
  ( some ([s,v,Value.slice none 0 0,Value.int IntKind.i64 0,u,w,t,x,y,z,b,c,a,d,f,g,i,j,k,l,m,n,o,p,q,r], S)) := by
 kernel_rfl
theorem jw.r1  : jC Try.prog ⟨false, false, false⟩ (jc Try.prog O) (reg Try.f32 1) (reg Try.f32 1).toList ([s,v,A,B,u,w,t,x,y,z,b,c,a,d,f,g,i,j,k,l,m,n,o,p,q,r]) S =
  (zI (Zz Try.prog 57 (dem s) S) (fun D C => zI (wu Try.prog BinOp.gtr 3 D (Value.int IntKind.i64 64) C) (fun G F => some ([s,v,A,B,u,w,t,dem s,D,G,b,c,a,d,f,g,i,j,k,l,m,n,o,p,q,r], F)) ()) ()) := by
 kernel_rfl
theorem jw.r2  : jC Try.prog ⟨false, false, false⟩ (jc Try.prog O) (reg Try.f32 2) (reg Try.f32 2).toList ([s,v,A,B,u,w,t,x,y,z,b,c,a,d,f,g,i,j,k,l,m,n,o,p,q,r]) S =
  ( some ([s,v,Value.slice none 0 0,Value.int IntKind.i64 11,u,w,t,x,y,z,b,c,a,d,f,g,i,j,k,l,m,n,o,p,q,r], S)) := by
 kernel_rfl
theorem jw.r3  : jC Try.prog ⟨false, false, false⟩ (jc Try.prog O) (reg Try.f32 3) (reg Try.f32 3).toList ([s,v,A,B,u,w,t,x,y,z,b,c,a,d,f,g,i,j,k,l,m,n,o,p,q,r]) S =
  ( some ([s,v,A,B,Value.slice none 0 0,w,t,x,y,z,b,c,a,d,f,g,i,j,k,l,m,n,o,p,q,r], S)) := by
 kernel_rfl
theorem jw.r4  : jC Try.prog ⟨false, false, false⟩ (jc Try.prog O) (reg Try.f32 4) (reg Try.f32 4).toList ([s,v,A,B,u,w,t,x,y,z,b,c,a,d,f,g,i,j,k,l,m,n,o,p,q,r]) S =
  (zI (Zz Try.prog 57 (dem s) S) (fun D C => some ([s,v,A,B,u,w,t,x,y,z,dem s,D,Value.int IntKind.i64 0,d,f,g,i,j,k,l,m,n,o,p,q,r], C)) ()) := by
 kernel_rfl
theorem jw.r5  : jC Try.prog ⟨false, false, false⟩ (jc Try.prog O) (reg Try.f32 5) (reg Try.f32 5).toList ([s,v,A,B,u,w,t,x,y,z,b,c,a,d,f,g,i,j,k,l,m,n,o,p,q,r]) S =
  (zI (wu Try.prog BinOp.lss 3 a c S) (fun E C => some ([s,v,A,B,u,w,t,x,y,z,b,c,a,E,f,g,i,j,k,l,m,n,o,p,q,r], C)) ()) := by
 kernel_rfl
theorem jw.r6  : jC Try.prog ⟨false, false, false⟩ (jc Try.prog O) (reg Try.f32 6) (reg Try.f32 6).toList ([s,v,A,B,u,w,t,x,y,z,b,c,a,d,f,g,i,j,k,l,m,n,o,p,q,r]) S =
  (zI (jo Try.prog 57 b a S) (fun E C => zI (jf Try.prog false 3 E C) (fun D F => some ([s,v,A,B,u,w,D,x,y,z,b,c,a,d,E,dem D,i,j,k,l,m,n,o,p,q,r], F)) ()) ()) := by
 kernel_rfl
theorem jw.r7  : jC Try.prog ⟨false, false, false⟩ (jc Try.prog O) (reg Try.f32 7) (reg Try.f32 7).toList ([s,v,A,B,u,w,t,x,y,z,b,c,a,d,f,g,i,j,k,l,m,n,o,p,q,r]) S =
  (zI (wu Try.prog BinOp.lss 3 (dem t) (Value.int IntKind.i64 (-1)) S) (fun D C => some ([s,v,A,B,u,w,t,x,y,z,b,c,a,d,f,g,dem t,D,k,l,m,n,o,p,q,r], C)) ()) := by
 kernel_rfl
theorem jw.r8  : jC Try.prog ⟨false, false, false⟩ (jc Try.prog O) (reg Try.f32 8) (reg Try.f32 8).toList ([s,v,A,B,u,w,t,x,y,z,b,c,a,d,f,g,i,j,k,l,m,n,o,p,q,r]) S =
  ( some ([s,v,Value.slice none 0 0,Value.int IntKind.i64 11,u,w,t,x,y,z,b,c,a,d,f,g,i,j,k,l,m,n,o,p,q,r], S)) := by
 kernel_rfl
theorem jw.r9  : jC Try.prog ⟨false, false, false⟩ (jc Try.prog O) (reg Try.f32 9) (reg Try.f32 9).toList ([s,v,A,B,u,w,t,x,y,z,b,c,a,d,f,g,i,j,k,l,m,n,o,p,q,r]) S =
  (zI (qI Try.prog false false 3 42 (dem t) S) (fun G C => zI (wu Try.prog BinOp.add 42 G (Value.int IntKind.u64 1) C) (fun H F => zI ((jc Try.prog O) 35 [(dem H)] F) (fun I K => zI (wY Try.prog 23 23 u I K) (fun J L => some ([s,v,A,B,J,w,t,x,y,z,b,c,a,d,f,g,i,j,dem u,dem t,G,H,I,dem J,q,r], L)) ()) ()) ()) ()) := by
 kernel_rfl
theorem jw.r10  : jC Try.prog ⟨false, false, false⟩ (jc Try.prog O) (reg Try.f32 10) (reg Try.f32 10).toList ([s,v,A,B,u,w,t,x,y,z,b,c,a,d,f,g,i,j,k,l,m,n,o,p,q,r]) S =
  (zI (wu Try.prog BinOp.add 3 a (Value.int IntKind.i64 1) S) (fun E C => some ([s,v,A,B,u,w,t,x,y,z,b,c,dem E,d,f,g,i,j,k,l,m,n,o,p,E,r], C)) ()) := by
 kernel_rfl
theorem jw.r11  : jC Try.prog ⟨false, false, false⟩ (jc Try.prog O) (reg Try.f32 11) (reg Try.f32 11).toList ([s,v,A,B,u,w,t,x,y,z,b,c,a,d,f,g,i,j,k,l,m,n,o,p,q,r]) S =
  ( some ([s,v,u,Value.int IntKind.i64 0,dem u,w,t,x,y,z,b,c,a,d,f,g,i,j,k,l,m,n,o,p,q,dem u], S)) := by
 kernel_rfl
theorem jw.rs : type_of% (And.intro @jw.r0 (And.intro @jw.r1 (And.intro @jw.r2 (And.intro @jw.r3 (And.intro @jw.r4 (And.intro @jw.r5 (And.intro @jw.r6 (And.intro @jw.r7 (And.intro @jw.r8 (And.intro @jw.r9 (And.intro @jw.r10 (@jw.r11)))))))))))) := And.intro @jw.r0 (And.intro @jw.r1 (And.intro @jw.r2 (And.intro @jw.r3 (And.intro @jw.r4 (And.intro @jw.r5 (And.intro @jw.r6 (And.intro @jw.r7 (And.intro @jw.r8 (And.intro @jw.r9 (And.intro @jw.r10 (@jw.r11)))))))))))
theorem jw.runs {s : Value} {S C : zk} {e : AEx} {T : List Value} (h : zF Try.prog O false jw.code ([s,undef,undef,undef,undef,undef,undef,undef,undef,undef,undef,undef,undef,undef,undef,undef,undef,undef,undef,undef,undef,undef,undef,undef,undef,undef]) S = some (e, T, C)) (he : e = .normal ∨ e = .ret)  (h0 : jW (T.getD 2 undef) = true) (h1 : jW (T.getD 3 undef) = true) : jc Try.prog O 32 [s] S = some (Value.tuple #[T.getD 2 undef, T.getD 3 undef], C) :=
 yR rfl rfl Try.func32 (by decide) jw.body (by exact h) he ((yP ((show zO Try.prog T C Try.f32.results.toList = zO Try.prog T C [(ResultVar.tmp 2), (ResultVar.tmp 3)] from by kernel_rfl).trans (by simp only [zO])) (by kernel_rfl) (by simp only [List.all_cons, List.all_nil, h0, h1, Bool.and_true])).trans rfl)
end Go.Proofs.Ytbgcphbbchndkaa
namespace Go.Proofs.Ytbgcphbbchndkaa
open Go.Abs
abbrev zB.id : FuncId := 42
noncomputable def zB.jI : Code := (Code.seq (Code.region 5 (reg Try.f42 5) false) (Code.seq (Code.cond (Operand.tmp 14) Code.skip (Code.exit 0)) (Code.seq (Code.block 1 (Code.seq (Code.region 6 (reg Try.f42 6) false) (Code.seq (Code.seq (Code.region 7 (reg Try.f42 7) false) (Code.cond (Operand.tmp 18) (Code.seq (Code.region 8 (reg Try.f42 8) false) Code.ret) Code.skip)) (Code.region 9 (reg Try.f42 9) false)))) (Code.region 10 (reg Try.f42 10) false))))
noncomputable def zB.code : Code := (Code.seq (Code.region 0 (reg Try.f42 0) false) (Code.seq (Code.seq (Code.region 1 (reg Try.f42 1) false) (Code.cond (Operand.tmp 9) (Code.seq (Code.region 2 (reg Try.f42 2) false) Code.ret) Code.skip)) (Code.seq (Code.region 3 (reg Try.f42 3) false) (Code.seq (Code.seq (Code.region 4 (reg Try.f42 4) false) (Code.block 0 (Code.loop zB.jI))) (Code.seq (Code.region 11 (reg Try.f42 11) false) Code.ret)))))
theorem zB.body : Try.f42.body = some zB.code := by kernel_rfl
theorem zB.eta {T : List Value} (h : T.length = 27) : T = [T.getD 0 undef,T.getD 1 undef,T.getD 2 undef,T.getD 3 undef,T.getD 4 undef,T.getD 5 undef,T.getD 6 undef,T.getD 7 undef,T.getD 8 undef,T.getD 9 undef,T.getD 10 undef,T.getD 11 undef,T.getD 12 undef,T.getD 13 undef,T.getD 14 undef,T.getD 15 undef,T.getD 16 undef,T.getD 17 undef,T.getD 18 undef,T.getD 19 undef,T.getD 20 undef,T.getD 21 undef,T.getD 22 undef,T.getD 23 undef,T.getD 24 undef,T.getD 25 undef,T.getD 26 undef] := (qw T 27 h).trans (by kernel_rfl)
variable (t w B C v x u y z A d b c a f g i j k l m n o p q r s : Value) (S : zk)
theorem zB.r0  : jC Try.prog ⟨false, false, false⟩ (jc Try.prog O) (reg Try.f42 0) (reg Try.f42 0).toList ([t,w,B,C,v,x,u,y,z,A,d,b,c,a,f,g,i,j,k,l,m,n,o,p,q,r,s]) S =
  ( some ([t,w,Value.slice none 0 0,Value.int IntKind.i64 0,v,x,u,y,z,A,d,b,c,a,f,g,i,j,k,l,m,n,o,p,q,r,s], S)) := by
 kernel_rfl
theorem zB.r1  : jC Try.prog ⟨false, false, false⟩ (jc Try.prog O) (reg Try.f42 1) (reg Try.f42 1).toList ([t,w,B,C,v,x,u,y,z,A,d,b,c,a,f,g,i,j,k,l,m,n,o,p,q,r,s]) S =
  (zI (Zz Try.prog 57 (dem t) S) (fun F D => zI (wu Try.prog BinOp.gtr 3 F (Value.int IntKind.i64 64) D) (fun H G => some ([t,w,B,C,v,x,u,dem t,F,H,d,b,c,a,f,g,i,j,k,l,m,n,o,p,q,r,s], G)) ()) ()) := by
 kernel_rfl
theorem zB.r2  : jC Try.prog ⟨false, false, false⟩ (jc Try.prog O) (reg Try.f42 2) (reg Try.f42 2).toList ([t,w,B,C,v,x,u,y,z,A,d,b,c,a,f,g,i,j,k,l,m,n,o,p,q,r,s]) S =
  ( some ([t,w,Value.slice none 0 0,Value.int IntKind.i64 11,v,x,u,y,z,A,d,b,c,a,f,g,i,j,k,l,m,n,o,p,q,r,s], S)) := by
 kernel_rfl
theorem zB.r3  : jC Try.prog ⟨false, false, false⟩ (jc Try.prog O) (reg Try.f42 3) (reg Try.f42 3).toList ([t,w,B,C,v,x,u,y,z,A,d,b,c,a,f,g,i,j,k,l,m,n,o,p,q,r,s]) S =
  (zI (jR Try.prog 23 0 [] S) (fun E D => some ([t,w,B,C,E,x,u,y,z,A,dem E,b,c,a,f,g,i,j,k,l,m,n,o,p,q,r,s], D)) ()) := by
 kernel_rfl
theorem zB.r4  : jC Try.prog ⟨false, false, false⟩ (jc Try.prog O) (reg Try.f42 4) (reg Try.f42 4).toList ([t,w,B,C,v,x,u,y,z,A,d,b,c,a,f,g,i,j,k,l,m,n,o,p,q,r,s]) S =
  (zI (Zz Try.prog 57 (dem t) S) (fun F D => some ([t,w,B,C,v,x,u,y,z,A,d,dem t,F,Value.int IntKind.i64 0,f,g,i,j,k,l,m,n,o,p,q,r,s], D)) ()) := by
 kernel_rfl
theorem zB.r5  : jC Try.prog ⟨false, false, false⟩ (jc Try.prog O) (reg Try.f42 5) (reg Try.f42 5).toList ([t,w,B,C,v,x,u,y,z,A,d,b,c,a,f,g,i,j,k,l,m,n,o,p,q,r,s]) S =
  (zI (wu Try.prog BinOp.lss 3 a c S) (fun E D => some ([t,w,B,C,v,x,u,y,z,A,d,b,c,a,E,g,i,j,k,l,m,n,o,p,q,r,s], D)) ()) := by
 kernel_rfl
theorem zB.r6  : jC Try.prog ⟨false, false, false⟩ (jc Try.prog O) (reg Try.f42 6) (reg Try.f42 6).toList ([t,w,B,C,v,x,u,y,z,A,d,b,c,a,f,g,i,j,k,l,m,n,o,p,q,r,s]) S =
  (zI (jo Try.prog 57 b a S) (fun E D => zI (jf Try.prog false 3 E D) (fun F G => some ([t,w,B,C,v,x,F,y,z,A,d,b,c,a,f,E,dem F,j,k,l,m,n,o,p,q,r,s], G)) ()) ()) := by
 kernel_rfl
theorem zB.r7  : jC Try.prog ⟨false, false, false⟩ (jc Try.prog O) (reg Try.f42 7) (reg Try.f42 7).toList ([t,w,B,C,v,x,u,y,z,A,d,b,c,a,f,g,i,j,k,l,m,n,o,p,q,r,s]) S =
  (zI (wu Try.prog BinOp.lss 3 (dem u) (Value.int IntKind.i64 (-1)) S) (fun F D => some ([t,w,B,C,v,x,u,y,z,A,d,b,c,a,f,g,i,dem u,F,l,m,n,o,p,q,r,s], D)) ()) := by
 kernel_rfl
theorem zB.r8  : jC Try.prog ⟨false, false, false⟩ (jc Try.prog O) (reg Try.f42 8) (reg Try.f42 8).toList ([t,w,B,C,v,x,u,y,z,A,d,b,c,a,f,g,i,j,k,l,m,n,o,p,q,r,s]) S =
  ( some ([t,w,Value.slice none 0 0,Value.int IntKind.i64 11,v,x,u,y,z,A,d,b,c,a,f,g,i,j,k,l,m,n,o,p,q,r,s], S)) := by
 kernel_rfl
theorem zB.r9  : jC Try.prog ⟨false, false, false⟩ (jc Try.prog O) (reg Try.f42 9) (reg Try.f42 9).toList ([t,w,B,C,v,x,u,y,z,A,d,b,c,a,f,g,i,j,k,l,m,n,o,p,q,r,s]) S =
  (zI (qI Try.prog false false 3 42 (dem u) S) (fun H D => zI (wu Try.prog BinOp.add 42 H (Value.int IntKind.u64 1) D) (fun I G => zI ((jc Try.prog O) 17 [(dem I)] G) (fun J L => zI (wY Try.prog 23 23 v J L) (fun K M => some ([t,w,B,C,K,x,u,y,z,A,d,b,c,a,f,g,i,j,k,dem v,dem u,H,I,J,dem K,r,s], M)) ()) ()) ()) ()) := by
 kernel_rfl
theorem zB.r10  : jC Try.prog ⟨false, false, false⟩ (jc Try.prog O) (reg Try.f42 10) (reg Try.f42 10).toList ([t,w,B,C,v,x,u,y,z,A,d,b,c,a,f,g,i,j,k,l,m,n,o,p,q,r,s]) S =
  (zI (wu Try.prog BinOp.add 3 a (Value.int IntKind.i64 1) S) (fun E D => some ([t,w,B,C,v,x,u,y,z,A,d,b,c,dem E,f,g,i,j,k,l,m,n,o,p,q,E,s], D)) ()) := by
 kernel_rfl
theorem zB.r11  : jC Try.prog ⟨false, false, false⟩ (jc Try.prog O) (reg Try.f42 11) (reg Try.f42 11).toList ([t,w,B,C,v,x,u,y,z,A,d,b,c,a,f,g,i,j,k,l,m,n,o,p,q,r,s]) S =
  ( some ([t,w,v,Value.int IntKind.i64 0,dem v,x,u,y,z,A,d,b,c,a,f,g,i,j,k,l,m,n,o,p,q,r,dem v], S)) := by
 kernel_rfl
theorem zB.rs : type_of% (And.intro @zB.r0 (And.intro @zB.r1 (And.intro @zB.r2 (And.intro @zB.r3 (And.intro @zB.r4 (And.intro @zB.r5 (And.intro @zB.r6 (And.intro @zB.r7 (And.intro @zB.r8 (And.intro @zB.r9 (And.intro @zB.r10 (@zB.r11)))))))))))) := And.intro @zB.r0 (And.intro @zB.r1 (And.intro @zB.r2 (And.intro @zB.r3 (And.intro @zB.r4 (And.intro @zB.r5 (And.intro @zB.r6 (And.intro @zB.r7 (And.intro @zB.r8 (And.intro @zB.r9 (And.intro @zB.r10 (@zB.r11)))))))))))
theorem zB.runs {t : Value} {S D : zk} {e : AEx} {T : List Value} (h : zF Try.prog O false zB.code ([t,undef,undef,undef,undef,undef,undef,undef,undef,undef,undef,undef,undef,undef,undef,undef,undef,undef,undef,undef,undef,undef,undef,undef,undef,undef,undef]) S = some (e, T, D)) (he : e = .normal ∨ e = .ret)  (h0 : jW (T.getD 2 undef) = true) (h1 : jW (T.getD 3 undef) = true) : jc Try.prog O 42 [t] S = some (Value.tuple #[T.getD 2 undef, T.getD 3 undef], D) :=
 yR rfl rfl Try.func42 (by decide) zB.body (by exact h) he ((yP ((show zO Try.prog T D Try.f42.results.toList = zO Try.prog T D [(ResultVar.tmp 2), (ResultVar.tmp 3)] from by kernel_rfl).trans (by simp only [zO])) (by kernel_rfl) (by simp only [List.all_cons, List.all_nil, h0, h1, Bool.and_true])).trans rfl)
end Go.Proofs.Ytbgcphbbchndkaa
namespace Go.Proofs.Ytbgcphbbchndkaa
open Go.Abs
abbrev zx.id : FuncId := 16
noncomputable def zx.jI : Code := (Code.seq (Code.seq (Code.region 4 (reg Try.f16 4) false) (Code.cond (Operand.tmp 17) Code.skip (Code.exit 0))) (Code.seq (Code.block 1 (Code.seq (Code.region 6 (reg Try.f16 6) false) (Code.seq (Code.seq (Code.region 7 (reg Try.f16 7) false) (Code.cond (Operand.tmp 31) (Code.seq (Code.region 8 (reg Try.f16 8) false) Code.ret) Code.skip)) (Code.seq (Code.region 9 (reg Try.f16 9) false) (Code.seq (Code.region 10 (reg Try.f16 10) false) (Code.seq (Code.region 11 (reg Try.f16 11) false) (Code.cond (Operand.tmp 43) (Code.seq (Code.region 12 (reg Try.f16 12) false) (Code.seq (Code.seq (Code.region 13 (reg Try.f16 13) false) (Code.cond (Operand.tmp 50) (Code.seq (Code.region 14 (reg Try.f16 14) false) Code.ret) Code.skip)) (Code.seq (Code.region 15 (reg Try.f16 15) false) Code.ret))) Code.skip))))))) (Code.region 5 (reg Try.f16 5) false)))
noncomputable def zx.code : Code := (Code.seq (Code.region 0 (reg Try.f16 0) false) (Code.seq (Code.region 1 (reg Try.f16 1) false) (Code.seq (Code.region 2 (reg Try.f16 2) false) (Code.seq (Code.seq (Code.region 3 (reg Try.f16 3) false) (Code.block 0 (Code.loop zx.jI))) (Code.seq (Code.region 16 (reg Try.f16 16) false) Code.ret)))))
theorem zx.body : Try.f16.body = some zx.code := by kernel_rfl
theorem zx.eta {T : List Value} (h : T.length = 58) : T = [T.getD 0 undef,T.getD 1 undef,T.getD 2 undef,T.getD 3 undef,T.getD 4 undef,T.getD 5 undef,T.getD 6 undef,T.getD 7 undef,T.getD 8 undef,T.getD 9 undef,T.getD 10 undef,T.getD 11 undef,T.getD 12 undef,T.getD 13 undef,T.getD 14 undef,T.getD 15 undef,T.getD 16 undef,T.getD 17 undef,T.getD 18 undef,T.getD 19 undef,T.getD 20 undef,T.getD 21 undef,T.getD 22 undef,T.getD 23 undef,T.getD 24 undef,T.getD 25 undef,T.getD 26 undef,T.getD 27 undef,T.getD 28 undef,T.getD 29 undef,T.getD 30 undef,T.getD 31 undef,T.getD 32 undef,T.getD 33 undef,T.getD 34 undef,T.getD 35 undef,T.getD 36 undef,T.getD 37 undef,T.getD 38 undef,T.getD 39 undef,T.getD 40 undef,T.getD 41 undef,T.getD 42 undef,T.getD 43 undef,T.getD 44 undef,T.getD 45 undef,T.getD 46 undef,T.getD 47 undef,T.getD 48 undef,T.getD 49 undef,T.getD 50 undef,T.getD 51 undef,T.getD 52 undef,T.getD 53 undef,T.getD 54 undef,T.getD 55 undef,T.getD 56 undef,T.getD 57 undef] := (qw T 58 h).trans (by kernel_rfl)
theorem zx.list {T : List Value} (h : T.length = 58) : ∃ x0 x1 x2 x3 x4 x5 x6 x7 x8 x9 a b c d f g i k l m n o p q r s t u w x y z A B C D E F G H I J K L M N P Q R U V W X Y Z a0 a1 a2, T = [x0,x1,x2,x3,x4,x5,x6,x7,x8,x9,a,b,c,d,f,g,i,k,l,m,n,o,p,q,r,s,t,u,w,x,y,z,A,B,C,D,E,F,G,H,I,J,K,L,M,N,P,Q,R,U,V,W,X,Y,Z,a0,a1,a2] := ⟨_, _, _, _, _, _, _, _, _, _, _, _, _, _, _, _, _, _, _, _, _, _, _, _, _, _, _, _, _, _, _, _, _, _, _, _, _, _, _, _, _, _, _, _, _, _, _, _, _, _, _, _, _, _, _, _, _, _, zx.eta h⟩
variable (x0 x1 x2 x3 x4 x5 x6 x7 x8 x9 a b c d f g i k l m n o p q r s t u w x y z A B C D E F G H I J K L M N P Q R U V W X Y Z a0 a1 a2 : Value) (S : zk)
theorem zx.r0  : jC Try.prog ⟨false, false, false⟩ (jc Try.prog O) (reg Try.f16 0) (reg Try.f16 0).toList ([x0,x1,x2,x3,x4,x5,x6,x7,x8,x9,a,b,c,d,f,g,i,k,l,m,n,o,p,q,r,s,t,u,w,x,y,z,A,B,C,D,E,F,G,H,I,J,K,L,M,N,P,Q,R,U,V,W,X,Y,Z,a0,a1,a2]) S =
  ( some ([x0,x1,Value.int IntKind.u64 0,Value.slice none 0 0,Value.int IntKind.i64 0,x5,x6,x7,x8,x9,a,b,c,d,f,g,i,k,l,m,n,o,p,q,r,s,t,u,w,x,y,z,A,B,C,D,E,F,G,H,I,J,K,L,M,N,P,Q,R,U,V,W,X,Y,Z,a0,a1,a2], S)) := by
 kernel_rfl
theorem zx.r1  : jC Try.prog ⟨false, false, false⟩ (jc Try.prog O) (reg Try.f16 1) (reg Try.f16 1).toList ([x0,x1,x2,x3,x4,x5,x6,x7,x8,x9,a,b,c,d,f,g,i,k,l,m,n,o,p,q,r,s,t,u,w,x,y,z,A,B,C,D,E,F,G,H,I,J,K,L,M,N,P,Q,R,U,V,W,X,Y,Z,a0,a1,a2]) S =
  ( some ([x0,x1,x2,x3,x4,Value.int IntKind.u64 0,x6,x7,x8,x9,a,b,c,d,f,g,i,k,l,m,n,o,p,q,r,s,t,u,w,x,y,z,A,B,C,D,E,F,G,H,I,J,K,L,M,N,P,Q,R,U,V,W,X,Y,Z,a0,a1,a2], S)) := by
 kernel_rfl
theorem zx.r2  : jC Try.prog ⟨false, false, false⟩ (jc Try.prog O) (reg Try.f16 2) (reg Try.f16 2).toList ([x0,x1,x2,x3,x4,x5,x6,x7,x8,x9,a,b,c,d,f,g,i,k,l,m,n,o,p,q,r,s,t,u,w,x,y,z,A,B,C,D,E,F,G,H,I,J,K,L,M,N,P,Q,R,U,V,W,X,Y,Z,a0,a1,a2]) S =
  ( some ([x0,x1,x2,x3,x4,x5,Value.int IntKind.u64 1,x7,x8,x9,a,b,c,d,f,g,i,k,l,m,n,o,p,q,r,s,t,u,w,x,y,z,A,B,C,D,E,F,G,H,I,J,K,L,M,N,P,Q,R,U,V,W,X,Y,Z,a0,a1,a2], S)) := by
 kernel_rfl
theorem zx.r3  : jC Try.prog ⟨false, false, false⟩ (jc Try.prog O) (reg Try.f16 3) (reg Try.f16 3).toList ([x0,x1,x2,x3,x4,x5,x6,x7,x8,x9,a,b,c,d,f,g,i,k,l,m,n,o,p,q,r,s,t,u,w,x,y,z,A,B,C,D,E,F,G,H,I,J,K,L,M,N,P,Q,R,U,V,W,X,Y,Z,a0,a1,a2]) S =
  ( some ([x0,x1,x2,x3,x4,x5,x6,Value.int IntKind.i64 0,x8,x9,a,b,c,d,f,g,i,k,l,m,n,o,p,q,r,s,t,u,w,x,y,z,A,B,C,D,E,F,G,H,I,J,K,L,M,N,P,Q,R,U,V,W,X,Y,Z,a0,a1,a2], S)) := by
 kernel_rfl
theorem zx.r4  : jC Try.prog ⟨false, false, false⟩ (jc Try.prog O) (reg Try.f16 4) (reg Try.f16 4).toList ([x0,x1,x2,x3,x4,x5,x6,x7,x8,x9,a,b,c,d,f,g,i,k,l,m,n,o,p,q,r,s,t,u,w,x,y,z,A,B,C,D,E,F,G,H,I,J,K,L,M,N,P,Q,R,U,V,W,X,Y,Z,a0,a1,a2]) S =
  (zI (Zz Try.prog 23 (dem x0) S) (fun v2 S1 => zI (wu Try.prog BinOp.lss 3 (dem x7) v2 S1) (fun v3 S2 => gdK (dem v3) true (ret x7) S2 (fun v5 S3 => gdK (dem v3) true (wu Try.prog BinOp.lss 3 (dem v5) (Value.int IntKind.i64 10)) S3 (fun v6 S4 => zI (wJ (dem v3) v6 (Value.bool false) S4) (fun v7 S5 => some ([x0,x1,x2,x3,x4,x5,x6,x7,x8,x9,dem x7,dem x0,v2,v3,dem v3,dem v5,v6,v7,l,m,n,o,p,q,r,s,t,u,w,x,y,z,A,B,C,D,E,F,G,H,I,J,K,L,M,N,P,Q,R,U,V,W,X,Y,Z,a0,a1,a2], S5)) ()) ()) ()) ()) ()) := by
 refine sP Try.f16 4 0 (v := x7) ?_
 refine sP Try.f16 4 1 (v := x0) ?_
 refine sD Try.f16 4 2 (fun v2 S1 => ?_)
 refine sD Try.f16 4 3 (fun v3 S2 => ?_)
 refine sP Try.f16 4 4 (v := v3) ?_
 refine sG Try.f16 4 5 (j := 4) (fun v5 S3 => ?_)
 refine sG Try.f16 4 6 (j := 4) (fun v6 S4 => ?_)
 refine sD Try.f16 4 7 (fun v7 S5 => ?_)
 kernel_rfl
theorem zx.r6  : jC Try.prog ⟨false, false, false⟩ (jc Try.prog O) (reg Try.f16 6) (reg Try.f16 6).toList ([x0,x1,x2,x3,x4,x5,x6,x7,x8,x9,a,b,c,d,f,g,i,k,l,m,n,o,p,q,r,s,t,u,w,x,y,z,A,B,C,D,E,F,G,H,I,J,K,L,M,N,P,Q,R,U,V,W,X,Y,Z,a0,a1,a2]) S =
  (zI (jo Try.prog 23 (dem x0) (dem x7) S) (fun v2 S1 => zI (jf Try.prog false 5 v2 S1) (fun v3 S2 => zI (wu Try.prog BinOp.rem 5 v3 (Value.int IntKind.u8 128) S2) (fun v4 S3 => zI (qI Try.prog false false 5 42 v4 S3) (fun v5 S4 => some ([x0,x1,x2,x3,x4,x5,x6,x7,v5,x9,a,b,c,d,f,g,i,k,l,m,dem x0,dem x7,v2,v3,v4,dem v5,t,u,w,x,y,z,A,B,C,D,E,F,G,H,I,J,K,L,M,N,P,Q,R,U,V,W,X,Y,Z,a0,a1,a2], S4)) ()) ()) ()) ()) := by
 kernel_rfl
theorem zx.r7  : jC Try.prog ⟨false, false, false⟩ (jc Try.prog O) (reg Try.f16 7) (reg Try.f16 7).toList ([x0,x1,x2,x3,x4,x5,x6,x7,x8,x9,a,b,c,d,f,g,i,k,l,m,n,o,p,q,r,s,t,u,w,x,y,z,A,B,C,D,E,F,G,H,I,J,K,L,M,N,P,Q,R,U,V,W,X,Y,Z,a0,a1,a2]) S =
  (zI (wu Try.prog BinOp.eql 3 (dem x7) (Value.int IntKind.i64 9) S) (fun v1 S1 => gdK (dem v1) true (ret x8) S1 (fun v3 S2 => gdK (dem v1) true (wu Try.prog BinOp.gtr 42 (dem v3) (Value.int IntKind.u64 1)) S2 (fun v4 S3 => zI (wJ (dem v1) v4 (Value.bool false) S3) (fun v5 S4 => some ([x0,x1,x2,x3,x4,x5,x6,x7,x8,x9,a,b,c,d,f,g,i,k,l,m,n,o,p,q,r,s,dem x7,v1,dem v1,dem v3,v4,v5,A,B,C,D,E,F,G,H,I,J,K,L,M,N,P,Q,R,U,V,W,X,Y,Z,a0,a1,a2], S4)) ()) ()) ()) ()) := by
 refine sP Try.f16 7 0 (v := x7) ?_
 refine sD Try.f16 7 1 (fun v1 S1 => ?_)
 refine sP Try.f16 7 2 (v := v1) ?_
 refine sG Try.f16 7 3 (j := 2) (fun v3 S2 => ?_)
 refine sG Try.f16 7 4 (j := 2) (fun v4 S3 => ?_)
 refine sD Try.f16 7 5 (fun v5 S4 => ?_)
 kernel_rfl
theorem zx.r8  : jC Try.prog ⟨false, false, false⟩ (jc Try.prog O) (reg Try.f16 8) (reg Try.f16 8).toList ([x0,x1,x2,x3,x4,x5,x6,x7,x8,x9,a,b,c,d,f,g,i,k,l,m,n,o,p,q,r,s,t,u,w,x,y,z,A,B,C,D,E,F,G,H,I,J,K,L,M,N,P,Q,R,U,V,W,X,Y,Z,a0,a1,a2]) S =
  ( some ([x0,x1,Value.int IntKind.u64 0,Value.slice none 0 0,Value.int IntKind.i64 11,x5,x6,x7,x8,x9,a,b,c,d,f,g,i,k,l,m,n,o,p,q,r,s,t,u,w,x,y,z,A,B,C,D,E,F,G,H,I,J,K,L,M,N,P,Q,R,U,V,W,X,Y,Z,a0,a1,a2], S)) := by
 kernel_rfl
theorem zx.r9  : jC Try.prog ⟨false, false, false⟩ (jc Try.prog O) (reg Try.f16 9) (reg Try.f16 9).toList ([x0,x1,x2,x3,x4,x5,x6,x7,x8,x9,a,b,c,d,f,g,i,k,l,m,n,o,p,q,r,s,t,u,w,x,y,z,A,B,C,D,E,F,G,H,I,J,K,L,M,N,P,Q,R,U,V,W,X,Y,Z,a0,a1,a2]) S =
  (zI (wu Try.prog BinOp.mul 42 (dem x8) (dem x6) S) (fun v3 S1 => zI (wu Try.prog BinOp.add 42 (dem x5) v3 S1) (fun v4 S2 => some ([x0,x1,x2,x3,x4,v4,x6,x7,x8,x9,a,b,c,d,f,g,i,k,l,m,n,o,p,q,r,s,t,u,w,x,y,z,dem x5,dem x8,dem x6,v3,dem v4,F,G,H,I,J,K,L,M,N,P,Q,R,U,V,W,X,Y,Z,a0,a1,a2], S2)) ()) ()) := by
 kernel_rfl
theorem zx.r10  : jC Try.prog ⟨false, false, false⟩ (jc Try.prog O) (reg Try.f16 10) (reg Try.f16 10).toList ([x0,x1,x2,x3,x4,x5,x6,x7,x8,x9,a,b,c,d,f,g,i,k,l,m,n,o,p,q,r,s,t,u,w,x,y,z,A,B,C,D,E,F,G,H,I,J,K,L,M,N,P,Q,R,U,V,W,X,Y,Z,a0,a1,a2]) S =
  (zI (wu Try.prog BinOp.mul 42 (dem x6) (Value.int IntKind.u64 128) S) (fun v1 S1 => some ([x0,x1,x2,x3,x4,x5,v1,x7,x8,x9,a,b,c,d,f,g,i,k,l,m,n,o,p,q,r,s,t,u,w,x,y,z,A,B,C,D,E,dem x6,dem v1,H,I,J,K,L,M,N,P,Q,R,U,V,W,X,Y,Z,a0,a1,a2], S1)) ()) := by
 kernel_rfl
theorem zx.r11  : jC Try.prog ⟨false, false, false⟩ (jc Try.prog O) (reg Try.f16 11) (reg Try.f16 11).toList ([x0,x1,x2,x3,x4,x5,x6,x7,x8,x9,a,b,c,d,f,g,i,k,l,m,n,o,p,q,r,s,t,u,w,x,y,z,A,B,C,D,E,F,G,H,I,J,K,L,M,N,P,Q,R,U,V,W,X,Y,Z,a0,a1,a2]) S =
  (zI (jo Try.prog 23 (dem x0) (dem x7) S) (fun v2 S1 => zI (jf Try.prog false 5 v2 S1) (fun v3 S2 => zI (wu Try.prog BinOp.lss 5 v3 (Value.int IntKind.u8 128) S2) (fun v4 S3 => some ([x0,x1,x2,x3,x4,x5,x6,x7,x8,x9,a,b,c,d,f,g,i,k,l,m,n,o,p,q,r,s,t,u,w,x,y,z,A,B,C,D,E,F,G,dem x0,dem x7,v2,v3,v4,M,N,P,Q,R,U,V,W,X,Y,Z,a0,a1,a2], S3)) ()) ()) ()) := by
 kernel_rfl
theorem zx.r12  : jC Try.prog ⟨false, false, false⟩ (jc Try.prog O) (reg Try.f16 12) (reg Try.f16 12).toList ([x0,x1,x2,x3,x4,x5,x6,x7,x8,x9,a,b,c,d,f,g,i,k,l,m,n,o,p,q,r,s,t,u,w,x,y,z,A,B,C,D,E,F,G,H,I,J,K,L,M,N,P,Q,R,U,V,W,X,Y,Z,a0,a1,a2]) S =
  (zI ((jc Try.prog O) 17 [(dem (dem x5))] S) (fun v1 S1 => some ([x0,x1,x2,x3,x4,x5,x6,x7,x8,v1,a,b,c,d,f,g,i,k,l,m,n,o,p,q,r,s,t,u,w,x,y,z,A,B,C,D,E,F,G,H,I,J,K,L,dem x5,dem v1,P,Q,R,U,V,W,X,Y,Z,a0,a1,a2], S1)) ()) := by
 kernel_rfl
theorem zx.r13  : jC Try.prog ⟨false, false, false⟩ (jc Try.prog O) (reg Try.f16 13) (reg Try.f16 13).toList ([x0,x1,x2,x3,x4,x5,x6,x7,x8,x9,a,b,c,d,f,g,i,k,l,m,n,o,p,q,r,s,t,u,w,x,y,z,A,B,C,D,E,F,G,H,I,J,K,L,M,N,P,Q,R,U,V,W,X,Y,Z,a0,a1,a2]) S =
  (zI (Zz Try.prog 23 (dem x9) S) (fun v1 S1 => zI (wu Try.prog BinOp.add 3 (dem x7) (Value.int IntKind.i64 1) S1) (fun v3 S2 => zI (wu Try.prog BinOp.neq 3 v1 v3 S2) (fun v4 S3 => some ([x0,x1,x2,x3,x4,x5,x6,x7,x8,x9,a,b,c,d,f,g,i,k,l,m,n,o,p,q,r,s,t,u,w,x,y,z,A,B,C,D,E,F,G,H,I,J,K,L,M,N,dem x9,v1,dem x7,v3,v4,W,X,Y,Z,a0,a1,a2], S3)) ()) ()) ()) := by
 kernel_rfl
theorem zx.r14  : jC Try.prog ⟨false, false, false⟩ (jc Try.prog O) (reg Try.f16 14) (reg Try.f16 14).toList ([x0,x1,x2,x3,x4,x5,x6,x7,x8,x9,a,b,c,d,f,g,i,k,l,m,n,o,p,q,r,s,t,u,w,x,y,z,A,B,C,D,E,F,G,H,I,J,K,L,M,N,P,Q,R,U,V,W,X,Y,Z,a0,a1,a2]) S =
  ( some ([x0,x1,Value.int IntKind.u64 0,Value.slice none 0 0,Value.int IntKind.i64 11,x5,x6,x7,x8,x9,a,b,c,d,f,g,i,k,l,m,n,o,p,q,r,s,t,u,w,x,y,z,A,B,C,D,E,F,G,H,I,J,K,L,M,N,P,Q,R,U,V,W,X,Y,Z,a0,a1,a2], S)) := by
 kernel_rfl
theorem zx.r15  : jC Try.prog ⟨false, false, false⟩ (jc Try.prog O) (reg Try.f16 15) (reg Try.f16 15).toList ([x0,x1,x2,x3,x4,x5,x6,x7,x8,x9,a,b,c,d,f,g,i,k,l,m,n,o,p,q,r,s,t,u,w,x,y,z,A,B,C,D,E,F,G,H,I,J,K,L,M,N,P,Q,R,U,V,W,X,Y,Z,a0,a1,a2]) S =
  (zI (jR Try.prog 23 0 [] S) (fun v1 S1 => zI (wu Try.prog BinOp.add 3 (dem x7) (Value.int IntKind.i64 1) S1) (fun v4 S2 => zI (Zc Try.prog false 23 (dem x0) (some v4) none S2) (fun v5 S3 => zI (wY Try.prog 23 23 v1 v5 S3) (fun v6 S4 => some ([x0,x1,x5,v6,Value.int IntKind.i64 0,dem x5,x6,x7,x8,x9,a,b,c,d,f,g,i,k,l,m,n,o,p,q,r,s,t,u,w,x,y,z,A,B,C,D,E,F,G,H,I,J,K,L,M,N,P,Q,R,U,V,dem x5,dem v1,dem x0,dem x7,v4,v5,dem v6], S4)) ()) ()) ()) ()) := by
 kernel_rfl
theorem zx.r5  : jC Try.prog ⟨false, false, false⟩ (jc Try.prog O) (reg Try.f16 5) (reg Try.f16 5).toList ([x0,x1,x2,x3,x4,x5,x6,x7,x8,x9,a,b,c,d,f,g,i,k,l,m,n,o,p,q,r,s,t,u,w,x,y,z,A,B,C,D,E,F,G,H,I,J,K,L,M,N,P,Q,R,U,V,W,X,Y,Z,a0,a1,a2]) S =
  (zI (wu Try.prog BinOp.add 3 (dem x7) (Value.int IntKind.i64 1) S) (fun v1 S1 => some ([x0,x1,x2,x3,x4,x5,x6,v1,x8,x9,a,b,c,d,f,g,i,k,dem x7,dem v1,n,o,p,q,r,s,t,u,w,x,y,z,A,B,C,D,E,F,G,H,I,J,K,L,M,N,P,Q,R,U,V,W,X,Y,Z,a0,a1,a2], S1)) ()) := by
 kernel_rfl
theorem zx.r16  : jC Try.prog ⟨false, false, false⟩ (jc Try.prog O) (reg Try.f16 16) (reg Try.f16 16).toList ([x0,x1,x2,x3,x4,x5,x6,x7,x8,x9,a,b,c,d,f,g,i,k,l,m,n,o,p,q,r,s,t,u,w,x,y,z,A,B,C,D,E,F,G,H,I,J,K,L,M,N,P,Q,R,U,V,W,X,Y,Z,a0,a1,a2]) S =
  ( some ([x0,x1,Value.int IntKind.u64 0,Value.slice none 0 0,Value.int IntKind.i64 11,x5,x6,x7,x8,x9,a,b,c,d,f,g,i,k,l,m,n,o,p,q,r,s,t,u,w,x,y,z,A,B,C,D,E,F,G,H,I,J,K,L,M,N,P,Q,R,U,V,W,X,Y,Z,a0,a1,a2], S)) := by
 kernel_rfl
theorem zx.runs {x0 : Value} {S S1 : zk} {e : AEx} {T : List Value} (h : zF Try.prog O false zx.code ([x0,undef,undef,undef,undef,undef,undef,undef,undef,undef,undef,undef,undef,undef,undef,undef,undef,undef,undef,undef,undef,undef,undef,undef,undef,undef,undef,undef,undef,undef,undef,undef,undef,undef,undef,undef,undef,undef,undef,undef,undef,undef,undef,undef,undef,undef,undef,undef,undef,undef,undef,undef,undef,undef,undef,undef,undef,undef]) S = some (e, T, S1)) (he : e = .normal ∨ e = .ret)  (h0 : jW (T.getD 2 undef) = true) (h1 : jW (T.getD 3 undef) = true) (h2 : jW (T.getD 4 undef) = true) : jc Try.prog O 16 [x0] S = some (Value.tuple #[T.getD 2 undef, T.getD 3 undef, T.getD 4 undef], S1) :=
 yR rfl rfl Try.func16 (by decide) zx.body (by exact h) he ((yP ((show zO Try.prog T S1 Try.f16.results.toList = zO Try.prog T S1 [(ResultVar.tmp 2), (ResultVar.tmp 3), (ResultVar.tmp 4)] from by kernel_rfl).trans (by simp only [zO])) (by kernel_rfl) (by simp only [List.all_cons, List.all_nil, h0, h1, h2, Bool.and_true])).trans rfl)
end Go.Proofs.Ytbgcphbbchndkaa
namespace Go.Proofs.Ytbgcphbbchndkaa
open Go.Abs
abbrev slices_Clone.id : FuncId := 50
noncomputable def slices_Clone.code : Code := (Code.seq (Code.region 0 (reg Try.f50 0) false) (Code.seq (Code.seq (Code.region 1 (reg Try.f50 1) false) (Code.cond (Operand.tmp 4) (Code.seq (Code.region 2 (reg Try.f50 2) false) Code.ret) Code.skip)) (Code.seq (Code.region 3 (reg Try.f50 3) false) Code.ret)))
theorem slices_Clone.body : Try.f50.body = some slices_Clone.code := by kernel_rfl
variable (b c l f g i j k : Value) (S : zk)
theorem slices_Clone.r0  : jC Try.prog ⟨false, false, false⟩ (jc Try.prog O) (reg Try.f50 0) (reg Try.f50 0).toList ([b,c,l,f,g,i,j,k]) S =
  ( some ([b,c,Value.slice none 0 0,f,g,i,j,k], S)) := by
 kernel_rfl
theorem slices_Clone.r1  : jC Try.prog ⟨false, false, false⟩ (jc Try.prog O) (reg Try.f50 1) (reg Try.f50 1).toList ([b,c,l,f,g,i,j,k]) S =
  (zI (wu Try.prog BinOp.eql 23 (dem b) (Value.slice none 0 0) S) (fun o d => some ([b,c,l,dem b,o,i,j,k], d)) ()) := by
 kernel_rfl
theorem slices_Clone.r2  : jC Try.prog ⟨false, false, false⟩ (jc Try.prog O) (reg Try.f50 2) (reg Try.f50 2).toList ([b,c,l,f,g,i,j,k]) S =
  ( some ([b,c,Value.slice none 0 0,f,g,i,j,k], S)) := by
 kernel_rfl
theorem slices_Clone.r3  : jC Try.prog ⟨false, false, false⟩ (jc Try.prog O) (reg Try.f50 3) (reg Try.f50 3).toList ([b,c,l,f,g,i,j,k]) S =
  (zI (jR Try.prog 23 0 [] S) (fun m d => zI (wY Try.prog 23 23 m (dem b) d) (fun n p => some ([b,c,n,f,g,dem m,dem b,dem n], p)) ()) ()) := by
 kernel_rfl
theorem slices_Clone.runs {b : Value} {S d : zk} {e : AEx} {T : List Value} (h : zF Try.prog O false slices_Clone.code ([b,undef,undef,undef,undef,undef,undef,undef]) S = some (e, T, d)) (he : e = .normal ∨ e = .ret) : jc Try.prog O 50 [b] S = some (T.getD 2 undef, d) :=
 yR rfl rfl Try.func50 (by decide) slices_Clone.body (by exact h) he (yN (a := T.getD 2 undef) ((show zO Try.prog T d Try.f50.results.toList = zO Try.prog T d [(ResultVar.tmp 2)] from by kernel_rfl).trans (by simp only [zO])) (by kernel_rfl))
end Go.Proofs.Ytbgcphbbchndkaa
namespace Go.Proofs.Ytbgcphbbchndkaa
open Go.Abs
abbrev jk.id : FuncId := 24
noncomputable def jk.jI : Code := (Code.seq (Code.region 3 (reg Try.f24 3) false) (Code.seq (Code.cond (Operand.tmp 11) Code.skip (Code.exit 0)) (Code.seq (Code.block 1 (Code.seq (Code.region 4 (reg Try.f24 4) false) (Code.seq (Code.seq (Code.region 5 (reg Try.f24 5) false) (Code.cond (Operand.tmp 28) (Code.exit 0) Code.skip)) (Code.seq (Code.region 6 (reg Try.f24 6) false) (Code.seq (Code.region 7 (reg Try.f24 7) false) (Code.cond (Operand.tmp 38) (Code.seq (Code.region 8 (reg Try.f24 8) false) Code.ret) Code.skip)))))) (Code.region 9 (reg Try.f24 9) false))))
noncomputable def jk.code : Code := (Code.seq (Code.region 0 (reg Try.f24 0) false) (Code.seq (Code.region 1 (reg Try.f24 1) false) (Code.seq (Code.seq (Code.region 2 (reg Try.f24 2) false) (Code.block 0 (Code.loop jk.jI))) (Code.seq (Code.region 10 (reg Try.f24 10) false) Code.ret))))
theorem jk.body : Try.f24.body = some jk.code := by kernel_rfl
theorem jk.eta {T : List Value} (h : T.length = 46) : T = [T.getD 0 undef,T.getD 1 undef,T.getD 2 undef,T.getD 3 undef,T.getD 4 undef,T.getD 5 undef,T.getD 6 undef,T.getD 7 undef,T.getD 8 undef,T.getD 9 undef,T.getD 10 undef,T.getD 11 undef,T.getD 12 undef,T.getD 13 undef,T.getD 14 undef,T.getD 15 undef,T.getD 16 undef,T.getD 17 undef,T.getD 18 undef,T.getD 19 undef,T.getD 20 undef,T.getD 21 undef,T.getD 22 undef,T.getD 23 undef,T.getD 24 undef,T.getD 25 undef,T.getD 26 undef,T.getD 27 undef,T.getD 28 undef,T.getD 29 undef,T.getD 30 undef,T.getD 31 undef,T.getD 32 undef,T.getD 33 undef,T.getD 34 undef,T.getD 35 undef,T.getD 36 undef,T.getD 37 undef,T.getD 38 undef,T.getD 39 undef,T.getD 40 undef,T.getD 41 undef,T.getD 42 undef,T.getD 43 undef,T.getD 44 undef,T.getD 45 undef] := (qw T 46 h).trans (by kernel_rfl)
theorem jk.list {T : List Value} (h : T.length = 46) : ∃ P V Y Z x4 U Q R W X a b c d f g i k l m n o p q r s t u w x y z A B C D E F G H I J K L M N, T = [P,V,Y,Z,x4,U,Q,R,W,X,a,b,c,d,f,g,i,k,l,m,n,o,p,q,r,s,t,u,w,x,y,z,A,B,C,D,E,F,G,H,I,J,K,L,M,N] := ⟨_, _, _, _, _, _, _, _, _, _, _, _, _, _, _, _, _, _, _, _, _, _, _, _, _, _, _, _, _, _, _, _, _, _, _, _, _, _, _, _, _, _, _, _, _, _, jk.eta h⟩
variable (P V Y Z x4 U Q R W X a b c d f g i k l m n o p q r s t u w x y z A B C D E F G H I J K L M N : Value) (S : zk)
theorem jk.r0  : jC Try.prog ⟨false, false, false⟩ (jc Try.prog O) (reg Try.f24 0) (reg Try.f24 0).toList ([P,V,Y,Z,x4,U,Q,R,W,X,a,b,c,d,f,g,i,k,l,m,n,o,p,q,r,s,t,u,w,x,y,z,A,B,C,D,E,F,G,H,I,J,K,L,M,N]) S =
  ( some ([P,V,Value.int IntKind.u64 0,Value.slice none 0 0,Value.int IntKind.i64 0,U,Q,R,W,X,a,b,c,d,f,g,i,k,l,m,n,o,p,q,r,s,t,u,w,x,y,z,A,B,C,D,E,F,G,H,I,J,K,L,M,N], S)) := by
 kernel_rfl
theorem jk.r1  : jC Try.prog ⟨false, false, false⟩ (jc Try.prog O) (reg Try.f24 1) (reg Try.f24 1).toList ([P,V,Y,Z,x4,U,Q,R,W,X,a,b,c,d,f,g,i,k,l,m,n,o,p,q,r,s,t,u,w,x,y,z,A,B,C,D,E,F,G,H,I,J,K,L,M,N]) S =
  ( some ([P,V,Y,Z,x4,Value.int IntKind.u64 0,Q,R,W,X,a,b,c,d,f,g,i,k,l,m,n,o,p,q,r,s,t,u,w,x,y,z,A,B,C,D,E,F,G,H,I,J,K,L,M,N], S)) := by
 kernel_rfl
theorem jk.r2  : jC Try.prog ⟨false, false, false⟩ (jc Try.prog O) (reg Try.f24 2) (reg Try.f24 2).toList ([P,V,Y,Z,x4,U,Q,R,W,X,a,b,c,d,f,g,i,k,l,m,n,o,p,q,r,s,t,u,w,x,y,z,A,B,C,D,E,F,G,H,I,J,K,L,M,N]) S =
  (zI (Zz Try.prog 23 (dem P) S) (fun v1 S1 => some ([P,V,Y,Z,x4,U,Q,R,dem P,v1,Value.int IntKind.i64 0,b,c,d,f,g,i,k,l,m,n,o,p,q,r,s,t,u,w,x,y,z,A,B,C,D,E,F,G,H,I,J,K,L,M,N], S1)) ()) := by
 kernel_rfl
theorem jk.r3  : jC Try.prog ⟨false, false, false⟩ (jc Try.prog O) (reg Try.f24 3) (reg Try.f24 3).toList ([P,V,Y,Z,x4,U,Q,R,W,X,a,b,c,d,f,g,i,k,l,m,n,o,p,q,r,s,t,u,w,x,y,z,A,B,C,D,E,F,G,H,I,J,K,L,M,N]) S =
  (zI (wu Try.prog BinOp.lss 3 a X S) (fun v0 S1 => some ([P,V,Y,Z,x4,U,Q,R,W,X,a,v0,c,d,f,g,i,k,l,m,n,o,p,q,r,s,t,u,w,x,y,z,A,B,C,D,E,F,G,H,I,J,K,L,M,N], S1)) ()) := by
 kernel_rfl
theorem jk.r4  : jC Try.prog ⟨false, false, false⟩ (jc Try.prog O) (reg Try.f24 4) (reg Try.f24 4).toList ([P,V,Y,Z,x4,U,Q,R,W,X,a,b,c,d,f,g,i,k,l,m,n,o,p,q,r,s,t,u,w,x,y,z,A,B,C,D,E,F,G,H,I,J,K,L,M,N]) S =
  (zI (jo Try.prog 23 W (dem a) S) (fun v1 S1 => zI (jf Try.prog false 5 v1 S1) (fun v2 S2 => some ([P,V,Y,Z,x4,U,a,v2,W,X,dem a,b,dem a,v1,dem v2,g,i,k,l,m,n,o,p,q,r,s,t,u,w,x,y,z,A,B,C,D,E,F,G,H,I,J,K,L,M,N], S2)) ()) ()) := by
 kernel_rfl
theorem jk.r5  : jC Try.prog ⟨false, false, false⟩ (jc Try.prog O) (reg Try.f24 5) (reg Try.f24 5).toList ([P,V,Y,Z,x4,U,Q,R,W,X,a,b,c,d,f,g,i,k,l,m,n,o,p,q,r,s,t,u,w,x,y,z,A,B,C,D,E,F,G,H,I,J,K,L,M,N]) S =
  (zI (wu Try.prog BinOp.eql 3 (dem Q) (Value.int IntKind.i64 9) S) (fun v1 S1 => gdK (dem v1) true (ret R) S1 (fun v3 S2 => gdK (dem v1) true (wu Try.prog BinOp.gtr 5 (dem v3) (Value.int IntKind.u8 1)) S2 (fun v4 S3 => zI (wJ (dem v1) v4 (Value.bool false) S3) (fun v5 S4 => gdK (dem v5) false (ret Q) S4 (fun v7 S5 => gdK (dem v5) false (wu Try.prog BinOp.gtr 3 (dem v7) (Value.int IntKind.i64 0)) S5 (fun v8 S6 => gdK (dem v5) false (ret v8) S6 (fun v9 S7 => gdK (dem v9) true (ret R) S7 (fun a0 S8 => gdK (dem v9) true (wu Try.prog BinOp.eql 5 (dem a0) (Value.int IntKind.u8 0)) S8 (fun a1 S9 => gdK (dem v5) false (wJ (dem v9) a1 (Value.bool false)) S9 (fun a2 a3 => zI (wJ (dem v5) (Value.bool true) a2 a3) (fun a4 a5 => some ([P,V,Y,Z,x4,U,Q,R,W,X,a,b,c,d,f,dem Q,v1,dem v1,dem v3,v4,v5,dem v5,dem v7,v8,dem v9,dem a0,a1,a2,a4,x,y,z,A,B,C,D,E,F,G,H,I,J,K,L,M,N], a5)) ()) ()) ()) ()) ()) ()) ()) ()) ()) ()) ()) := by
 refine sP Try.f24 5 0 (v := Q) ?_
 refine sD Try.f24 5 1 (fun v1 S1 => ?_)
 refine sP Try.f24 5 2 (v := v1) ?_
 refine sG Try.f24 5 3 (j := 2) (fun v3 S2 => ?_)
 refine sG Try.f24 5 4 (j := 2) (fun v4 S3 => ?_)
 refine sD Try.f24 5 5 (fun v5 S4 => ?_)
 refine sP Try.f24 5 6 (v := v5) ?_
 refine sG Try.f24 5 7 (j := 6) (fun v7 S5 => ?_)
 refine sG Try.f24 5 8 (j := 6) (fun v8 S6 => ?_)
 refine sG Try.f24 5 9 (j := 6) (fun v9 S7 => ?_)
 refine sG Try.f24 5 10 (j := 9) (fun a0 S8 => ?_)
 refine sG Try.f24 5 11 (j := 9) (fun a1 S9 => ?_)
 refine sG Try.f24 5 12 (j := 6) (fun a2 a3 => ?_)
 refine sD Try.f24 5 13 (fun a4 a5 => ?_)
 kernel_rfl
theorem jk.r6  : jC Try.prog ⟨false, false, false⟩ (jc Try.prog O) (reg Try.f24 6) (reg Try.f24 6).toList ([P,V,Y,Z,x4,U,Q,R,W,X,a,b,c,d,f,g,i,k,l,m,n,o,p,q,r,s,t,u,w,x,y,z,A,B,C,D,E,F,G,H,I,J,K,L,M,N]) S =
  (zI (wu Try.prog BinOp.and 5 (dem R) (Value.int IntKind.u8 127) S) (fun v2 S1 => zI (qI Try.prog false false 5 42 v2 S1) (fun v3 S2 => zI (wu Try.prog BinOp.mul 3 (Value.int IntKind.i64 7) (dem Q) S2) (fun v5 S3 => zI (wu Try.prog BinOp.shl 42 v3 v5 S3) (fun v6 S4 => zI (wu Try.prog BinOp.or 42 (dem U) v6 S4) (fun v7 S5 => some ([P,V,Y,Z,x4,v7,Q,R,W,X,a,b,c,d,f,g,i,k,l,m,n,o,p,q,r,s,t,u,w,dem U,dem R,v2,v3,dem Q,v5,v6,dem v7,F,G,H,I,J,K,L,M,N], S5)) ()) ()) ()) ()) ()) := by
 kernel_rfl
theorem jk.r7  : jC Try.prog ⟨false, false, false⟩ (jc Try.prog O) (reg Try.f24 7) (reg Try.f24 7).toList ([P,V,Y,Z,x4,U,Q,R,W,X,a,b,c,d,f,g,i,k,l,m,n,o,p,q,r,s,t,u,w,x,y,z,A,B,C,D,E,F,G,H,I,J,K,L,M,N]) S =
  (zI (wu Try.prog BinOp.lss 5 (dem R) (Value.int IntKind.u8 128) S) (fun v1 S1 => some ([P,V,Y,Z,x4,U,Q,R,W,X,a,b,c,d,f,g,i,k,l,m,n,o,p,q,r,s,t,u,w,x,y,z,A,B,C,D,E,dem R,v1,H,I,J,K,L,M,N], S1)) ()) := by
 kernel_rfl
theorem jk.r8  : jC Try.prog ⟨false, false, false⟩ (jc Try.prog O) (reg Try.f24 8) (reg Try.f24 8).toList ([P,V,Y,Z,x4,U,Q,R,W,X,a,b,c,d,f,g,i,k,l,m,n,o,p,q,r,s,t,u,w,x,y,z,A,B,C,D,E,F,G,H,I,J,K,L,M,N]) S =
  (zI (wu Try.prog BinOp.add 3 (dem Q) (Value.int IntKind.i64 1) S) (fun v3 S1 => zI (Zc Try.prog false 23 (dem P) (some v3) none S1) (fun v4 S2 => zI ((jc Try.prog O) 50 [(dem v4)] S2) (fun v5 S3 => some ([P,V,U,v5,Value.int IntKind.i64 0,dem U,Q,R,W,X,a,b,c,d,f,g,i,k,l,m,n,o,p,q,r,s,t,u,w,x,y,z,A,B,C,D,E,F,G,dem U,dem P,dem Q,v3,v4,dem v5,N], S3)) ()) ()) ()) := by
 kernel_rfl
theorem jk.r9  : jC Try.prog ⟨false, false, false⟩ (jc Try.prog O) (reg Try.f24 9) (reg Try.f24 9).toList ([P,V,Y,Z,x4,U,Q,R,W,X,a,b,c,d,f,g,i,k,l,m,n,o,p,q,r,s,t,u,w,x,y,z,A,B,C,D,E,F,G,H,I,J,K,L,M,N]) S =
  (zI (wu Try.prog BinOp.add 3 a (Value.int IntKind.i64 1) S) (fun v0 S1 => some ([P,V,Y,Z,x4,U,Q,R,W,X,dem v0,b,c,d,f,g,i,k,l,m,n,o,p,q,r,s,t,u,w,x,y,z,A,B,C,D,E,F,G,H,I,J,K,L,M,v0], S1)) ()) := by
 kernel_rfl
theorem jk.r10  : jC Try.prog ⟨false, false, false⟩ (jc Try.prog O) (reg Try.f24 10) (reg Try.f24 10).toList ([P,V,Y,Z,x4,U,Q,R,W,X,a,b,c,d,f,g,i,k,l,m,n,o,p,q,r,s,t,u,w,x,y,z,A,B,C,D,E,F,G,H,I,J,K,L,M,N]) S =
  ( some ([P,V,Value.int IntKind.u64 0,Value.slice none 0 0,Value.int IntKind.i64 11,U,Q,R,W,X,a,b,c,d,f,g,i,k,l,m,n,o,p,q,r,s,t,u,w,x,y,z,A,B,C,D,E,F,G,H,I,J,K,L,M,N], S)) := by
 kernel_rfl
theorem jk.runs {P : Value} {S S1 : zk} {e : AEx} {T : List Value} (h : zF Try.prog O false jk.code ([P,undef,undef,undef,undef,undef,undef,undef,undef,undef,undef,undef,undef,undef,undef,undef,undef,undef,undef,undef,undef,undef,undef,undef,undef,undef,undef,undef,undef,undef,undef,undef,undef,undef,undef,undef,undef,undef,undef,undef,undef,undef,undef,undef,undef,undef]) S = some (e, T, S1)) (he : e = .normal ∨ e = .ret)  (h0 : jW (T.getD 2 undef) = true) (h1 : jW (T.getD 3 undef) = true) (h2 : jW (T.getD 4 undef) = true) : jc Try.prog O 24 [P] S = some (Value.tuple #[T.getD 2 undef, T.getD 3 undef, T.getD 4 undef], S1) :=
 yR rfl rfl Try.func24 (by decide) jk.body (by exact h) he ((yP ((show zO Try.prog T S1 Try.f24.results.toList = zO Try.prog T S1 [(ResultVar.tmp 2), (ResultVar.tmp 3), (ResultVar.tmp 4)] from by kernel_rfl).trans (by simp only [zO])) (by kernel_rfl) (by simp only [List.all_cons, List.all_nil, h0, h1, h2, Bool.and_true])).trans rfl)
end Go.Proofs.Ytbgcphbbchndkaa
namespace Go.Proofs.Ytbgcphbbchndkaa
open Go.Abs
abbrev wR.id : FuncId := 35
noncomputable def wR.jI : Code := (Code.seq (Code.seq (Code.region 2 (reg Try.f35 2) false) (Code.cond (Operand.tmp 5) Code.skip (Code.exit 0))) (Code.block 1 (Code.seq (Code.region 3 (reg Try.f35 3) false) (Code.region 4 (reg Try.f35 4) false))))
noncomputable def wR.code : Code := (Code.seq (Code.region 0 (reg Try.f35 0) false) (Code.seq (Code.region 1 (reg Try.f35 1) false) (Code.seq (Code.block 0 (Code.loop wR.jI)) (Code.seq (Code.region 5 (reg Try.f35 5) false) Code.ret))))
theorem wR.body : Try.f35.body = some wR.code := by kernel_rfl
theorem wR.eta {T : List Value} (h : T.length = 19) : T = [T.getD 0 undef,T.getD 1 undef,T.getD 2 undef,T.getD 3 undef,T.getD 4 undef,T.getD 5 undef,T.getD 6 undef,T.getD 7 undef,T.getD 8 undef,T.getD 9 undef,T.getD 10 undef,T.getD 11 undef,T.getD 12 undef,T.getD 13 undef,T.getD 14 undef,T.getD 15 undef,T.getD 16 undef,T.getD 17 undef,T.getD 18 undef] := (qw T 19 h).trans (by kernel_rfl)
theorem wR.list {T : List Value} (h : T.length = 19) : ∃ b o v n p q r s t u c d f g i j k l m, T = [b,o,v,n,p,q,r,s,t,u,c,d,f,g,i,j,k,l,m] := ⟨_, _, _, _, _, _, _, _, _, _, _, _, _, _, _, _, _, _, _, wR.eta h⟩
variable (b o v n p q r s t u c d f g i j k l m : Value) (S : zk)
theorem wR.r0  : jC Try.prog ⟨false, false, false⟩ (jc Try.prog O) (reg Try.f35 0) (reg Try.f35 0).toList ([b,o,v,n,p,q,r,s,t,u,c,d,f,g,i,j,k,l,m]) S =
  ( some ([b,o,Value.slice none 0 0,n,p,q,r,s,t,u,c,d,f,g,i,j,k,l,m], S)) := by
 kernel_rfl
theorem wR.r1  : jC Try.prog ⟨false, false, false⟩ (jc Try.prog O) (reg Try.f35 1) (reg Try.f35 1).toList ([b,o,v,n,p,q,r,s,t,u,c,d,f,g,i,j,k,l,m]) S =
  ( some ([b,o,v,Value.slice none 0 0,p,q,r,s,t,u,c,d,f,g,i,j,k,l,m], S)) := by
 kernel_rfl
theorem wR.r2  : jC Try.prog ⟨false, false, false⟩ (jc Try.prog O) (reg Try.f35 2) (reg Try.f35 2).toList ([b,o,v,n,p,q,r,s,t,u,c,d,f,g,i,j,k,l,m]) S =
  (zI (wu Try.prog BinOp.geq 42 (dem b) (Value.int IntKind.u64 128) S) (fun A w => some ([b,o,v,n,dem b,A,r,s,t,u,c,d,f,g,i,j,k,l,m], w)) ()) := by
 kernel_rfl
theorem wR.r3  : jC Try.prog ⟨false, false, false⟩ (jc Try.prog O) (reg Try.f35 3) (reg Try.f35 3).toList ([b,o,v,n,p,q,r,s,t,u,c,d,f,g,i,j,k,l,m]) S =
  (zI (qI Try.prog false false 42 5 (dem b) S) (fun x w => zI (wu Try.prog BinOp.or 5 x (Value.int IntKind.u8 128) w) (fun y B => zI (jR Try.prog 23 1 [(0, y)] B) (fun z C => zI (wY Try.prog 23 23 n z C) (fun D E => some ([b,o,v,D,p,q,dem n,dem b,x,y,z,dem D,f,g,i,j,k,l,m], E)) ()) ()) ()) ()) := by
 kernel_rfl
theorem wR.r4  : jC Try.prog ⟨false, false, false⟩ (jc Try.prog O) (reg Try.f35 4) (reg Try.f35 4).toList ([b,o,v,n,p,q,r,s,t,u,c,d,f,g,i,j,k,l,m]) S =
  (zI (wu Try.prog BinOp.shr 42 (dem b) (Value.int IntKind.u64 7) S) (fun A w => some ([A,o,v,n,p,q,r,s,t,u,c,d,dem b,dem A,i,j,k,l,m], w)) ()) := by
 kernel_rfl
theorem wR.r5  : jC Try.prog ⟨false, false, false⟩ (jc Try.prog O) (reg Try.f35 5) (reg Try.f35 5).toList ([b,o,v,n,p,q,r,s,t,u,c,d,f,g,i,j,k,l,m]) S =
  (zI (qI Try.prog false false 42 5 (dem b) S) (fun x w => zI (jR Try.prog 23 1 [(0, x)] w) (fun y B => zI (wY Try.prog 23 23 n y B) (fun z C => some ([b,o,z,dem n,p,q,r,s,t,u,c,d,f,g,dem n,dem b,x,y,dem z], C)) ()) ()) ()) := by
 kernel_rfl
theorem wR.runs {b : Value} {S w : zk} {e : AEx} {T : List Value} (h : zF Try.prog O false wR.code ([b,undef,undef,undef,undef,undef,undef,undef,undef,undef,undef,undef,undef,undef,undef,undef,undef,undef,undef]) S = some (e, T, w)) (he : e = .normal ∨ e = .ret) : jc Try.prog O 35 [b] S = some (T.getD 2 undef, w) :=
 yR rfl rfl Try.func35 (by decide) wR.body (by exact h) he (yN (a := T.getD 2 undef) ((show zO Try.prog T w Try.f35.results.toList = zO Try.prog T w [(ResultVar.tmp 2)] from by kernel_rfl).trans (by simp only [zO])) (by kernel_rfl))
end Go.Proofs.Ytbgcphbbchndkaa
namespace Go.Proofs.Ytbgcphbbchndkaa
open Go.Abs
abbrev jg.id : FuncId := 17
noncomputable def jg.jI : Code := (Code.block 1 (Code.seq (Code.region 2 (reg Try.f17 2) false) (Code.seq (Code.region 3 (reg Try.f17 3) false) (Code.seq (Code.seq (Code.region 4 (reg Try.f17 4) false) (Code.cond (Operand.tmp 12) (Code.seq (Code.region 5 (reg Try.f17 5) false) Code.ret) Code.skip)) (Code.region 6 (reg Try.f17 6) false)))))
noncomputable def jg.code : Code := (Code.seq (Code.region 0 (reg Try.f17 0) false) (Code.seq (Code.region 1 (reg Try.f17 1) false) (Code.block 0 (Code.loop jg.jI))))
theorem jg.body : Try.f17.body = some jg.code := by kernel_rfl
theorem jg.eta {T : List Value} (h : T.length = 22) : T = [T.getD 0 undef,T.getD 1 undef,T.getD 2 undef,T.getD 3 undef,T.getD 4 undef,T.getD 5 undef,T.getD 6 undef,T.getD 7 undef,T.getD 8 undef,T.getD 9 undef,T.getD 10 undef,T.getD 11 undef,T.getD 12 undef,T.getD 13 undef,T.getD 14 undef,T.getD 15 undef,T.getD 16 undef,T.getD 17 undef,T.getD 18 undef,T.getD 19 undef,T.getD 20 undef,T.getD 21 undef] := (qw T 22 h).trans (by kernel_rfl)
theorem jg.list {T : List Value} (h : T.length = 22) : ∃ b s z r q u v w x y c d f g i j k l m n o p, T = [b,s,z,r,q,u,v,w,x,y,c,d,f,g,i,j,k,l,m,n,o,p] := ⟨_, _, _, _, _, _, _, _, _, _, _, _, _, _, _, _, _, _, _, _, _, _, jg.eta h⟩
variable (b s z r q u v w x y c d f g i j k l m n o p : Value) (S : zk)
theorem jg.r0  : jC Try.prog ⟨false, false, false⟩ (jc Try.prog O) (reg Try.f17 0) (reg Try.f17 0).toList ([b,s,z,r,q,u,v,w,x,y,c,d,f,g,i,j,k,l,m,n,o,p]) S =
  ( some ([b,s,Value.slice none 0 0,r,q,u,v,w,x,y,c,d,f,g,i,j,k,l,m,n,o,p], S)) := by
 kernel_rfl
theorem jg.r1  : jC Try.prog ⟨false, false, false⟩ (jc Try.prog O) (reg Try.f17 1) (reg Try.f17 1).toList ([b,s,z,r,q,u,v,w,x,y,c,d,f,g,i,j,k,l,m,n,o,p]) S =
  (zI (jR Try.prog 23 0 [] S) (fun E t => some ([b,s,z,E,q,dem E,v,w,x,y,c,d,f,g,i,j,k,l,m,n,o,p], t)) ()) := by
 kernel_rfl
theorem jg.r2  : jC Try.prog ⟨false, false, false⟩ (jc Try.prog O) (reg Try.f17 2) (reg Try.f17 2).toList ([b,s,z,r,q,u,v,w,x,y,c,d,f,g,i,j,k,l,m,n,o,p]) S =
  (zI (wu Try.prog BinOp.rem 42 (dem b) (Value.int IntKind.u64 128) S) (fun B t => zI (qI Try.prog false false 42 5 B t) (fun A C => some ([b,s,z,r,A,u,dem b,B,dem A,y,c,d,f,g,i,j,k,l,m,n,o,p], C)) ()) ()) := by
 kernel_rfl
theorem jg.r3  : jC Try.prog ⟨false, false, false⟩ (jc Try.prog O) (reg Try.f17 3) (reg Try.f17 3).toList ([b,s,z,r,q,u,v,w,x,y,c,d,f,g,i,j,k,l,m,n,o,p]) S =
  (zI (wu Try.prog BinOp.quo 42 (dem b) (Value.int IntKind.u64 128) S) (fun B t => some ([B,s,z,r,q,u,v,w,x,dem b,dem B,d,f,g,i,j,k,l,m,n,o,p], t)) ()) := by
 kernel_rfl
theorem jg.r4  : jC Try.prog ⟨false, false, false⟩ (jc Try.prog O) (reg Try.f17 4) (reg Try.f17 4).toList ([b,s,z,r,q,u,v,w,x,y,c,d,f,g,i,j,k,l,m,n,o,p]) S =
  (zI (wu Try.prog BinOp.eql 42 (dem b) (Value.int IntKind.u64 0) S) (fun B t => some ([b,s,z,r,q,u,v,w,x,y,c,dem b,B,g,i,j,k,l,m,n,o,p], t)) ()) := by
 kernel_rfl
theorem jg.r5  : jC Try.prog ⟨false, false, false⟩ (jc Try.prog O) (reg Try.f17 5) (reg Try.f17 5).toList ([b,s,z,r,q,u,v,w,x,y,c,d,f,g,i,j,k,l,m,n,o,p]) S =
  (zI (jR Try.prog 23 1 [(0, (dem q))] S) (fun A t => zI (wY Try.prog 23 23 r A t) (fun D C => some ([b,s,D,dem r,q,u,v,w,x,y,c,d,f,dem r,dem q,A,dem D,l,m,n,o,p], C)) ()) ()) := by
 kernel_rfl
theorem jg.r6  : jC Try.prog ⟨false, false, false⟩ (jc Try.prog O) (reg Try.f17 6) (reg Try.f17 6).toList ([b,s,z,r,q,u,v,w,x,y,c,d,f,g,i,j,k,l,m,n,o,p]) S =
  (zI (wu Try.prog BinOp.add 5 (dem q) (Value.int IntKind.u8 128) S) (fun A t => zI (jR Try.prog 23 1 [(0, A)] t) (fun D C => zI (wY Try.prog 23 23 r D C) (fun F G => some ([b,s,z,F,q,u,v,w,x,y,c,d,f,g,i,j,k,dem r,dem q,A,D,dem F], G)) ()) ()) ()) := by
 kernel_rfl
theorem jg.runs {b : Value} {S t : zk} {e : AEx} {T : List Value} (h : zF Try.prog O false jg.code ([b,undef,undef,undef,undef,undef,undef,undef,undef,undef,undef,undef,undef,undef,undef,undef,undef,undef,undef,undef,undef,undef]) S = some (e, T, t)) (he : e = .normal ∨ e = .ret) : jc Try.prog O 17 [b] S = some (T.getD 2 undef, t) :=
 yR rfl rfl Try.func17 (by decide) jg.body (by exact h) he (yN (a := T.getD 2 undef) ((show zO Try.prog T t Try.f17.results.toList = zO Try.prog T t [(ResultVar.tmp 2)] from by kernel_rfl).trans (by simp only [zO])) (by kernel_rfl))
end Go.Proofs.Ytbgcphbbchndkaa
namespace Go.Proofs.Ytbgcphbbchndkaa
open Go.Abs
theorem agG : Try.prog.underlying 3 = some (TypeDesc.int IntKind.i64) := by kernel_rfl
theorem acw : Zx Try.prog 3 = some 1 := by kernel_rfl
theorem ajC : bytesOf Try.prog 3 = some 8 := by kernel_rfl
theorem ajE : zeroOf Try.prog 3 = (some (Value.int IntKind.i64 0)) := by kernel_rfl
theorem ZL : xQ Try.prog 3 = some false := by kernel_rfl
theorem aiP : zeroOf Try.prog 4 = (some (Value.bool false)) := by kernel_rfl
theorem aa7 : Try.prog.underlying 5 = some (TypeDesc.int IntKind.u8) := by kernel_rfl
theorem aaT : Zx Try.prog 5 = some 1 := by kernel_rfl
theorem ahH : bytesOf Try.prog 5 = some 1 := by kernel_rfl
theorem air : zeroOf Try.prog 5 = (some (Value.int IntKind.u8 0)) := by kernel_rfl
theorem ahA : xQ Try.prog 5 = some false := by kernel_rfl
theorem agm : Try.prog.underlying 9 = some TypeDesc.string := by kernel_rfl
theorem Zr : Try.prog.underlying 23 = some (TypeDesc.slice 5) := by kernel_rfl
theorem ae5 : Zx Try.prog 23 = some 1 := by kernel_rfl
theorem afb : xQ Try.prog 23 = some false := by kernel_rfl
theorem agw : Try.prog.underlying 25 = some (TypeDesc.struct #[{ name := "ID", type := 3, offset := 0, embedded := false, tag := "", pkgPath := "", byteOffset := 0 }, { name := "Fee", type := 3, offset := 1, embedded := false, tag := "", pkgPath := "", byteOffset := 8 }]) := by kernel_rfl
theorem Zf : Zx Try.prog 25 = some 2 := by kernel_rfl
theorem afI : bytesOf Try.prog 25 = some 16 := by kernel_rfl
theorem afZ : zeroOf Try.prog 25 = (some (Value.agg #[(Value.int IntKind.i64 0), (Value.int IntKind.i64 0)])) := by kernel_rfl
theorem Xv : xQ Try.prog 25 = some true := by kernel_rfl
theorem ZR : Try.prog.underlying 26 = some (TypeDesc.slice 25) := by kernel_rfl
theorem ac4 : xQ Try.prog 26 = some false := by kernel_rfl
theorem Zq : Zx Try.prog 28 = some 5 := by kernel_rfl
theorem Y5 : xQ Try.prog 28 = some true := by kernel_rfl
theorem QH : Zx Try.prog 30 = some 13 := by kernel_rfl
theorem adG : xQ Try.prog 30 = some true := by kernel_rfl
theorem YX : Try.prog.underlying 42 = some (TypeDesc.int IntKind.u64) := by kernel_rfl
theorem Xd : Try.prog.underlying 57 = some (TypeDesc.slice 3) := by kernel_rfl
theorem aaQ : Try.prog.underlying 88 = some (TypeDesc.slice 23) := by kernel_rfl
theorem YK : Try.prog.underlying 100 = some (TypeDesc.map 3 4) := by kernel_rfl
theorem ku (q o : Nat) (S : zk) : zy Try.prog 25 (.pointer (some ⟨q, o, none⟩)) 0 S = some (.pointer (some ⟨q, o + 0, none⟩), S) := by kernel_rfl
theorem Zw (q o : Nat) (S : zk) : zy Try.prog 25 (.pointer (some ⟨q, o, none⟩)) 1 S = some (.pointer (some ⟨q, o + 1, none⟩), S) := by kernel_rfl
theorem jO (q o : Nat) (S : zk) : zy Try.prog 28 (.pointer (some ⟨q, o, none⟩)) 0 S = some (.pointer (some ⟨q, o + 0, none⟩), S) := by kernel_rfl
theorem jK (q o : Nat) (S : zk) : zy Try.prog 28 (.pointer (some ⟨q, o, none⟩)) 1 S = some (.pointer (some ⟨q, o + 1, none⟩), S) := by kernel_rfl
theorem jL (q o : Nat) (S : zk) : zy Try.prog 28 (.pointer (some ⟨q, o, none⟩)) 2 S = some (.pointer (some ⟨q, o + 2, none⟩), S) := by kernel_rfl
theorem jJ (q o : Nat) (S : zk) : zy Try.prog 28 (.pointer (some ⟨q, o, none⟩)) 3 S = some (.pointer (some ⟨q, o + 3, none⟩), S) := by kernel_rfl
theorem jM (q o : Nat) (S : zk) : zy Try.prog 28 (.pointer (some ⟨q, o, none⟩)) 4 S = some (.pointer (some ⟨q, o + 4, none⟩), S) := by kernel_rfl
theorem zD (q o : Nat) (S : zk) : zy Try.prog 30 (.pointer (some ⟨q, o, none⟩)) 0 S = some (.pointer (some ⟨q, o + 0, none⟩), S) := by kernel_rfl
theorem zN (q o : Nat) (S : zk) : zy Try.prog 30 (.pointer (some ⟨q, o, none⟩)) 1 S = some (.pointer (some ⟨q, o + 1, none⟩), S) := by kernel_rfl
theorem zT (q o : Nat) (S : zk) : zy Try.prog 30 (.pointer (some ⟨q, o, none⟩)) 2 S = some (.pointer (some ⟨q, o + 2, none⟩), S) := by kernel_rfl
theorem zV (q o : Nat) (S : zk) : zy Try.prog 30 (.pointer (some ⟨q, o, none⟩)) 3 S = some (.pointer (some ⟨q, o + 3, none⟩), S) := by kernel_rfl
theorem zK (q o : Nat) (S : zk) : zy Try.prog 30 (.pointer (some ⟨q, o, none⟩)) 4 S = some (.pointer (some ⟨q, o + 4, none⟩), S) := by kernel_rfl
theorem zZ (q o : Nat) (S : zk) : zy Try.prog 30 (.pointer (some ⟨q, o, none⟩)) 5 S = some (.pointer (some ⟨q, o + 5, none⟩), S) := by kernel_rfl
theorem zX (q o : Nat) (S : zk) : zy Try.prog 30 (.pointer (some ⟨q, o, none⟩)) 6 S = some (.pointer (some ⟨q, o + 6, none⟩), S) := by kernel_rfl
theorem zY (q o : Nat) (S : zk) : zy Try.prog 30 (.pointer (some ⟨q, o, none⟩)) 7 S = some (.pointer (some ⟨q, o + 8, none⟩), S) := by kernel_rfl
theorem kH {fx : Bool} {x0 x1 : Value} {S : zk} : jf Try.prog fx 25 (EP [x0, x1]) S = some (.agg [x0, x1].toArray, S) := ae3 Xv Zf rfl
theorem Y2 {q : Nat} {x0 x1 : Value} {own : Own} {e : Nat} {S : zk} (h : S.get q = some (.cells [x0, x1] own e)) : jf Try.prog false 25 (.pointer (some ⟨q, 0, none⟩)) S = some (.agg [xH x0, xH x1].toArray, S) := (Ye (o := 0) h Xv Zf (by simp)).trans (by simp)
theorem Vq {q : Nat} {x0 x1 x2 x3 x4 : Value} {own : Own} {e : Nat} {S : zk} (h : S.get q = some (.cells [x0, x1, x2, x3, x4] own e)) : jf Try.prog false 28 (.pointer (some ⟨q, 0, none⟩)) S = some (.agg [xH x0, xH x1, xH x2, xH x3, xH x4].toArray, S) := (Ye (o := 0) h Y5 Zq (by simp)).trans (by simp)
theorem acR {q : Nat} {x0 x1 x2 x3 x4 x5 x6 x7 x8 x9 x10 x11 x12 : Value} {own : Own} {e : Nat} {S : zk} (h : S.get q = some (.cells [x0, x1, x2, x3, x4, x5, x6, x7, x8, x9, x10, x11, x12] own e)) : jf Try.prog false 30 (.pointer (some ⟨q, 0, none⟩)) S = some (.agg [xH x0, xH x1, xH x2, xH x3, xH x4, xH x5, xH x6, xH x7, xH x8, xH x9, xH x10, xH x11, xH x12].toArray, S) := (Ye (o := 0) h adG QH (by simp)).trans (by simp)
theorem jS  (S : zk) : yJ Try.prog 25 [] S = some (.agg [(Value.int IntKind.i64 0), (Value.int IntKind.i64 0)].toArray, S) := by
 kernel_rfl
theorem Zj {y0 y1 : Value} (h0 : y0.cells = #[y0]) (h1 : y1.cells = #[y1]) (S : zk) : yJ Try.prog 25 [(0, y0), (1, y1)] S = some (.agg [y0, y1].toArray, S) := by
 rw [show yJ Try.prog 25 [(0, y0), (1, y1)] S = (match ZA ([(0, 1), (1, 1)][·]?) [(Value.int IntKind.i64 0), (Value.int IntKind.i64 0)] [(0, y0), (1, y1)] with | some l => some (.agg l.toArray, S) | none => none) from by kernel_rfl]
 simp [ZA, splice, qX, h0, h1]
theorem Jy  (S : zk) : yJ Try.prog 28 [] S = some (.agg [(Value.int IntKind.i64 0), (Value.int IntKind.i64 0), (Value.int IntKind.i64 0), (Value.int IntKind.i64 0), (Value.slice none 0 0)].toArray, S) := by
 kernel_rfl
theorem vI {y0 y1 y2 y3 y4 : Value} (h0 : y0.cells = #[y0]) (h1 : y1.cells = #[y1]) (h2 : y2.cells = #[y2]) (h3 : y3.cells = #[y3]) (h4 : y4.cells = #[y4]) (S : zk) : yJ Try.prog 28 [(0, y0), (1, y1), (2, y2), (3, y3), (4, y4)] S = some (.agg [y0, y1, y2, y3, y4].toArray, S) := by
 rw [show yJ Try.prog 28 [(0, y0), (1, y1), (2, y2), (3, y3), (4, y4)] S = (match ZA ([(0, 1), (1, 1), (2, 1), (3, 1), (4, 1)][·]?) [(Value.int IntKind.i64 0), (Value.int IntKind.i64 0), (Value.int IntKind.i64 0), (Value.int IntKind.i64 0), (Value.slice none 0 0)] [(0, y0), (1, y1), (2, y2), (3, y3), (4, y4)] with | some l => some (.agg l.toArray, S) | none => none) from by kernel_rfl]
 simp [ZA, splice, qX, h0, h1, h2, h3, h4]
theorem Kq  (S : zk) : yJ Try.prog 30 [] S = some (.agg [(Value.int IntKind.i64 0), (Value.int IntKind.i64 0), (Value.int IntKind.i64 0), (Value.int IntKind.i64 0), (Value.int IntKind.i64 0), (Value.int IntKind.i64 0), (Value.int IntKind.i64 0), (Value.int IntKind.i64 0), (Value.int IntKind.i64 0), (Value.int IntKind.i64 0), (Value.int IntKind.i64 0), (Value.int IntKind.i64 0), (Value.slice none 0 0)].toArray, S) := by
 kernel_rfl
theorem qV {y0 y1 : Value} (h0 : y0.cells = #[y0]) (h1 : y1.cells = #[y1]) (S : zk) : yJ Try.prog 30 [(0, y0), (1, y1)] S = some (.agg [y0, y1, (Value.int IntKind.i64 0), (Value.int IntKind.i64 0), (Value.int IntKind.i64 0), (Value.int IntKind.i64 0), (Value.int IntKind.i64 0), (Value.int IntKind.i64 0), (Value.int IntKind.i64 0), (Value.int IntKind.i64 0), (Value.int IntKind.i64 0), (Value.int IntKind.i64 0), (Value.slice none 0 0)].toArray, S) := by
 rw [show yJ Try.prog 30 [(0, y0), (1, y1)] S = (match ZA ([(0, 1), (1, 1), (2, 1), (3, 1), (4, 1), (5, 1), (6, 2), (8, 5)][·]?) [(Value.int IntKind.i64 0), (Value.int IntKind.i64 0), (Value.int IntKind.i64 0), (Value.int IntKind.i64 0), (Value.int IntKind.i64 0), (Value.int IntKind.i64 0), (Value.int IntKind.i64 0), (Value.int IntKind.i64 0), (Value.int IntKind.i64 0), (Value.int IntKind.i64 0), (Value.int IntKind.i64 0), (Value.int IntKind.i64 0), (Value.slice none 0 0)] [(0, y0), (1, y1)] with | some l => some (.agg l.toArray, S) | none => none) from by kernel_rfl]
 simp [ZA, splice, qX, h0, h1]
theorem vJ {y0 y1 y2 y3 y4 y5 : Value} (h0 : y0.cells = #[y0]) (h1 : y1.cells = #[y1]) (h2 : y2.cells = #[y2]) (h3 : y3.cells = #[y3]) (h4 : y4.cells = #[y4]) (h5 : y5.cells = #[y5]) (S : zk) : yJ Try.prog 30 [(0, y0), (1, y1), (2, y2), (3, y3), (4, y4), (5, y5)] S = some (.agg [y0, y1, y2, y3, y4, y5, (Value.int IntKind.i64 0), (Value.int IntKind.i64 0), (Value.int IntKind.i64 0), (Value.int IntKind.i64 0), (Value.int IntKind.i64 0), (Value.int IntKind.i64 0), (Value.slice none 0 0)].toArray, S) := by
 rw [show yJ Try.prog 30 [(0, y0), (1, y1), (2, y2), (3, y3), (4, y4), (5, y5)] S = (match ZA ([(0, 1), (1, 1), (2, 1), (3, 1), (4, 1), (5, 1), (6, 2), (8, 5)][·]?) [(Value.int IntKind.i64 0), (Value.int IntKind.i64 0), (Value.int IntKind.i64 0), (Value.int IntKind.i64 0), (Value.int IntKind.i64 0), (Value.int IntKind.i64 0), (Value.int IntKind.i64 0), (Value.int IntKind.i64 0), (Value.int IntKind.i64 0), (Value.int IntKind.i64 0), (Value.int IntKind.i64 0), (Value.int IntKind.i64 0), (Value.slice none 0 0)] [(0, y0), (1, y1), (2, y2), (3, y3), (4, y4), (5, y5)] with | some l => some (.agg l.toArray, S) | none => none) from by kernel_rfl]
 simp [ZA, splice, qX, h0, h1, h2, h3, h4, h5]
@[simp] theorem Z4 (k : IntKind) (n : Int) (H : zk) : qJ Try.prog 3 42 (.int k n) H = some (.int IntKind.u64 (IntKind.wrap IntKind.u64 n), H) := Yj agG YX k n
@[simp] theorem xY (k : IntKind) (n : Int) (H : zk) : qJ Try.prog 5 42 (.int k n) H = some (.int IntKind.u64 (IntKind.wrap IntKind.u64 n), H) := Yj aa7 YX k n
@[simp] theorem Yc (k : IntKind) (n : Int) (H : zk) : qJ Try.prog 42 3 (.int k n) H = some (.int IntKind.i64 (IntKind.wrap IntKind.i64 n), H) := Yj YX agG k n
@[simp] theorem Zv (k : IntKind) (n : Int) (H : zk) : qJ Try.prog 42 5 (.int k n) H = some (.int IntKind.u8 (IntKind.wrap IntKind.u8 n), H) := Yj YX aa7 k n
theorem xM (S : zk) : jR Try.prog 23 0 [] S = some (sv 2 1 0 [], S) := by kernel_rfl
theorem ZC (x0 : Int) (S : zk) : jR Try.prog 23 1 [(0, .int IntKind.u8 x0)] S = some (sv 2 1 1 [.int IntKind.u8 x0], S) := by kernel_rfl
theorem XF (S : zk) : jR Try.prog 26 0 [] S = some (sv 2 2 0 [], S) := by kernel_rfl
theorem ac7 (S : zk) : jR Try.prog 57 0 [] S = some (sv 2 1 0 [], S) := by kernel_rfl
theorem JW (x0 : Int) (S : zk) : jR Try.prog 57 1 [(0, .int IntKind.i64 x0)] S = some (sv 2 1 1 [.int IntKind.i64 x0], S) := by kernel_rfl
theorem Yz (x0 x1 : Int) (S : zk) : jR Try.prog 57 2 [(0, .int IntKind.i64 x0), (1, .int IntKind.i64 x1)] S = some (sv 2 1 2 [.int IntKind.i64 x0, .int IntKind.i64 x1], S) := by kernel_rfl
theorem vZ {k : Nat} {l : List UInt8} {S : zk} (h : Okl k l) : Zz Try.prog 23 (by_ k l) S = some (goInt l.length, S) := ad2 Zr h
theorem afP {k : Nat} {l : List UInt8} {S : zk} {ki : IntKind} {i : Int} (h : Okl k l) (h0 : 0 ≤ i) (hi : i < l.length) : jo Try.prog 23 (by_ k l) (.int ki i) S = some (EP [.int .u8 (l[i.toNat]'(by omega)).toNat], S) := aiq Zr aaT abA h h0 hi
theorem Qs {fx : Bool} {v : Value} {S : zk} : jf Try.prog fx 5 (EP [v]) S = some (v, S) := Qv ahA
theorem abK {k : Nat} {l : List UInt8} {S : zk} {lo hi : Option Value} {i j : Int} (h : Okl k l) (hlo : vM 0 lo = some i) (hhi : vM l.length hi = some j) (h0 : 0 ≤ i) (hij : i ≤ j) (hj : j ≤ l.length) : Zo Try.prog 23 (by_ k l) lo hi S = some (by_ (if k = 2 then 1 else k) ((l.drop i.toNat).take (j.toNat - i.toNat)), S) := abl Zr aaT abA h hlo hhi h0 hij hj
theorem kW {k : Nat} {l : List UInt8} {S : zk} {j : Nat} {m : List UInt8} (h : Okl k l) (hk : k ≠ 1) (hm : Okl j m) (hl : l.length + m.length ≤ 140737488355328) : wY Try.prog 23 23 (by_ k l) (by_ j m) S = some (by_ (if k = 0 ∧ m.length = 0 then 0 else 2) (l ++ m), S) := QB Zr aaT air rfl ahH (by omega) Zr abA ajl h hk hm (by omega) (by omega)
theorem adV {k : Nat} {l : List UInt8} {S : zk} (h : Okl k l) (hl : l.length ≤ 140737488355328) : wY Try.prog 23 23 (by_ 2 []) (by_ k l) S = some (by_ 2 l, S) := by
 rw [kW Okl.own (by decide) h (by simpa using hl)]; rfl
theorem agl {k : Nat} {l : List UInt8} {S : zk} (h : Okl k l) : wu Try.prog .eql 23 (by_ k l) (.slice none 0 0) S = some (.bool (decide (k = 0)), S) := afR Zr h
theorem abn {k : Nat} {l : List UInt8} {S : zk} (h : Okl k l) : Ji Try.prog 23 9 (by_ k l) S = some (.string ⟨l.toArray⟩, S) := adI Zr aa7 agm h
theorem abS {k : Nat} {l : List Int} {S : zk} (h : Okl k l) : Zz Try.prog 57 (iz k l) S = some (goInt l.length, S) := ad2 Xd h
theorem acd {k : Nat} {l : List Int} {S : zk} {ki : IntKind} {i : Int} (h : Okl k l) (h0 : 0 ≤ i) (hi : i < l.length) : jo Try.prog 57 (iz k l) (.int ki i) S = some (EP [.int .i64 (l[i.toNat]'(by omega))], S) := aiq Xd acw agW h h0 hi
theorem yX {fx : Bool} {v : Value} {S : zk} : jf Try.prog fx 3 (EP [v]) S = some (v, S) := Qv ZL
theorem aal {k : Nat} {l : List Int} {S : zk} {j : Nat} {m : List Int} (h : Okl k l) (hk : k ≠ 1) (hm : Okl j m) (hl : l.length + m.length ≤ 17592186044416) : wY Try.prog 57 57 (iz k l) (iz j m) S = some (iz (if k = 0 ∧ m.length = 0 then 0 else 2) (l ++ m), S) := QB Xd acw ajE rfl ajC (by omega) Xd agW aji h hk hm (by omega) (by omega)
theorem wk : type_of% (And.intro @Xa (And.intro @Yb (And.intro @YQ (And.intro @Y6 (And.intro @KD (And.intro @Qr (And.intro @Y4 (And.intro @QM (And.intro @YD (And.intro @VZ (And.intro @Qk (And.intro @VQ (And.intro @abT (And.intro @Ym (And.intro @KN (And.intro @Qo (And.intro @KE (And.intro @Qg (And.intro @Qm (And.intro @agQ (And.intro @ahi (And.intro @agP (And.intro @ag2 (And.intro @ahb (And.intro @aaM (And.intro @aaP (And.intro @aek (And.intro @aeT (And.intro @ady (And.intro @abM (And.intro @YP (And.intro @kU (And.intro @Bool.and_true (And.intro @Bool.true_and (And.intro @Bool.and_self (And.intro @abv (And.intro @ZY (And.intro @KF (And.intro @aac (And.intro @Qi (And.intro @ahn (And.intro @ahv (And.intro @agR (And.intro @ag8 (And.intro @ai3 (And.intro @aiS (And.intro @aje (And.intro @ai5 (And.intro @ajp (And.intro @ahy (And.intro @ahq (And.intro @agS (And.intro @agZ (And.intro @ahk (And.intro @aeD (And.intro @KL (And.intro @Bool.false_eq_true (And.intro @abB (And.intro @adO (And.intro @KY (And.intro @Vk (And.intro @VA (And.intro @ahc (And.intro @aaj (And.intro @ahx (And.intro @QJ (And.intro @adY (And.intro @abC (And.intro @KU (And.intro @adE (And.intro @aeB (And.intro @ab5 (And.intro @Qu (And.intro @VX (And.intro @aes (And.intro @aeI (And.intro @abk (And.intro @XW (And.intro @abP (And.intro @Qz (And.intro @aan (And.intro @VJ (And.intro @KR (And.intro @WL (And.intro @Wh (And.intro @Qb (And.intro @VG (And.intro @YA (And.intro @Ky (And.intro @Wn (And.intro @Wp (And.intro @J8 (And.intro @XV (And.intro @XE (And.intro @WR (And.intro @X7 (And.intro @XO (And.intro @X0 (And.intro @Xy (And.intro @XM (And.intro @X6 (And.intro @aeS (And.intro @Bool.not_true (And.intro @Bool.not_false (And.intro @Bool.true_eq_false (And.intro @decide_true (And.intro @decide_false (And.intro @ae2 (And.intro @ae8 (And.intro @afm (And.intro @aeX (And.intro @aeo (And.intro @aeL (And.intro @ado (And.intro @afu (And.intro @aft (And.intro @afk (And.intro @adS (And.intro @aez (And.intro @aeZ (And.intro @afg (@aeO)))))))))))))))))))))))))))))))))))))))))))))))))))))))))))))))))))))))))))))))))))))))))))))))))))))))))))))))))))))))))) := And.intro @Xa (And.intro @Yb (And.intro @YQ (And.intro @Y6 (And.intro @KD (And.intro @Qr (And.intro @Y4 (And.intro @QM (And.intro @YD (And.intro @VZ (And.intro @Qk (And.intro @VQ (And.intro @abT (And.intro @Ym (And.intro @KN (And.intro @Qo (And.intro @KE (And.intro @Qg (And.intro @Qm (And.intro @agQ (And.intro @ahi (And.intro @agP (And.intro @ag2 (And.intro @ahb (And.intro @aaM (And.intro @aaP (And.intro @aek (And.intro @aeT (And.intro @ady (And.intro @abM (And.intro @YP (And.intro @kU (And.intro @Bool.and_true (And.intro @Bool.true_and (And.intro @Bool.and_self (And.intro @abv (And.intro @ZY (And.intro @KF (And.intro @aac (And.intro @Qi (And.intro @ahn (And.intro @ahv (And.intro @agR (And.intro @ag8 (And.intro @ai3 (And.intro @aiS (And.intro @aje (And.intro @ai5 (And.intro @ajp (And.intro @ahy (And.intro @ahq (And.intro @agS (And.intro @agZ (And.intro @ahk (And.intro @aeD (And.intro @KL (And.intro @Bool.false_eq_true (And.intro @abB (And.intro @adO (And.intro @KY (And.intro @Vk (And.intro @VA (And.intro @ahc (And.intro @aaj (And.intro @ahx (And.intro @QJ (And.intro @adY (And.intro @abC (And.intro @KU (And.intro @adE (And.intro @aeB (And.intro @ab5 (And.intro @Qu (And.intro @VX (And.intro @aes (And.intro @aeI (And.intro @abk (And.intro @XW (And.intro @abP (And.intro @Qz (And.intro @aan (And.intro @VJ (And.intro @KR (And.intro @WL (And.intro @Wh (And.intro @Qb (And.intro @VG (And.intro @YA (And.intro @Ky (And.intro @Wn (And.intro @Wp (And.intro @J8 (And.intro @XV (And.intro @XE (And.intro @WR (And.intro @X7 (And.intro @XO (And.intro @X0 (And.intro @Xy (And.intro @XM (And.intro @X6 (And.intro @aeS (And.intro @Bool.not_true (And.intro @Bool.not_false (And.intro @Bool.true_eq_false (And.intro @decide_true (And.intro @decide_false (And.intro @ae2 (And.intro @ae8 (And.intro @afm (And.intro @aeX (And.intro @aeo (And.intro @aeL (And.intro @ado (And.intro @afu (And.intro @aft (And.intro @afk (And.intro @adS (And.intro @aez (And.intro @aeZ (And.intro @afg (@aeO)))))))))))))))))))))))))))))))))))))))))))))))))))))))))))))))))))))))))))))))))))))))))))))))))))))))))))))))))))))))))
theorem zSs : type_of% (And.intro wk (And.intro (@List.getD_cons_succ Value) (And.intro (@List.getD_cons_zero Value) (And.intro @if_true.{1} (And.intro @if_false.{1} (And.intro (@List.getElem?_cons_succ Value) (And.intro (@List.getElem?_cons_zero Value) (And.intro @Option.map_some.{0,0} @eq_self.{1})))))))) := And.intro wk (And.intro (@List.getD_cons_succ Value) (And.intro (@List.getD_cons_zero Value) (And.intro @if_true.{1} (And.intro @if_false.{1} (And.intro (@List.getElem?_cons_succ Value) (And.intro (@List.getElem?_cons_zero Value) (And.intro @Option.map_some.{0,0} @eq_self.{1})))))))
end Go.Proofs.Ytbgcphbbchndkaa
namespace Go.Proofs.Ytbgcphbbchndkaa
open Go.Abs
def enc (n : Nat) : List UInt8 := if n < 128 then [UInt8.ofNat n] else UInt8.ofNat (n % 128 + 128) :: enc (n / 128)
termination_by n
decreasing_by omega
theorem xU {n : Nat} (h : n < 128) : enc n = [UInt8.ofNat n] := by rw [enc, if_pos h]
theorem WC {n : Nat} (h : ¬ n < 128) : enc n = UInt8.ofNat (n % 128 + 128) :: enc (n / 128) := by rw [enc, if_neg h]
theorem wrap_u8 (n : Nat) : IntKind.u8.wrap (n : Int) = ((n % 256 : Nat) : Int) := by
 simp [IntKind.wrap, IntKind.bits, IntKind.signed]
theorem wrap_u64 (n : Nat) : IntKind.u64.wrap (n : Int) = ((n % 2 ^ 64 : Nat) : Int) := by
 simp [IntKind.wrap, IntKind.bits, IntKind.signed]
theorem ajw : ∀ m : Fin 256, orI .u8 (m.val : Int) 128 = ((m.val % 128 + 128 : Nat) : Int) := by decide +kernel
theorem ais (n : Nat) : orI .u8 (IntKind.u8.wrap (n : Int)) 128 = ((UInt8.ofNat (n % 128 + 128)).toNat : Int) := by
 rw [wrap_u8, ajw ⟨n % 256, by omega⟩]
 simp only [UInt8.toNat_ofNat']
 omega
theorem aaJ {n : Nat} : IntKind.u8.wrap (n : Int) = ((UInt8.ofNat n).toNat : Int) := by
 rw [wrap_u8]
 simp
theorem ajQ (n : Nat) : (n : Int).fdiv (2 ^ min (Int.toNat 7) (IntKind.bits .u64)) = ((n / 128 : Nat) : Int) := by
 have : (2 : Int) ^ min (Int.toNat 7) (IntKind.bits .u64) = 128 := by decide
 rw [this, Int.fdiv_eq_ediv_of_nonneg _ (by omega)]
 omega
theorem aew (k : Nat) : ∀ n, n < 128 ^ (k + 1) → (enc n).length ≤ k + 1 := by
 induction k with
 | zero => intro n h; rw [xU (by omega)]; simp
 | succ k ih =>
  intro n h
  by_cases hn : n < 128
  ·
   rw [xU hn]; simp
  ·
   rw [WC hn]
   have := ih (n / 128) (by rw [Nat.div_lt_iff_lt_mul (by omega)]; exact h)
   simp only [List.length_cons]; omega
theorem Jo {n : Nat} (h : n < 2 ^ 64) : (enc n).length ≤ 10 := aew 9 n (Nat.lt_of_lt_of_le h (by decide))
theorem adW (n : Nat) : (n : Int).tmod 128 = ((n % 128 : Nat) : Int) := by
 rw [Int.tmod_eq_emod_of_nonneg (by omega)]; omega
theorem ah3 (n : Nat) (h : n < 2 ^ 64) : IntKind.u64.wrap ((n : Int).tdiv 128) = ((n / 128 : Nat) : Int) := by
 rw [Int.tdiv_eq_ediv_of_nonneg (by omega), show (n : Int) / 128 = ((n / 128 : Nat) : Int) by omega, wrap_u64]
 omega
theorem ajs (n : Nat) : IntKind.u8.wrap ((n % 128 : Nat) : Int) = ((UInt8.ofNat (n % 128)).toNat : Int) := aaJ
theorem ah8 (n : Nat) : IntKind.u8.wrap (((UInt8.ofNat (n % 128)).toNat : Int) + 128) = ((UInt8.ofNat (n % 128 + 128)).toNat : Int) := by
 have : ((UInt8.ofNat (n % 128)).toNat : Int) + 128 = ((n % 128 + 128 : Nat) : Int) := by simp only [UInt8.toNat_ofNat']; omega
 rw [this]; exact aaJ
theorem adq : sv 2 1 0 [] = by_ 2 [] := rfl
theorem afN (x : UInt8) : sv 2 1 1 [.int .u8 x.toNat] = by_ 2 [x] := rfl
theorem aaE {k : Nat} {l : List UInt8} {x : UInt8} {S : zk} (h : Okl k l) (hk : k ≠ 1) (hl : l.length ≤ 140737488355000) : wY Try.prog 23 23 (by_ k l) (by_ 2 [x]) S = some (by_ 2 (l ++ [x]), S) := by
 rw [kW h hk Okl.own (by simp; omega), if_neg (fun h => by have := h.2; simp at this)]
theorem wR.round : ∀ (n : Nat) (l : List UInt8) (k : Nat) {T : List Value} {S : zk} {r : St}, qm (zF Try.prog O false wR.jI) T S = r → T.length = 19 → T.getD 0 undef = .int .u64 n → T.getD 3 undef = by_ k l →
  Okl k l → k ≠ 1 → n * 2 ^ l.length < 2 ^ 64 → ∃ T' l' k' n', r = some (.exit 0, T', S) ∧ T'.length = 19 ∧ T'.getD 0 undef = .int .u64 (n' : Nat) ∧ T'.getD 3 undef = by_ k' l' ∧
   Okl k' l' ∧ k' ≠ 1 ∧ n' < 128 ∧ l' ++ [UInt8.ofNat n'] = l ++ enc n := by
 intro n
 induction n using Nat.strongRecOn with
 | _ n ih =>
  intro l k T S r hL hT h0 h3 hs hk hl
  obtain ⟨x0, x1, x2, x3, x4, x5, x6, x7, x8, x9, x10, x11, x12, x13, x14, x15, x16, x17, x18, hTe⟩ := wR.list hT
  rw [hTe] at h0 h3
  simp only [List.getD_cons_succ, List.getD_cons_zero] at h0 h3
  subst h0 h3
  have hr : zF Try.prog O false wR.jI T S = zF Try.prog O false wR.jI T S := rfl
  by_cases hlt : n < 128
  ·
   have hd : decide ((128 : Int) ≤ (n : Int)) = false := by simp; omega
   conv at hr =>
    rhs
    rw [hTe]
    simp only [wR.jI, zSs, reduceIte, Nat.reduceEqDiff, Int.reduceEq, Int.reduceLT, Int.reduceLE, wR.r2, hd]
   exact ⟨_, l, k, n, hL.symm.trans (wo hr (by simp)), rfl, rfl, rfl, hs, hk, hlt, by rw [xU hlt]⟩
  ·
   have hd : decide ((128 : Int) ≤ (n : Int)) = true := by simp; omega
   have hll : l.length < 64 := by
    have : 2 ^ l.length < 2 ^ 64 := Nat.lt_of_le_of_lt (Nat.le_mul_of_pos_left _ (by omega)) hl
    exact (Nat.pow_lt_pow_iff_right (by omega)).1 this
   have e1 : ∀ x S, wY Try.prog 23 23 (by_ k l) (by_ 2 [x]) S = some (by_ 2 (l ++ [x]), S) := fun x S => aaE hs hk (by omega)
   conv at hr =>
    rhs
    rw [hTe]
    simp only [wR.jI, zSs, reduceIte, Nat.reduceEqDiff, Int.reduceEq, Int.reduceLT, Int.reduceLE, wR.r2, hd, wR.r3, Zv, aem, ais, ZC, afN, e1, wR.r4, abY _ _ _ _ (show (0 : Int) ≤ 7 by omega), ajQ]
   have hmul : n / 128 * 2 ^ (l.length + 1) < 2 ^ 64 := by
    refine Nat.lt_of_le_of_lt ?_ hl
    rw [Nat.pow_succ, Nat.mul_comm (2 ^ l.length) 2, ← Nat.mul_assoc]
    exact Nat.mul_le_mul_right _ (by omega)
   obtain ⟨T', l', k', n', g1, g2, g3, g4, g5, g6, g7, g8⟩ := ih (n / 128) (by omega) _ 2 ((yg hr).symm.trans hL) rfl rfl rfl Okl.own (by decide) (by simpa using hmul)
   refine ⟨T', l', k', n', g1, g2, g3, g4, g5, g6, g7, ?_⟩
   rw [g8, WC hlt, List.append_assoc]; rfl
theorem wR.v (n : Nat) (hn : n < 2 ^ 64) (S : zk) : jc Try.prog O wR.id [.int .u64 n] S = some (by_ 2 (enc n), S) := by
 obtain ⟨T, hTe⟩ : ∃ T, T = (.int .u64 n :: undef :: undef :: undef :: undef :: undef :: undef :: undef :: undef :: undef :: undef :: undef :: undef :: undef :: undef :: undef :: undef :: undef :: undef :: []) := ⟨_, rfl⟩
 have hr : zF Try.prog O false wR.code T S = zF Try.prog O false wR.code T S := rfl
 conv at hr =>
  rhs
  rw [hTe]
  simp only [wR.code, zSs, reduceIte, Nat.reduceEqDiff, Int.reduceEq, Int.reduceLT, Int.reduceLE, wR.r0, wR.r1]
 generalize hL : qm (zF Try.prog O false wR.jI) _ _ = r at hr
 obtain ⟨T', l', k', n', rfl, g2, g3, g4, g5, g6, g7, g8⟩ := wR.round n [] 0 hL rfl rfl rfl Okl.none (by decide) (by simpa using hn)
 obtain ⟨x0, x1, x2, x3, x4, x5, x6, x7, x8, x9, x10, x11, x12, x13, x14, x15, x16, x17, x18, hT'⟩ := wR.list g2
 rw [hT'] at g3 g4
 simp only [List.getD_cons_succ, List.getD_cons_zero] at g3 g4
 subst g3 g4
 have hlen : l'.length + 1 = (enc n).length := by simpa using congrArg List.length g8
 have h10 := Jo hn
 have e1 : ∀ x S, wY Try.prog 23 23 (by_ k' l') (by_ 2 [x]) S = some (by_ 2 (l' ++ [x]), S) := fun x S => aaE g5 g6 (by omega)
 conv at hr =>
  rhs
  rw [hT']
  simp only [zSs, reduceIte, Nat.reduceEqDiff, Int.reduceEq, Int.reduceLT, Int.reduceLE, wR.r5, Zv, aaJ, ZC, afN, e1]
 rw [hTe] at hr
 have := wR.runs hr (.inr rfl)
 rw [List.nil_append] at g8
 rw [← g8]
 exact this
theorem jg.round : ∀ (n : Nat) (l : List UInt8) {T : List Value} {S : zk} {r : St}, qm (zF Try.prog O false jg.jI) T S = r → T.length = 22 → T.getD 0 undef = .int .u64 n → T.getD 3 undef = by_ 2 l →
  n * 2 ^ l.length < 2 ^ 64 → l.length < 64 → ∃ T', r = some (.ret, T', S) ∧ T'.getD 2 undef = by_ 2 (l ++ enc n) := by
 intro n
 induction n using Nat.strongRecOn with
 | _ n ih =>
  intro l T S r hL hT h0 h3 hl hll
  obtain ⟨x0, x1, x2, x3, x4, x5, x6, x7, x8, x9, x10, x11, x12, x13, x14, x15, x16, x17, x18, x19, x20, x21, hTe⟩ := jg.list hT
  rw [hTe] at h0 h3
  simp only [List.getD_cons_succ, List.getD_cons_zero] at h0 h3
  subst h0 h3
  have hn : n < 2 ^ 64 := Nat.lt_of_le_of_lt (Nat.le_mul_of_pos_right _ (by exact Nat.two_pow_pos _)) hl
  have e1 : ∀ x S, wY Try.prog 23 23 (by_ 2 l) (by_ 2 [x]) S = some (by_ 2 (l ++ [x]), S) := fun x S => aaE Okl.own (by decide) (by omega)
  have hr : zF Try.prog O false jg.jI T S = zF Try.prog O false jg.jI T S := rfl
  conv at hr =>
   rhs
   rw [hTe]
   simp only [jg.jI, zSs, reduceIte, Nat.reduceEqDiff, Int.reduceEq, Int.reduceLT, Int.reduceLE, jg.r2, jg.r3, jg.r4, JJ _ _ _ (show (128 : Int) ≠ 0 by omega), xg _ _ _ (show (128 : Int) ≠ 0 by omega), adW, ah3 n hn, Zv, ajs]
  by_cases hz : n / 128 = 0
  ·
   have hd : decide (((n / 128 : Nat) : Int) = 0) = true := by simp; omega
   conv at hr =>
    rhs
    simp only [hd, zSs, reduceIte, Nat.reduceEqDiff, Int.reduceEq, Int.reduceLT, Int.reduceLE, jg.r5, ZC, afN, e1]
   refine ⟨_, hL.symm.trans (wo hr (by simp)), ?_⟩
   rw [xU (by omega)]
   simp only [List.getD_cons_succ, List.getD_cons_zero]
   rw [show n % 128 = n by omega]
  ·
   have hd : decide (((n / 128 : Nat) : Int) = 0) = false := by simp; omega
   conv at hr =>
    rhs
    simp only [hd, zSs, reduceIte, Nat.reduceEqDiff, Int.reduceEq, Int.reduceLT, Int.reduceLE, jg.r6, ah8, ZC, afN, e1]
   have hmul : n / 128 * 2 ^ (l.length + 1) < 2 ^ 64 := by
    refine Nat.lt_of_le_of_lt ?_ hl
    rw [Nat.pow_succ, Nat.mul_comm (2 ^ l.length) 2, ← Nat.mul_assoc]
    exact Nat.mul_le_mul_right _ (by omega)
   have hl2 : l.length + 1 < 64 := by
    have : 2 ^ (l.length + 1) < 2 ^ 64 := Nat.lt_of_le_of_lt (Nat.le_mul_of_pos_left _ (by omega)) hmul
    exact (Nat.pow_lt_pow_iff_right (by omega)).1 this
   obtain ⟨T', g1, g2⟩ := ih (n / 128) (by omega) _ ((yg hr).symm.trans hL) rfl rfl rfl (by simpa using hmul) (by simpa using hl2)
   refine ⟨T', g1, ?_⟩
   rw [g2, WC (n := n) (by omega), List.append_assoc]
   rfl
theorem jg.v (n : Nat) (hn : n < 2 ^ 64) (S : zk) : jc Try.prog O jg.id [.int .u64 n] S = some (by_ 2 (enc n), S) := by
 obtain ⟨T, hTe⟩ : ∃ T, T = (.int .u64 n :: undef :: undef :: undef :: undef :: undef :: undef :: undef :: undef :: undef :: undef :: undef :: undef :: undef :: undef :: undef :: undef :: undef :: undef :: undef :: undef :: undef :: []) := ⟨_, rfl⟩
 have hr : zF Try.prog O false jg.code T S = zF Try.prog O false jg.code T S := rfl
 conv at hr =>
  rhs
  rw [hTe]
  simp only [jg.code, zSs, reduceIte, Nat.reduceEqDiff, Int.reduceEq, Int.reduceLT, Int.reduceLE, jg.r0, jg.r1, xM, adq]
 generalize hL : qm (zF Try.prog O false jg.jI) _ _ = r at hr
 obtain ⟨T', rfl, g2⟩ := jg.round n [] hL rfl rfl rfl (by simpa using hn) (by simp)
 conv at hr =>
  rhs
  simp only [zSs, reduceIte, Nat.reduceEqDiff, Int.reduceEq, Int.reduceLT, Int.reduceLE]
 rw [hTe] at hr
 have hrun := jg.runs hr (.inr rfl)
 rw [g2] at hrun
 exact hrun
end Go.Proofs.Ytbgcphbbchndkaa
namespace Go.Proofs.Ytbgcphbbchndkaa
open Go.Abs
theorem slices_Clone.v {k : Nat} {l : List UInt8} (h : Okl k l) (hk : k ≠ 2) (hl : l.length ≤ 140737488355328) (S : zk) : jc Try.prog O slices_Clone.id [by_ k l] S = some (by_ (if k = 0 then 0 else 2) l, S) := by
 obtain ⟨T, hTe⟩ : ∃ T, T = (by_ k l :: undef :: undef :: undef :: undef :: undef :: undef :: undef :: []) := ⟨_, rfl⟩
 have hr : zF Try.prog O false slices_Clone.code T S = zF Try.prog O false slices_Clone.code T S := rfl
 conv at hr =>
  rhs
  rw [hTe]
  simp only [slices_Clone.code, zSs, reduceIte, Nat.reduceEqDiff, Int.reduceEq, Int.reduceLT, Int.reduceLE, slices_Clone.r0, slices_Clone.r1, if_neg hk, agl h]
 by_cases h0 : k = 0
 ·
  have hl0 := h.nil h0
  subst h0 hl0
  conv at hr =>
   rhs
   simp only [decide_true, zSs, reduceIte, Nat.reduceEqDiff, Int.reduceEq, Int.reduceLT, Int.reduceLE, slices_Clone.r2]
  rw [hTe] at hr
  exact slices_Clone.runs hr (.inr rfl)
 ·
  have e1 : ∀ S, wY Try.prog 23 23 (by_ 2 []) (by_ k l) S = some (by_ 2 l, S) := fun S => by
   rw [kW Okl.own (by decide) h (by simpa using hl)]; rfl
  conv at hr =>
   rhs
   simp only [h0, decide_false, zSs, reduceIte, Nat.reduceEqDiff, Int.reduceEq, Int.reduceLT, Int.reduceLE, slices_Clone.r3, xM, adq, if_neg hk, e1]
  rw [hTe] at hr
  rw [if_neg h0]
  exact slices_Clone.runs hr (.inr rfl)
def scan : Nat → Nat → List UInt8 → Option (Nat × List UInt8)
 | _, _, [] => none
 | i, acc, x :: r => if (i = 9 ∧ 1 < x.toNat) ∨ (0 < i ∧ x.toNat = 0) then none else if x.toNat < 128 then some (acc + x.toNat * 128 ^ i, r) else scan (i + 1) (acc + (x.toNat - 128) * 128 ^ i) r
def QY (l : List UInt8) : Value :=
 match scan 0 0 l with
 | none => .tuple #[.int .u64 0, .slice none 0 0, .int .i64 11]
 | some (m, rest) => .tuple #[.int .u64 (m : Nat), by_ 2 rest, .int .i64 0]
theorem jk.stop (x0 x1 x2 x3 x4 x5 x6 x7 x8 x9 x10 x11 x12 x13 x14 x15 x16 x17 x18 x19 x20 x21 x22 x23 x24 x25 x26 x27 x28 x29 x30 x31 x32 x33 x34 x35 x36 x37 x38 x39 x40 x41 x42 x43 x44 x45 : Value) (i x : Int) (S : zk) (h6 : x6 = .int .i64 i) (h7 : x7 = .int .u8 x) : ∃ y15 y16 y17 y18 y19 y20 y21 y22 y23 y24 y25 y26 y27, jC Try.prog ⟨false, false, false⟩ (jc Try.prog O) (reg Try.f24 5) (reg Try.f24 5).toList (x0 :: x1 :: x2 :: x3 :: x4 :: x5 :: x6 :: x7 :: x8 :: x9 :: x10 :: x11 :: x12 :: x13 :: x14 :: x15 :: x16 :: x17 :: x18 :: x19 :: x20 :: x21 :: x22 :: x23 :: x24 :: x25 :: x26 :: x27 :: x28 :: x29 :: x30 :: x31 :: x32 :: x33 :: x34 :: x35 :: x36 :: x37 :: x38 :: x39 :: x40 :: x41 :: x42 :: x43 :: x44 :: x45 :: []) S =
  some ((x0 :: x1 :: x2 :: x3 :: x4 :: x5 :: x6 :: x7 :: x8 :: x9 :: x10 :: x11 :: x12 :: x13 :: x14 :: y15 :: y16 :: y17 :: y18 :: y19 :: y20 :: y21 :: y22 :: y23 :: y24 :: y25 :: y26 :: y27 :: .bool (decide ((i = 9 ∧ 1 < x) ∨ (0 < i ∧ x = 0))) :: x29 :: x30 :: x31 :: x32 :: x33 :: x34 :: x35 :: x36 :: x37 :: x38 :: x39 :: x40 :: x41 :: x42 :: x43 :: x44 :: x45 :: []), S) := by
 subst h6 h7
 rw [jk.r5]
 simp only [zSs, reduceIte, Nat.reduceEqDiff, Int.reduceEq, Int.reduceLT, Int.reduceLE]
 rcases Bool.eq_false_or_eq_true (decide (i = 9)) with d1 | d1 <;> rcases Bool.eq_false_or_eq_true (decide (1 < x)) with d2 | d2 <;> rcases Bool.eq_false_or_eq_true (decide (0 < i)) with d3 | d3 <;> rcases Bool.eq_false_or_eq_true (decide (x = 0)) with d4 | d4 <;>
  simp only [d1, d2, d3, d4, zSs, reduceIte, Nat.reduceEqDiff, Int.reduceEq, Int.reduceLT, Int.reduceLE] <;> simp only [decide_eq_true_eq, decide_eq_false_iff_not] at d1 d2 d3 d4 <;>
  simp only [d1, d2, d3, d4, true_and, false_and, and_true, and_false, or_true, true_or, or_false, false_or, decide_true, decide_false, not_true, not_false_iff, Int.reduceLT, Int.reduceEq, and_self, or_self] <;> first | exact ⟨_, _, _, _, _, _, _, _, _, _, _, _, _, rfl⟩ | omega
theorem ai8 : ∀ m : Fin 256, ajq .u8 (m.val : Int) 127 = ((m.val % 128 : Nat) : Int) := by decide +kernel
theorem agy (x : UInt8) : ajq .u8 (x.toNat : Int) 127 = ((x.toNat % 128 : Nat) : Int) := ai8 ⟨x.toNat, x.toNat_lt⟩
theorem Zb {n : Nat} (h : n < 2 ^ 64) : IntKind.u64.wrap (n : Int) = (n : Int) := by
 rw [wrap_u64, Nat.mod_eq_of_lt h]
theorem ain {a c i : Nat} (ha : a < 2 ^ i) (h : c * 2 ^ i < 2 ^ 64) (h2 : a < 2 ^ 64) : orI .u64 (a : Int) ((c * 2 ^ i : Nat) : Int) = ((a + c * 2 ^ i : Nat) : Int) := by
 have hor : a ||| c * 2 ^ i = a + c * 2 ^ i := by
  have := Nat.shiftLeft_add_eq_or_of_lt ha c
  rw [Nat.shiftLeft_eq] at this
  rw [Nat.or_comm, ← this, Nat.add_comm]
 have hlt : a ||| c * 2 ^ i < 2 ^ 64 := Nat.or_lt_two_pow h2 h
 unfold orI
 rw [BitVec.ofInt_natCast, BitVec.ofInt_natCast, BitVec.toNat_or, BitVec.toNat_ofNat, BitVec.toNat_ofNat]
 rw [show IntKind.bits .u64 = 64 from rfl, Nat.mod_eq_of_lt h2, Nat.mod_eq_of_lt h, Zb hlt, hor]
theorem ajV {c i : Nat} (hi : i ≤ 9) (h : c * 128 ^ i < 2 ^ 64) : IntKind.u64.wrap ((c : Int) * 2 ^ (min (Int.toNat (7 * (i : Int))) (IntKind.bits .u64))) = ((c * 2 ^ (7 * i) : Nat) : Int) := by
 have e1 : min (Int.toNat (7 * (i : Int))) (IntKind.bits .u64) = 7 * i := by
  rw [show IntKind.bits .u64 = 64 from rfl]; omega
 have e2 : (128 : Nat) ^ i = 2 ^ (7 * i) := by rw [Nat.pow_mul]
 rw [e1, show (c : Int) * 2 ^ (7 * i) = ((c * 2 ^ (7 * i) : Nat) : Int) by simp, Zb (by rw [← e2]; exact h)]
theorem ab7 {l pre suf : List UInt8} {x : UInt8} (hl : l = pre ++ x :: suf) : (l.drop ((pre.length : Int) + 1).toNat).take ((l.length : Int).toNat - ((pre.length : Int) + 1).toNat) = suf := by
 rw [show ((pre.length : Int) + 1).toNat = pre.length + 1 by omega, show (l.length : Int).toNat = l.length by omega, hl]
 rw [show pre ++ x :: suf = (pre ++ [x]) ++ suf by simp, show pre.length + 1 = (pre ++ [x]).length by simp, List.drop_left]
 rw [List.take_of_length_le]; simp; omega
theorem jk.round {k : Nat} {l : List UInt8} (hv : Okl k l) (hk : k ≠ 2) (hlen : l.length ≤ 140737488355328) {S : zk} : ∀ (suf pre : List UInt8) (acc : Nat) {T : List Value} {r : St}, qm (zF Try.prog O false jk.jI) T S = r → T.length = 46 →
  T.getD 0 undef = by_ k l → T.getD 8 undef = by_ k l → T.getD 9 undef = .int .i64 l.length → T.getD 10 undef = .int .i64 pre.length → T.getD 5 undef = .int .u64 acc → l = pre ++ suf → acc < 128 ^ pre.length → pre.length ≤ 9 →
  ∃ e T', r = some (e, T', S) ∧ match scan pre.length acc suf with
   | none => e = .exit 0 ∧ T'.length = 46
   | some (m, rest) => e = .ret ∧ m < 2 ^ 64 ∧ T'.getD 2 undef = .int .u64 m ∧ T'.getD 3 undef = by_ 2 rest ∧ T'.getD 4 undef = .int .i64 0 := by
 intro suf
 induction suf with
 | nil =>
  intro pre acc T r hL hT h0 h8 h9 h10 h5 hl hacc hpre
  obtain ⟨x0, x1, x2, x3, x4, x5, x6, x7, x8, x9, x10, x11, x12, x13, x14, x15, x16, x17, x18, x19, x20, x21, x22, x23, x24, x25, x26, x27, x28, x29, x30, x31, x32, x33, x34, x35, x36, x37, x38, x39, x40, x41, x42, x43, x44, x45, hTe⟩ := jk.list hT
  rw [hTe] at h0 h8 h9 h10 h5
  simp only [List.getD_cons_succ, List.getD_cons_zero] at h0 h8 h9 h10 h5
  subst h0 h8 h9 h10 h5
  have hr : zF Try.prog O false jk.jI T S = zF Try.prog O false jk.jI T S := rfl
  have hd : decide ((pre.length : Int) < (l.length : Int)) = false := by rw [hl]; simp
  conv at hr =>
   rhs
   rw [hTe]
   simp only [jk.jI, zSs, reduceIte, Nat.reduceEqDiff, Int.reduceEq, Int.reduceLT, Int.reduceLE, jk.r3, hd]
  exact ⟨_, _, hL.symm.trans (wo hr (by simp)), rfl, rfl⟩
 | cons x suf ih =>
  intro pre acc T r hL hT h0 h8 h9 h10 h5 hl hacc hpre
  obtain ⟨x0, x1, x2, x3, x4, x5, x6, x7, x8, x9, x10, x11, x12, x13, x14, x15, x16, x17, x18, x19, x20, x21, x22, x23, x24, x25, x26, x27, x28, x29, x30, x31, x32, x33, x34, x35, x36, x37, x38, x39, x40, x41, x42, x43, x44, x45, hTe⟩ := jk.list hT
  rw [hTe] at h0 h8 h9 h10 h5
  simp only [List.getD_cons_succ, List.getD_cons_zero] at h0 h8 h9 h10 h5
  subst h0 h8 h9 h10 h5
  have hr : zF Try.prog O false jk.jI T S = zF Try.prog O false jk.jI T S := rfl
  have hlt : (pre.length : Int) < (l.length : Int) := by rw [hl]; simp; omega
  have hd : decide ((pre.length : Int) < (l.length : Int)) = true := by simpa using hlt
  have k0 : k ≠ 0 := fun h => by have := hv.nil h; rw [this] at hl; simp at hl
  have e1 : ∀ S, jo Try.prog 23 (by_ k l) (.int .i64 pre.length) S = some (EP [.int .u8 x.toNat], S) := fun S => by
   rw [afP hv (by omega) hlt]; rw [V9 hl]
  obtain ⟨y15, y16, y17, y18, y19, y20, y21, y22, y23, y24, y25, y26, y27, e3⟩ := jk.stop (by_ k l) x1 x2 x3 x4 (.int .u64 acc) (.int .i64 pre.length) (.int .u8 x.toNat) (by_ k l) (.int .i64 l.length) (.int .i64 pre.length) (.bool true) (.int .i64 pre.length) (EP [.int .u8 x.toNat]) (.int .u8 x.toNat) x15 x16 x17 x18 x19 x20 x21 x22 x23 x24 x25 x26 x27 x28 x29 x30 x31 x32 x33 x34 x35 x36 x37 x38 x39 x40 x41 x42 x43 x44 x45 (pre.length : Int) (x.toNat : Int) S rfl rfl
  conv at hr =>
   rhs
   rw [hTe]
   simp only [jk.jI, zSs, reduceIte, Nat.reduceEqDiff, Int.reduceEq, Int.reduceLT, Int.reduceLE, jk.r3, hd, jk.r4, e1, Qs, if_neg hk, e3]
  have hst : ((pre.length : Int) = 9 ∧ 1 < (x.toNat : Int) ∨ 0 < (pre.length : Int) ∧ (x.toNat : Int) = 0) ↔ ((pre.length = 9 ∧ 1 < x.toNat) ∨ (0 < pre.length ∧ x.toNat = 0)) := by omega
  by_cases hs : (pre.length = 9 ∧ 1 < x.toNat) ∨ (0 < pre.length ∧ x.toNat = 0)
  ·
   have hs2 := decide_eq_true (hst.2 hs)
   conv at hr =>
    rhs
    simp only [hs2, zSs, reduceIte, Nat.reduceEqDiff, Int.reduceEq, Int.reduceLT, Int.reduceLE]
   refine ⟨_, _, hL.symm.trans (wo hr (by simp)), ?_⟩
   rw [scan, if_pos hs]
   exact ⟨rfl, rfl⟩
  ·
   have hs2 := decide_eq_false (fun h => hs (hst.1 h))
   have hx256 := x.toNat_lt
   have hpw : 128 ^ pre.length ≤ 128 ^ 9 := Nat.pow_le_pow_right (by omega) hpre
   have hc64 : x.toNat % 128 * 128 ^ pre.length < 2 ^ 64 := by
    by_cases h9 : pre.length = 9
    ·
     rw [h9]; have : x.toNat % 128 ≤ 1 := by omega
     exact Nat.lt_of_le_of_lt (Nat.mul_le_mul_right _ this) (by decide)
    ·
     have h8 : 128 ^ pre.length ≤ 128 ^ 8 := Nat.pow_le_pow_right (by omega) (by omega)
     exact Nat.lt_of_le_of_lt (Nat.mul_le_mul (by omega : x.toNat % 128 ≤ 127) h8) (by decide)
   have hm : IntKind.i64.wrap (7 * (pre.length : Int)) = 7 * (pre.length : Int) := wrap_i64 (by omega) (by omega)
   have e128 : (128 : Nat) ^ pre.length = 2 ^ (7 * pre.length) := by rw [Nat.pow_mul]
   have hor := ain (a := acc) (c := x.toNat % 128) (i := 7 * pre.length) (by rw [← e128]; exact hacc) (by rw [← e128]; exact hc64) (Nat.lt_of_lt_of_le hacc (Nat.le_trans hpw (by decide)))
   conv at hr =>
    rhs
    simp only [hs2, zSs, reduceIte, Nat.reduceEqDiff, Int.reduceEq, Int.reduceLT, Int.reduceLE, jk.r6, agx, agy, xY, Zb (show x.toNat % 128 < 2 ^ 64 by omega), hm, Vg _ _ _ _ (show (0 : Int) ≤ 7 * (pre.length : Int) by omega), ajV hpre hc64, aem, hor, jk.r7]
   rw [← e128] at hr
   have hadd : acc + x.toNat % 128 * 128 ^ pre.length < 128 ^ (pre.length + 1) := by
    rw [Nat.pow_succ]
    have : x.toNat % 128 * 128 ^ pre.length ≤ 127 * 128 ^ pre.length := Nat.mul_le_mul_right _ (by omega)
    omega
   have hi1 : IntKind.i64.wrap ((pre.length : Int) + 1) = (pre.length : Int) + 1 := wrap_i64 (by omega) (by omega)
   by_cases hxs : x.toNat < 128
   ·
    have hd2 : decide ((x.toNat : Int) < 128) = true := by simp; omega
    have e4 : ∀ S, Zo Try.prog 23 (by_ k l) (some (.int .i64 ((pre.length : Int) + 1))) none S = some (by_ k suf, S) := fun S => by
     rw [abK hv (lo := some (.int .i64 ((pre.length : Int) + 1))) (hi := none) (i := (pre.length : Int) + 1) (j := l.length) rfl rfl (by omega) (by omega) (by omega), ab7 hl, if_neg hk]
    have ok2 : Okl k suf := ⟨hv.le, fun h => absurd h k0⟩
    have e5 : ∀ S, jc Try.prog O slices_Clone.id [by_ k suf] S = some (by_ 2 suf, S) := fun S => by
     rw [slices_Clone.v ok2 hk (by have := congrArg List.length hl; simp at this; omega), if_neg k0]
    conv at hr =>
     rhs
     simp only [hd2, zSs, reduceIte, Nat.reduceEqDiff, Int.reduceEq, Int.reduceLT, Int.reduceLE, jk.r8, hi1, if_neg hk, e4, e5]
    refine ⟨_, _, hL.symm.trans (wo hr (by simp)), ?_⟩
    rw [scan, if_neg hs, if_pos hxs]
    have hxm : x.toNat % 128 = x.toNat := by omega
    rw [hxm]
    refine ⟨rfl, ?_, rfl, rfl, rfl⟩
    rw [hxm] at hadd
    by_cases h9 : pre.length = 9
    ·
     rw [h9] at hacc ⊢
     have : x.toNat ≤ 1 := by omega
     have h1 : x.toNat * 128 ^ 9 ≤ 1 * 128 ^ 9 := Nat.mul_le_mul_right _ this
     have h2 : (128 : Nat) ^ 9 + 1 * 128 ^ 9 = 2 ^ 64 := by decide
     omega
    ·
     have h8 : 128 ^ (pre.length + 1) ≤ 128 ^ 9 := Nat.pow_le_pow_right (by omega) (by omega)
     exact Nat.lt_of_lt_of_le hadd (Nat.le_trans h8 (by decide))
   ·
    have hd2 : decide ((x.toNat : Int) < 128) = false := by simp; omega
    conv at hr =>
     rhs
     simp only [hd2, zSs, reduceIte, Nat.reduceEqDiff, Int.reduceEq, Int.reduceLT, Int.reduceLE, jk.r9, hi1]
    obtain ⟨e, T', g1, g3⟩ := ih (pre ++ [x]) (acc + x.toNat % 128 * 128 ^ pre.length) ((yg hr).symm.trans hL) rfl rfl rfl rfl (by simp) rfl (by simp [hl]) (by simpa using hadd) (by simp; omega)
    refine ⟨e, T', g1, ?_⟩
    rw [scan, if_neg hs, if_neg hxs]
    have hxm : x.toNat % 128 = x.toNat - 128 := by omega
    rw [hxm] at g3
    simpa using g3
theorem jk.v {k : Nat} {l : List UInt8} (hv : Okl k l) (hk : k ≠ 2) (hlen : l.length ≤ 140737488355328) (S : zk) : jc Try.prog O jk.id [by_ k l] S = some (QY l, S) := by
 obtain ⟨T, hTe⟩ : ∃ T, T = (by_ k l :: undef :: undef :: undef :: undef :: undef :: undef :: undef :: undef :: undef :: undef :: undef :: undef :: undef :: undef :: undef :: undef :: undef :: undef :: undef :: undef :: undef :: undef :: undef :: undef :: undef :: undef :: undef :: undef :: undef :: undef :: undef :: undef :: undef :: undef :: undef :: undef :: undef :: undef :: undef :: undef :: undef :: undef :: undef :: undef :: undef :: []) := ⟨_, rfl⟩
 have hr : zF Try.prog O false jk.code T S = zF Try.prog O false jk.code T S := rfl
 conv at hr =>
  rhs
  rw [hTe]
  simp only [jk.code, zSs, reduceIte, Nat.reduceEqDiff, Int.reduceEq, Int.reduceLT, Int.reduceLE, jk.r0, jk.r1, jk.r2, if_neg hk, vZ hv]
 generalize hL : qm (zF Try.prog O false jk.jI) _ _ = r at hr
 obtain ⟨e, T', rfl, g3⟩ := jk.round hv hk hlen l [] 0 hL rfl rfl rfl rfl rfl rfl rfl (by simp) (by simp)
 simp only [List.length_nil] at g3
 unfold QY
 cases hsc : scan 0 0 l with
 | none =>
  rw [hsc] at g3
  obtain ⟨rfl, hT'⟩ := g3
  obtain ⟨x0, x1, x2, x3, x4, x5, x6, x7, x8, x9, x10, x11, x12, x13, x14, x15, x16, x17, x18, x19, x20, x21, x22, x23, x24, x25, x26, x27, x28, x29, x30, x31, x32, x33, x34, x35, x36, x37, x38, x39, x40, x41, x42, x43, x44, x45, hTe'⟩ := jk.list hT'
  conv at hr =>
   rhs
   rw [hTe']
   simp only [zSs, reduceIte, Nat.reduceEqDiff, Int.reduceEq, Int.reduceLT, Int.reduceLE, jk.r10]
  rw [hTe] at hr
  exact jk.runs hr (.inr rfl) rfl rfl rfl
 | some mr =>
  obtain ⟨m, rest⟩ := mr
  rw [hsc] at g3
  obtain ⟨rfl, hm, h2, h3, h4⟩ := g3
  conv at hr =>
   rhs
   simp only [zSs, reduceIte, Nat.reduceEqDiff, Int.reduceEq, Int.reduceLT, Int.reduceLE]
  rw [hTe] at hr
  have hrun := jk.runs hr (.inr rfl) (by rw [h2]; rfl) (by rw [h3]; exact jX) (by rw [h4]; rfl)
  rw [h2, h3, h4] at hrun
  exact hrun
theorem Qx : ∀ (suf : List UInt8) (i acc : Nat), acc < 128 ^ i → i ≤ 9 → ∀ m rest, scan i acc suf = some (m, rest) → m < 2 ^ 64 ∧ rest.length < suf.length := by
 intro suf
 induction suf with
 | nil => intro i acc _ _ m rest h; cases h
 | cons x suf ih =>
  intro i acc hacc hi m rest h
  rw [scan] at h
  have hx256 := x.toNat_lt
  split at h
  ·
   cases h
  ·
   rename_i hs
   split at h
   ·
    rename_i hx
    cases h
    refine ⟨?_, by simp⟩
    by_cases h9 : i = 9
    ·
     subst h9
     have : x.toNat ≤ 1 := by omega
     have h1 : x.toNat * 128 ^ 9 ≤ 1 * 128 ^ 9 := Nat.mul_le_mul_right _ this
     have h2 : (128 : Nat) ^ 9 + 1 * 128 ^ 9 = 2 ^ 64 := by decide
     omega
    ·
     have h8 : 128 ^ (i + 1) ≤ 128 ^ 9 := Nat.pow_le_pow_right (by omega) (by omega)
     have h3 : acc + x.toNat * 128 ^ i < 128 ^ (i + 1) := by
      rw [Nat.pow_succ]
      have : x.toNat * 128 ^ i ≤ 127 * 128 ^ i := Nat.mul_le_mul_right _ (by omega)
      omega
     exact Nat.lt_of_lt_of_le h3 (Nat.le_trans h8 (by decide))
   ·
    rename_i hx
    have h9 : i ≠ 9 := by omega
    have hadd : acc + (x.toNat - 128) * 128 ^ i < 128 ^ (i + 1) := by
     rw [Nat.pow_succ]
     have : (x.toNat - 128) * 128 ^ i ≤ 127 * 128 ^ i := Nat.mul_le_mul_right _ (by omega)
     omega
    obtain ⟨h1, h2⟩ := ih (i + 1) _ hadd (by omega) m rest h
    exact ⟨h1, by simp; omega⟩
end Go.Proofs.Ytbgcphbbchndkaa
namespace Go.Proofs.Ytbgcphbbchndkaa
open Go.Abs
theorem zx.goes (x0 x1 x2 x3 x4 x5 x6 x7 x8 x9 x10 x11 x12 x13 x14 x15 x16 x17 x18 x19 x20 x21 x22 x23 x24 x25 x26 x27 x28 x29 x30 x31 x32 x33 x34 x35 x36 x37 x38 x39 x40 x41 x42 x43 x44 x45 x46 x47 x48 x49 x50 x51 x52 x53 x54 x55 x56 x57 : Value) (i : Int) {S : zk} {k : Nat} {l : List UInt8} (hv : Okl k l) (hk : k ≠ 2) (h0 : x0 = by_ k l) (h7 : x7 = .int .i64 i) : ∃ y10 y11 y12 y13 y14 y15 y16, jC Try.prog ⟨false, false, false⟩ (jc Try.prog O) (reg Try.f16 4) (reg Try.f16 4).toList (x0 :: x1 :: x2 :: x3 :: x4 :: x5 :: x6 :: x7 :: x8 :: x9 :: x10 :: x11 :: x12 :: x13 :: x14 :: x15 :: x16 :: x17 :: x18 :: x19 :: x20 :: x21 :: x22 :: x23 :: x24 :: x25 :: x26 :: x27 :: x28 :: x29 :: x30 :: x31 :: x32 :: x33 :: x34 :: x35 :: x36 :: x37 :: x38 :: x39 :: x40 :: x41 :: x42 :: x43 :: x44 :: x45 :: x46 :: x47 :: x48 :: x49 :: x50 :: x51 :: x52 :: x53 :: x54 :: x55 :: x56 :: x57 :: []) S =
  some ((x0 :: x1 :: x2 :: x3 :: x4 :: x5 :: x6 :: x7 :: x8 :: x9 :: y10 :: y11 :: y12 :: y13 :: y14 :: y15 :: y16 :: .bool (decide (i < l.length ∧ i < 10)) :: x18 :: x19 :: x20 :: x21 :: x22 :: x23 :: x24 :: x25 :: x26 :: x27 :: x28 :: x29 :: x30 :: x31 :: x32 :: x33 :: x34 :: x35 :: x36 :: x37 :: x38 :: x39 :: x40 :: x41 :: x42 :: x43 :: x44 :: x45 :: x46 :: x47 :: x48 :: x49 :: x50 :: x51 :: x52 :: x53 :: x54 :: x55 :: x56 :: x57 :: []), S) := by
 subst h7 h0
 rw [zx.r4]
 simp only [zSs, reduceIte, Nat.reduceEqDiff, Int.reduceEq, Int.reduceLT, Int.reduceLE, if_neg hk, vZ hv, goInt]
 rcases Bool.eq_false_or_eq_true (decide (i < (l.length : Int))) with d1 | d1 <;> rcases Bool.eq_false_or_eq_true (decide (i < 10)) with d2 | d2 <;>
  simp only [d1, d2, zSs, reduceIte, Nat.reduceEqDiff, Int.reduceEq, Int.reduceLT, Int.reduceLE] <;> simp only [decide_eq_true_eq, decide_eq_false_iff_not] at d1 d2 <;>
  simp only [d1, d2, and_true, and_false, true_and, false_and, decide_true, decide_false] <;> exact ⟨_, _, _, _, _, _, _, rfl⟩
theorem zx.nine {T : List Value} {S : zk} {i c : Int} (hT : T.length = 58) (h7 : T.getD 7 undef = .int .i64 i) (h8 : T.getD 8 undef = .int .u64 c) : ∃ T', jC Try.prog ⟨false, false, false⟩ (jc Try.prog O) (reg Try.f16 7) (reg Try.f16 7).toList T S = some (T', S) ∧
  T'.length = 58 ∧ T'.getD 31 undef = .bool (decide (i = 9 ∧ 1 < c)) ∧ ∀ j, j < 10 → T'.getD j undef = T.getD j undef := by
 obtain ⟨x0, x1, x2, x3, x4, x5, x6, x7, x8, x9, x10, x11, x12, x13, x14, x15, x16, x17, x18, x19, x20, x21, x22, x23, x24, x25, x26, x27, x28, x29, x30, x31, x32, x33, x34, x35, x36, x37, x38, x39, x40, x41, x42, x43, x44, x45, x46, x47, x48, x49, x50, x51, x52, x53, x54, x55, x56, x57, rfl⟩ := zx.list hT
 simp only [List.getD_cons_succ, List.getD_cons_zero] at h7 h8
 subst h7 h8
 rw [zx.r7]
 simp only [zSs, reduceIte, Nat.reduceEqDiff, Int.reduceEq, Int.reduceLT, Int.reduceLE]
 rcases Bool.eq_false_or_eq_true (decide (i = 9)) with d1 | d1 <;> rcases Bool.eq_false_or_eq_true (decide (1 < c)) with d2 | d2 <;>
  simp only [d1, d2, zSs, reduceIte, Nat.reduceEqDiff, Int.reduceEq, Int.reduceLT, Int.reduceLE] <;> simp only [decide_eq_true_eq, decide_eq_false_iff_not] at d1 d2 <;>
  simp only [d1, d2, and_true, and_false, true_and, false_and, decide_true, decide_false] <;> exact ⟨_, rfl, rfl, rfl, fun j hj => by (match j, hj with | 0, _ => rfl | 1, _ => rfl | 2, _ => rfl | 3, _ => rfl | 4, _ => rfl | 5, _ => rfl | 6, _ => rfl | 7, _ => rfl | 8, _ => rfl | 9, _ => rfl)⟩
theorem acO (k : Nat) : ∀ n, 128 ^ k ≤ n → n < 128 ^ (k + 1) → (enc n).length = k + 1 := by
 induction k with
 | zero => intro n _ h; rw [xU (by omega)]; rfl
 | succ k ih =>
  intro n h1 h2
  have hn : ¬ n < 128 := by
   have : 128 ^ 1 ≤ 128 ^ (k + 1) := Nat.pow_le_pow_right (by omega) (by omega)
   omega
  rw [WC hn, List.length_cons, ih (n / 128) (by rw [Nat.le_div_iff_mul_le (by omega)]; exact h1) (by rw [Nat.div_lt_iff_lt_mul (by omega)]; exact h2)]
theorem aeV (n : Nat) : 0 < (enc n).length := by
 by_cases h : n < 128
 ·
  rw [xU h]; simp
 ·
  rw [WC h]; simp
section
variable {k : Nat} {l : List UInt8} {S : zk}
theorem zx.out (hv : Okl k l) (hk : k ≠ 2) {i : Nat} {T : List Value} {r : St} (hL : qm (zF Try.prog O false zx.jI) T S = r) (hT : T.length = 58)
  (h0 : T.getD 0 undef = by_ k l) (h7 : T.getD 7 undef = .int .i64 i) (hi : l.length ≤ i ∨ 10 ≤ i) : ∃ T', r = some (.exit 0, T', S) ∧ T'.length = 58 := by
 obtain ⟨x0, x1, x2, x3, x4, x5, x6, x7, x8, x9, x10, x11, x12, x13, x14, x15, x16, x17, x18, x19, x20, x21, x22, x23, x24, x25, x26, x27, x28, x29, x30, x31, x32, x33, x34, x35, x36, x37, x38, x39, x40, x41, x42, x43, x44, x45, x46, x47, x48, x49, x50, x51, x52, x53, x54, x55, x56, x57, hTe⟩ := zx.list hT
 rw [hTe] at h0 h7
 simp only [List.getD_cons_succ, List.getD_cons_zero] at h0 h7
 have hr : zF Try.prog O false zx.jI T S = zF Try.prog O false zx.jI T S := rfl
 obtain ⟨y10, y11, y12, y13, y14, y15, y16, e1⟩ := zx.goes x0 x1 x2 x3 x4 x5 x6 x7 x8 x9 x10 x11 x12 x13 x14 x15 x16 x17 x18 x19 x20 x21 x22 x23 x24 x25 x26 x27 x28 x29 x30 x31 x32 x33 x34 x35 x36 x37 x38 x39 x40 x41 x42 x43 x44 x45 x46 x47 x48 x49 x50 x51 x52 x53 x54 x55 x56 x57 (i : Int) (S := S) hv hk h0 h7
 have hd : decide ((i : Int) < (l.length : Int) ∧ (i : Int) < 10) = false := by simp; omega
 rw [hd] at e1
 conv at hr =>
  rhs
  rw [hTe]
  simp only [zx.jI, zSs, reduceIte, Nat.reduceEqDiff, Int.reduceEq, Int.reduceLT, Int.reduceLE, e1]
 exact ⟨_, hL.symm.trans (wo hr (by simp)), rfl⟩
theorem zx.round (hv : Okl k l) (hk : k ≠ 2) (hlen : l.length ≤ 140737488355328) : ∀ (suf pre : List UInt8) (acc : Nat) {T : List Value} {r : St}, qm (zF Try.prog O false zx.jI) T S = r → T.length = 58 →
  T.getD 0 undef = by_ k l → T.getD 7 undef = .int .i64 pre.length → T.getD 5 undef = .int .u64 acc → T.getD 6 undef = .int .u64 (128 ^ pre.length : Nat) → l = pre ++ suf → acc < 128 ^ pre.length → pre.length ≤ 9 →
  ∃ e T', r = some (e, T', S) ∧ match scan pre.length acc suf with
   | none => (e = .exit 0 ∧ T'.length = 58) ∨ (e = .ret ∧ T'.getD 2 undef = .int .u64 0 ∧ T'.getD 3 undef = .slice none 0 0 ∧ T'.getD 4 undef = .int .i64 11)
   | some (m, rest) => e = .ret ∧ T'.getD 2 undef = .int .u64 m ∧ T'.getD 3 undef = by_ 2 rest ∧ T'.getD 4 undef = .int .i64 0 := by
 intro suf
 induction suf with
 | nil =>
  intro pre acc T r hL hT h0 h7 h5 h6 hl hacc hpre
  obtain ⟨T', h1, h2⟩ := zx.out hv hk hL hT h0 h7 (by rw [hl]; simp)
  exact ⟨_, T', h1, .inl ⟨rfl, h2⟩⟩
 | cons x suf ih =>
  intro pre acc T r hL hT h0 h7 h5 h6 hl hacc hpre
  obtain ⟨x0, x1, x2, x3, x4, x5, x6, x7, x8, x9, x10, x11, x12, x13, x14, x15, x16, x17, x18, x19, x20, x21, x22, x23, x24, x25, x26, x27, x28, x29, x30, x31, x32, x33, x34, x35, x36, x37, x38, x39, x40, x41, x42, x43, x44, x45, x46, x47, x48, x49, x50, x51, x52, x53, x54, x55, x56, x57, hTe⟩ := zx.list hT
  rw [hTe] at h0 h7 h5 h6
  simp only [List.getD_cons_succ, List.getD_cons_zero] at h0 h7 h5 h6
  have hr : zF Try.prog O false zx.jI T S = zF Try.prog O false zx.jI T S := rfl
  have hlt : (pre.length : Int) < (l.length : Int) := by rw [hl]; simp; omega
  have k0 : k ≠ 0 := fun h => by have := hv.nil h; rw [this] at hl; simp at hl
  have e1 : ∀ S, jo Try.prog 23 (by_ k l) (.int .i64 pre.length) S = some (EP [.int .u8 x.toNat], S) := fun S => by
   rw [afP hv (by omega) hlt]; rw [V9 hl]
  have hx256 := x.toNat_lt
  obtain ⟨y10, y11, y12, y13, y14, y15, y16, e3⟩ := zx.goes x0 x1 x2 x3 x4 x5 x6 x7 x8 x9 x10 x11 x12 x13 x14 x15 x16 x17 x18 x19 x20 x21 x22 x23 x24 x25 x26 x27 x28 x29 x30 x31 x32 x33 x34 x35 x36 x37 x38 x39 x40 x41 x42 x43 x44 x45 x46 x47 x48 x49 x50 x51 x52 x53 x54 x55 x56 x57 (pre.length : Int) (S := S) hv hk h0 h7
  have hd : decide ((pre.length : Int) < (l.length : Int) ∧ (pre.length : Int) < 10) = true := by rw [decide_eq_true_eq]; omega
  rw [hd, h7, h5, h6, h0] at e3
  have hlow : (x.toNat : Int).tmod 128 = ((x.toNat % 128 : Nat) : Int) := adW _
  conv at hr =>
   rhs
   rw [hTe]
   simp only [zx.jI, zSs, reduceIte, Nat.reduceEqDiff, Int.reduceEq, Int.reduceLT, Int.reduceLE, h7, h5, h6, h0, e3, zx.r6, if_neg hk, e1, Qs, JJ _ _ _ (show (128 : Int) ≠ 0 by omega), hlow, xY, Zb (show x.toNat % 128 < 2 ^ 64 by omega)]
  generalize hT2 : (_ :: _ : List Value) = T2 at hr
  have t0 : T2.length = 58 := by rw [← hT2]; rfl
  have t1 : T2.getD 0 undef = by_ k l := by rw [← hT2]; rfl
  have t2 : T2.getD 5 undef = .int .u64 acc := by rw [← hT2]; rfl
  have t3 : T2.getD 6 undef = .int .u64 (128 ^ pre.length : Nat) := by rw [← hT2]; rfl
  have t4 : T2.getD 7 undef = .int .i64 pre.length := by rw [← hT2]; rfl
  have t5 : T2.getD 8 undef = .int .u64 (x.toNat % 128 : Nat) := by rw [← hT2]; rfl
  obtain ⟨T3, e4, f0, f1, f2⟩ := zx.nine (S := S) t0 t4 t5
  rw [← f2 _ (by omega)] at t1 t2 t3 t4 t5
  conv at hr =>
   rhs
   simp only [e4, zSs, reduceIte, Nat.reduceEqDiff, Int.reduceEq, Int.reduceLT, Int.reduceLE, f1]
  clear hT2 e4 f1 f2 e3 hTe h7 h5 h6 h0
  obtain ⟨z0, z1, z2, z3, z4, z5, z6, z7, z8, z9, z10, z11, z12, z13, z14, z15, z16, z17, z18, z19, z20, z21, z22, z23, z24, z25, z26, z27, z28, z29, z30, z31, z32, z33, z34, z35, z36, z37, z38, z39, z40, z41, z42, z43, z44, z45, z46, z47, z48, z49, z50, z51, z52, z53, z54, z55, z56, z57, hTe⟩ := zx.list f0
  rw [hTe] at t1 t2 t3 t4 t5
  simp only [List.getD_cons_succ, List.getD_cons_zero] at t1 t2 t3 t4 t5
  subst t1
  by_cases hs1 : pre.length = 9 ∧ 1 < x.toNat % 128
  ·
   have hd1 : decide ((pre.length : Int) = 9 ∧ 1 < ((x.toNat % 128 : Nat) : Int)) = true := by rw [decide_eq_true_eq]; omega
   conv at hr =>
    rhs
    rw [hTe]
    simp only [hd1, zSs, reduceIte, Nat.reduceEqDiff, Int.reduceEq, Int.reduceLT, Int.reduceLE, zx.r8]
   refine ⟨_, _, hL.symm.trans (wo hr (by simp)), ?_⟩
   rw [scan, if_pos (.inl ⟨hs1.1, by omega⟩)]
   exact .inr ⟨rfl, rfl, rfl, rfl⟩
  ·
   have hd1 : decide ((pre.length : Int) = 9 ∧ 1 < ((x.toNat % 128 : Nat) : Int)) = false := by rw [decide_eq_false_iff_not]; omega
   have hpw : 128 ^ pre.length ≤ 128 ^ 9 := Nat.pow_le_pow_right (by omega) hpre
   have hc64 : x.toNat % 128 * 128 ^ pre.length < 2 ^ 64 := by
    by_cases h9 : pre.length = 9
    ·
     rw [h9]; have : x.toNat % 128 ≤ 1 := by omega
     exact Nat.lt_of_le_of_lt (Nat.mul_le_mul_right _ this) (by decide)
    ·
     have h8 : 128 ^ pre.length ≤ 128 ^ 8 := Nat.pow_le_pow_right (by omega) (by omega)
     exact Nat.lt_of_le_of_lt (Nat.mul_le_mul (by omega : x.toNat % 128 ≤ 127) h8) (by decide)
   have ha64 : acc + x.toNat % 128 * 128 ^ pre.length < 2 ^ 64 := by
    by_cases h9 : pre.length = 9
    ·
     rw [h9] at hacc ⊢
     have : x.toNat % 128 ≤ 1 := by omega
     have h1 : x.toNat % 128 * 128 ^ 9 ≤ 1 * 128 ^ 9 := Nat.mul_le_mul_right _ this
     have h2 : (128 : Nat) ^ 9 + 1 * 128 ^ 9 = 2 ^ 64 := by decide
     omega
    ·
     have h8 : 128 ^ (pre.length + 1) ≤ 128 ^ 9 := Nat.pow_le_pow_right (by omega) (by omega)
     have h3 : acc + x.toNat % 128 * 128 ^ pre.length < 128 ^ (pre.length + 1) := by
      rw [Nat.pow_succ]
      have : x.toNat % 128 * 128 ^ pre.length ≤ 127 * 128 ^ pre.length := Nat.mul_le_mul_right _ (by omega)
      omega
     exact Nat.lt_of_lt_of_le h3 (Nat.le_trans h8 (by decide))
   have w1 : IntKind.u64.wrap (((x.toNat % 128 : Nat) : Int) * ((128 ^ pre.length : Nat) : Int)) = ((x.toNat % 128 * 128 ^ pre.length : Nat) : Int) := by
    rw [← Int.natCast_mul, Zb hc64]
   have w2 : IntKind.u64.wrap ((acc : Int) + ((x.toNat % 128 * 128 ^ pre.length : Nat) : Int)) = ((acc + x.toNat % 128 * 128 ^ pre.length : Nat) : Int) := by
    rw [← Int.natCast_add, Zb ha64]
   conv at hr =>
    rhs
    rw [hTe]
    simp only [hd1, zSs, reduceIte, Nat.reduceEqDiff, Int.reduceEq, Int.reduceLT, Int.reduceLE, zx.r9, zx.r10, zx.r11, t2, t3, t4, t5, w1, w2, if_neg hk, e1, Qs]
   have hi1 : IntKind.i64.wrap ((pre.length : Int) + 1) = (pre.length : Int) + 1 := wrap_i64 (by omega) (by omega)
   by_cases hxs : x.toNat < 128
   ·
    have hxm : x.toNat % 128 = x.toNat := by omega
    rw [hxm] at hr ha64
    have hd2 : decide ((x.toNat : Int) < 128) = true := by rw [decide_eq_true_eq]; omega
    conv at hr =>
     rhs
     simp only [hd2, zSs, reduceIte, Nat.reduceEqDiff, Int.reduceEq, Int.reduceLT, Int.reduceLE, zx.r12, jg.v _ ha64, zx.r13, vZ (Okl.read), goInt, hi1]
    by_cases hz : 0 < pre.length ∧ x.toNat = 0
    ·
     have hlen2 : (enc (acc + x.toNat * 128 ^ pre.length)).length ≤ pre.length := by
      obtain ⟨q, hq⟩ : ∃ q, pre.length = q + 1 := ⟨pre.length - 1, by omega⟩
      rw [hz.2, Nat.zero_mul, Nat.add_zero, hq]
      exact aew q acc (by rw [← hq]; exact hacc)
     have hd3 : decide ((((enc (acc + x.toNat * 128 ^ pre.length)).length : Nat) : Int) = (pre.length : Int) + 1) = false := by rw [decide_eq_false_iff_not]; omega
     conv at hr =>
      rhs
      simp only [hd3, zSs, reduceIte, Nat.reduceEqDiff, Int.reduceEq, Int.reduceLT, Int.reduceLE, zx.r14]
     refine ⟨_, _, hL.symm.trans (wo hr (by simp)), ?_⟩
     rw [scan, if_pos (.inr hz)]
     exact .inr ⟨rfl, rfl, rfl, rfl⟩
    ·
     have hlen2 : (enc (acc + x.toNat * 128 ^ pre.length)).length = pre.length + 1 := by
      by_cases hp0 : pre.length = 0
      ·
       rw [hp0] at hacc ⊢
       rw [xU (by omega)]; rfl
      ·
       refine acO _ _ ?_ ?_
       ·
        have : 1 * 128 ^ pre.length ≤ x.toNat * 128 ^ pre.length := Nat.mul_le_mul_right _ (by omega)
        omega
       ·
        rw [Nat.pow_succ]
        have : x.toNat * 128 ^ pre.length ≤ 127 * 128 ^ pre.length := Nat.mul_le_mul_right _ (by omega)
        omega
     have hd3 : decide ((((enc (acc + x.toNat * 128 ^ pre.length)).length : Nat) : Int) = (pre.length : Int) + 1) = true := by rw [decide_eq_true_eq]; omega
     have e4 : ∀ S, Zo Try.prog 23 (by_ k l) (some (.int .i64 ((pre.length : Int) + 1))) none S = some (by_ k suf, S) := fun S => by
      rw [abK hv (lo := some (.int .i64 ((pre.length : Int) + 1))) (hi := none) (i := (pre.length : Int) + 1) (j := l.length) rfl rfl (by omega) (by omega) (by omega), ab7 hl, if_neg hk]
     have ok2 : Okl k suf := ⟨hv.le, fun h => absurd h k0⟩
     have e5 : ∀ S, wY Try.prog 23 23 (by_ 2 []) (by_ k suf) S = some (by_ 2 suf, S) := fun S => by
      rw [kW Okl.own (by decide) ok2 (by have := congrArg List.length hl; simp at this; simp; omega)]; rfl
     conv at hr =>
      rhs
      simp only [hd3, zSs, reduceIte, Nat.reduceEqDiff, Int.reduceEq, Int.reduceLT, Int.reduceLE, zx.r15, xM, adq, hi1, if_neg hk, e4, e5]
     refine ⟨_, _, hL.symm.trans (wo hr (by simp)), ?_⟩
     rw [scan, if_neg (by rintro (h | h); exact absurd ⟨h.1, by omega⟩ hs1; exact hz h), if_pos hxs]
     exact ⟨rfl, rfl, rfl, rfl⟩
   ·
    have hd2 : decide ((x.toNat : Int) < 128) = false := by rw [decide_eq_false_iff_not]; omega
    conv at hr =>
     rhs
     simp only [hd2, zSs, reduceIte, Nat.reduceEqDiff, Int.reduceEq, Int.reduceLT, Int.reduceLE, zx.r5, hi1]
    obtain ⟨T1, hr, q0, q1, q2, q3, q4⟩ : ∃ T1, zF Try.prog O false zx.jI T S = some (.normal, T1, S) ∧ T1.length = 58 ∧ T1.getD 0 undef = by_ k l ∧ T1.getD 7 undef = .int .i64 ((pre.length : Int) + 1) ∧
     T1.getD 5 undef = .int .u64 ((acc + x.toNat % 128 * 128 ^ pre.length : Nat) : Int) ∧ T1.getD 6 undef = .int .u64 (IntKind.u64.wrap (((128 ^ pre.length : Nat) : Int) * 128)) := ⟨_, hr, rfl, rfl, rfl, rfl, rfl⟩
    by_cases hp9 : pre.length = 9
    ·
     obtain ⟨T', h1, h2⟩ := zx.out hv hk ((yg hr).symm.trans hL) q0 q1 (i := pre.length + 1) q2 (.inr (by omega))
     refine ⟨_, T', h1, ?_⟩
     rw [scan, if_pos (.inl ⟨hp9, by omega⟩)]
     exact .inl ⟨rfl, h2⟩
    ·
     have hpl : IntKind.u64.wrap (((128 ^ pre.length : Nat) : Int) * 128) = ((128 ^ (pre.length + 1) : Nat) : Int) := by
      have h8 : 128 ^ (pre.length + 1) ≤ 128 ^ 9 := Nat.pow_le_pow_right (by omega) (by omega)
      rw [show ((128 ^ pre.length : Nat) : Int) * 128 = ((128 ^ (pre.length + 1) : Nat) : Int) by rw [Nat.pow_succ, Int.natCast_mul]; rfl]
      exact Zb (Nat.lt_of_le_of_lt h8 (by decide))
     rw [hpl] at q4
     have hadd : acc + x.toNat % 128 * 128 ^ pre.length < 128 ^ (pre.length + 1) := by
      rw [Nat.pow_succ]
      have : x.toNat % 128 * 128 ^ pre.length ≤ 127 * 128 ^ pre.length := Nat.mul_le_mul_right _ (by omega)
      omega
     have hpl2 : (pre ++ [x]).length = pre.length + 1 := by simp
     obtain ⟨e, T', g1, g3⟩ := ih (pre ++ [x]) (acc + x.toNat % 128 * 128 ^ pre.length) ((yg hr).symm.trans hL) q0 q1 (by rw [hpl2]; exact q2) q3 (by rw [hpl2]; exact q4) (by simp [hl]) (by rw [hpl2]; exact hadd) (by rw [hpl2]; omega)
     refine ⟨e, T', g1, ?_⟩
     rw [scan, if_neg (by omega), if_neg hxs]
     have hxm : x.toNat % 128 = x.toNat - 128 := by omega
     rw [hxm, hpl2] at g3
     exact g3
theorem zx.v (hv : Okl k l) (hk : k ≠ 2) (hlen : l.length ≤ 140737488355328) (S : zk) : jc Try.prog O zx.id [by_ k l] S = some (QY l, S) := by
 obtain ⟨T, hTe⟩ : ∃ T, T = (by_ k l :: undef :: undef :: undef :: undef :: undef :: undef :: undef :: undef :: undef :: undef :: undef :: undef :: undef :: undef :: undef :: undef :: undef :: undef :: undef :: undef :: undef :: undef :: undef :: undef :: undef :: undef :: undef :: undef :: undef :: undef :: undef :: undef :: undef :: undef :: undef :: undef :: undef :: undef :: undef :: undef :: undef :: undef :: undef :: undef :: undef :: undef :: undef :: undef :: undef :: undef :: undef :: undef :: undef :: undef :: undef :: undef :: undef :: []) := ⟨_, rfl⟩
 have hr : zF Try.prog O false zx.code T S = zF Try.prog O false zx.code T S := rfl
 conv at hr =>
  rhs
  rw [hTe]
  simp only [zx.code, zSs, reduceIte, Nat.reduceEqDiff, Int.reduceEq, Int.reduceLT, Int.reduceLE, zx.r0, zx.r1, zx.r2, zx.r3]
 generalize hL : qm (zF Try.prog O false zx.jI) _ _ = r at hr
 obtain ⟨e, T', rfl, g3⟩ := zx.round hv hk hlen l [] 0 hL rfl rfl rfl rfl rfl rfl (by simp) (by simp)
 simp only [List.length_nil] at g3
 unfold QY
 cases hsc : scan 0 0 l with
 | none =>
  rw [hsc] at g3
  rcases g3 with ⟨rfl, hT'⟩ | ⟨rfl, h2, h3, h4⟩
  ·
   obtain ⟨x0, x1, x2, x3, x4, x5, x6, x7, x8, x9, x10, x11, x12, x13, x14, x15, x16, x17, x18, x19, x20, x21, x22, x23, x24, x25, x26, x27, x28, x29, x30, x31, x32, x33, x34, x35, x36, x37, x38, x39, x40, x41, x42, x43, x44, x45, x46, x47, x48, x49, x50, x51, x52, x53, x54, x55, x56, x57, hTe'⟩ := zx.list hT'
   conv at hr =>
    rhs
    rw [hTe']
    simp only [zSs, reduceIte, Nat.reduceEqDiff, Int.reduceEq, Int.reduceLT, Int.reduceLE, zx.r16]
   rw [hTe] at hr
   exact zx.runs hr (.inr rfl) rfl rfl rfl
  ·
   conv at hr =>
    rhs
    simp only [zSs, reduceIte, Nat.reduceEqDiff, Int.reduceEq, Int.reduceLT, Int.reduceLE]
   rw [hTe] at hr
   have hrun := zx.runs hr (.inr rfl) (by rw [h2]; rfl) (by rw [h3]; rfl) (by rw [h4]; rfl)
   rw [h2, h3, h4] at hrun
   exact hrun
 | some mr =>
  obtain ⟨m, rest⟩ := mr
  rw [hsc] at g3
  obtain ⟨rfl, h2, h3, h4⟩ := g3
  conv at hr =>
   rhs
   simp only [zSs, reduceIte, Nat.reduceEqDiff, Int.reduceEq, Int.reduceLT, Int.reduceLE]
  rw [hTe] at hr
  have hrun := zx.runs hr (.inr rfl) (by rw [h2]; rfl) (by rw [h3]; exact jX) (by rw [h4]; rfl)
  rw [h2, h3, h4] at hrun
  exact hrun
end
end Go.Proofs.Ytbgcphbbchndkaa
namespace Go.Proofs.Ytbgcphbbchndkaa
open Go.Abs
theorem QG {n : Nat} (h : n < 256) : (UInt8.ofNat n).toNat = n := by rw [UInt8.toNat_ofNat']; omega
theorem aaO : ∀ (n i acc : Nat) (r : List UInt8), i ≤ 9 → (0 < i → 0 < n) → n * 128 ^ i < 2 ^ 64 → scan i acc (enc n ++ r) = some (acc + n * 128 ^ i, r) := by
 intro n
 induction n using Nat.strongRecOn with
 | _ n ih =>
  intro i acc r hi hn hlt
  have h9 : i = 9 → n ≤ 1 := by
   intro h; subst h
   have : (128 : Nat) ^ 9 = 2 ^ 63 := by decide
   omega
  by_cases hs : n < 128
  ·
   rw [xU hs, List.singleton_append, scan, QG (by omega), if_neg (by rintro (⟨h1, h2⟩ | ⟨h1, h2⟩); exact absurd (h9 h1) (by omega); exact absurd (hn h1) (by omega)), if_pos hs]
  ·
   rw [WC hs, List.cons_append, scan, QG (by omega)]
   have hi9 : i ≠ 9 := fun h => by have := h9 h; omega
   rw [if_neg (by rintro (⟨h1, h2⟩ | ⟨h1, h2⟩); exact hi9 h1; omega), if_neg (by omega)]
   have hmul : n / 128 * 128 ^ (i + 1) ≤ n * 128 ^ i := by
    rw [Nat.pow_succ, ← Nat.mul_assoc, Nat.mul_right_comm]
    exact Nat.mul_le_mul_right _ (by omega)
   rw [ih (n / 128) (by omega) (i + 1) _ r (by omega) (fun _ => by omega) (Nat.lt_of_le_of_lt hmul hlt)]
   congr 2
   have : n = n % 128 + n / 128 * 128 := by omega
   have e1 : (n % 128 + 128 - 128) * 128 ^ i + n / 128 * 128 ^ (i + 1) = n * 128 ^ i := by
    rw [Nat.pow_succ]
    conv => rhs; rw [this, Nat.add_mul]
    rw [Nat.add_sub_cancel, Nat.mul_comm (128 ^ i) 128, ← Nat.mul_assoc]
   omega
theorem WT {n : Nat} (h : n < 2 ^ 64) (r : List UInt8) : scan 0 0 (enc n ++ r) = some (n, r) := by
 rw [aaO n 0 0 r (by omega) (by omega) (by simpa using h)]; simp
theorem Vu : ∀ (l : List UInt8) (i acc m : Nat) (r : List UInt8), scan i acc l = some (m, r) → ∃ n, l = enc n ++ r ∧ m = acc + n * 128 ^ i ∧ (0 < i → 0 < n) := by
 intro l
 induction l with
 | nil => intro i acc m r h; cases h
 | cons x l ih =>
  intro i acc m r h
  rw [scan] at h
  have hx := x.toNat_lt
  split at h
  ·
   cases h
  ·
   rename_i hs
   split at h
   ·
    rename_i hx2
    cases h
    refine ⟨x.toNat, ?_, rfl, fun hi => by omega⟩
    rw [xU hx2]; simp
   ·
    rename_i hx2
    obtain ⟨n, h1, h2, h3⟩ := ih _ _ _ _ h
    refine ⟨x.toNat - 128 + n * 128, ?_, ?_, fun _ => ?_⟩
    ·
     have hn := h3 (by omega)
     rw [WC (by omega), show (x.toNat - 128 + n * 128) / 128 = n by omega, show (x.toNat - 128 + n * 128) % 128 + 128 = x.toNat by omega, h1]
     simp
    ·
     rw [h2, Nat.pow_succ, Nat.add_mul]
     rw [Nat.mul_comm (128 ^ i) 128, ← Nat.mul_assoc]; omega
    ·
     have := h3 (by omega); omega
theorem Vw {l r : List UInt8} {m : Nat} (h : scan 0 0 l = some (m, r)) : l = enc m ++ r ∧ m < 2 ^ 64 := by
 obtain ⟨n, h1, h2, _⟩ := Vu l 0 0 m r h
 have : m = n := by simpa using h2
 subst this
 exact ⟨h1, (Qx l 0 0 (by decide) (by omega) m r h).1⟩
theorem aie {a b : Nat} (ha : a < 2 ^ 64) (hb : b < 2 ^ 64) {r s : List UInt8} (h : enc a ++ r = enc b ++ s) : a = b ∧ r = s := by
 have h1 := WT ha r
 rw [h, WT hb s] at h1
 simp only [Option.some.injEq, Prod.mk.injEq] at h1
 exact ⟨h1.1.symm, h1.2.symm⟩
end Go.Proofs.Ytbgcphbbchndkaa
namespace Go.Proofs.Ytbgcphbbchndkaa
open Go.Abs
theorem bz0 (S : zk) : jR Try.prog 57 0 [] S = some (iz 2 [], S) := by rw [ac7]; rfl
theorem agD (x : Int) : sv 2 1 1 [.int .i64 x] = iz 2 [x] := rfl
theorem aeW {k : Nat} {l : List Int} {x : Int} {S : zk} (h : Okl k l) (hk : k ≠ 1) (hl : l.length ≤ 17592186044000) : wY Try.prog 57 57 (iz k l) (iz 2 [x]) S = some (iz 2 (l ++ [x]), S) := by
 rw [aal h hk Okl.own (by simp; omega), if_neg (fun h => by have := h.2; simp at this)]
end Go.Proofs.Ytbgcphbbchndkaa
namespace Go.Abs
open Go.RowKit
theorem acy {cs xs : List Value} (h : cs.length = xs.length) : splice cs 0 xs = xs := by
 unfold splice
 rw [List.take_zero, List.nil_append, Nat.zero_add, ← h, List.drop_length, List.append_nil]
theorem aiW {k e n : Nat} {cs : List Value} : (sv k e n cs).oneCell' = true := by unfold sv; split <;> rfl
theorem ahu {α : Type} {f : α → List Value} {e k : Nat} {l : List α} : (vs f e k l).oneCell' = true := aiW
theorem adx {k : IntKind} {n : Int} : (Value.int k n).oneCell' = true := rfl
theorem Qd {P : Program} {t : TypeId} {z xs : List Value} {x : Value} (S : zk) (hx : x.cells.toList = xs) (hs : Zx P t = some z.length) (hl : xs.length = z.length) (h1 : xs.all (·.oneCell') = true) :
  ∃ S2, wH P t (.pointer (some ⟨S.next, 0, none⟩)) x (S.push (.cells z (.own []) 0)) = some (undef, S2) ∧ S2.get S.next = some (.cells xs (.own []) 0) ∧ Ext S S2 ∧ S.next < S2.next := by
 have hg : (S.push (.cells z (.own []) 0)).get S.next = some (.cells z (.own []) 0) := by rw [zk.yD, if_pos rfl]
 refine ⟨_, xZ hg hs (by rw [← Array.length_toList, hx, hl]) (by rw [hx]; exact h1) (by simp), ?_, (Ext.push S _).set (Nat.le_refl _) _, by simp [zk.kills]⟩
 rw [zk.yU, if_pos rfl, hx, acy hl.symm]
theorem Vo {P : Program} {t : TypeId} {q o n : Nat} {cs : List Value} {e : Nat} {x : Value} {S S0 : zk} (hg : S.get q = some (.cells cs (.own []) e)) (hs : Zx P t = some n) (hn : x.cells.size = n) (h1 : x.cells.toList.all (·.oneCell') = true) (hle : o + n ≤ cs.length) (hE : Ext S0 S) (hq : S0.next ≤ q) :
  ∃ S2, wH P t (.pointer (some ⟨q, o, none⟩)) x S = some (undef, S2) ∧ S2.get q = some (.cells (splice cs o x.cells.toList) (.own []) e) ∧ Ext S0 S2 ∧ S2.next = S.next ∧ ∀ k, k ≠ q → S2.get k = S.get k := by
 exact ⟨_, xZ hg hs hn h1 hle, by rw [zk.yU, if_pos rfl], hE.set hq _, by simp [zk.kills], fun k hk => by rw [zk.yU, if_neg hk]; rfl⟩
end Go.Abs
namespace Go.Proofs.Ytbgcphbbchndkaa
open Go.Abs
theorem bb0 (S : zk) : jR Try.prog 23 0 [] S = some (by_ 2 [], S) := by rw [xM]; rfl
structure Tb where
 k : Nat
 b : List UInt8
structure Tb.Ok (t : Tb) : Prop where
 okl : Okl t.k t.b
 ne : t.k ≠ 2
 le : t.b.length ≤ 140737488351232
end Go.Proofs.Ytbgcphbbchndkaa
namespace Go.Proofs.Ytbgcphbbchndkaa
open Go.Abs
def encs (l : List Int) : List UInt8 := l.flatMap fun n => enc (n + 1).toNat
def acF (k : Nat) (l : List Int) : Value := if 64 < l.length ∨ ∃ n ∈ l, n < -1 then .tuple #[.slice none 0 0, .int .i64 11] else .tuple #[by_ (if l = [] then k else 2) (encs l), .int .i64 0]
theorem Kz {n : Int} (h : -1 ≤ n) (h2 : n < 9223372036854775808) : IntKind.u64.wrap (IntKind.u64.wrap n + 1) = ((n + 1).toNat : Int) := by
 simp [IntKind.wrap, IntKind.bits, IntKind.signed]
 omega
theorem vO (a b : List Int) : encs (a ++ b) = encs a ++ encs b := by simp [encs]
theorem abz (n : Int) : encs [n] = enc (n + 1).toNat := by simp [encs]
theorem ZI {l : List Int} (h : ∀ n ∈ l, n < 9223372036854775808) : (encs l).length ≤ l.length * 10 := by
 induction l with
 | nil => simp [encs]
 | cons n l ih =>
  have h1 := ih fun m hm => h m (by simp [hm])
  have h2 : (enc (n + 1).toNat).length ≤ 10 := Jo (by have := h n (by simp); omega)
  simp only [encs, List.flatMap_cons, List.length_append, List.length_cons] at *
  omega
theorem jw.round {k : Nat} {l : List Int} (hv : Okl k l) (hk : k ≠ 2) (h64 : l.length ≤ 64) (hb : ∀ n ∈ l, n < 9223372036854775808) {S : zk} : ∀ (suf pre : List Int) {T : List Value} {r : St}, qm (zF Try.prog O false jw.jI) T S = r → T.length = 26 →
  T.getD 10 undef = iz k l → T.getD 11 undef = .int .i64 l.length → T.getD 12 undef = .int .i64 pre.length → T.getD 4 undef = by_ (if pre = [] then 0 else 2) (encs pre) → l = pre ++ suf →
  ∃ e T', r = some (e, T', S) ∧ if (∃ n ∈ suf, n < -1) then e = .ret ∧ T'.getD 2 undef = .slice none 0 0 ∧ T'.getD 3 undef = .int .i64 11 else e = .exit 0 ∧ T'.length = 26 ∧ T'.getD 4 undef = by_ (if l = [] then 0 else 2) (encs l) := by
 intro suf
 induction suf with
 | nil =>
  intro pre T r hL hT ha hb hc h4 hl
  have hTe := jw.eta hT
  rw [ha, hb, hc, h4] at hTe
  have hr : zF Try.prog O false jw.jI T S = zF Try.prog O false jw.jI T S := rfl
  have hd : ¬ (pre.length : Int) < (l.length : Int) := by rw [hl]; simp
  conv at hr =>
   rhs
   rw [hTe]
   simp only [jw.jI, jw.code, jw.rs, zSs, reduceIte, Nat.reduceEqDiff, Int.reduceEq, Int.reduceLT, Int.reduceLE, hd]
  refine ⟨_, _, hL.symm.trans (wo hr (by simp)), ?_⟩
  rw [if_neg (by simp)]
  simp only [List.append_nil] at hl
  subst hl
  exact ⟨rfl, rfl, rfl⟩
 | cons n suf ih =>
  intro pre T r hL hT ha hbb hc h4 hl
  have hTe := jw.eta hT
  rw [ha, hbb, hc, h4] at hTe
  have hr : zF Try.prog O false jw.jI T S = zF Try.prog O false jw.jI T S := rfl
  have hll : l.length = pre.length + (suf.length + 1) := by rw [hl]; simp
  have hlt : (pre.length : Int) < (l.length : Int) := by omega
  have e1 : ∀ S, jo Try.prog 57 (iz k l) (.int .i64 pre.length) S = some (EP [.int .i64 n], S) := fun S => by
   rw [acd hv (by omega) hlt]; rw [V4 hl]
  have hn := hb n (by rw [hl]; simp)
  by_cases h1 : n < -1
  ·
   conv at hr =>
    rhs
    rw [hTe]
    simp only [jw.jI, jw.code, jw.rs, zSs, reduceIte, Nat.reduceEqDiff, Int.reduceEq, Int.reduceLT, Int.reduceLE, hlt, e1, yX, h1]
   refine ⟨_, _, hL.symm.trans (wo hr (by simp)), ?_⟩
   rw [if_pos ⟨n, by simp, h1⟩]
   exact ⟨rfl, rfl, rfl⟩
  ·
   have w1 := Kz (n := n) (by omega) (by omega)
   have hpb : (encs pre).length ≤ pre.length * 10 := ZI fun m hm => hb m (by rw [hl]; simp [hm])
   have hp10 : (enc (n + 1).toNat).length ≤ 10 := Jo (by omega)
   have hpp := aeV (n + 1).toNat
   have g1 := fun S => wR.v (n + 1).toNat (by omega) S
   have e2 : ∀ S, wY Try.prog 23 23 (by_ (if pre = [] then 0 else 2) (encs pre)) (by_ 2 (enc (n + 1).toNat)) S = some (by_ 2 (encs (pre ++ [n])), S) := fun S => by
    have ok : Okl (if pre = [] then 0 else 2) (encs pre) := ⟨by split <;> omega, fun h => by split at h <;> first | (rename_i hp; subst hp; rfl) | omega⟩
    rw [kW ok (by split <;> omega) Okl.own (by omega), if_neg (fun h => by have := h.2; omega), vO, abz]
   have wi : IntKind.i64.wrap ((pre.length : Int) + 1) = ((pre ++ [n]).length : Int) := by rw [wrap_i64 (by omega) (by omega)]; simp
   conv at hr =>
    rhs
    rw [hTe]
    simp only [jw.jI, jw.code, jw.rs, zSs, reduceIte, Nat.reduceEqDiff, Int.reduceEq, Int.reduceLT, Int.reduceLE, hlt, e1, yX, h1, Z4, w1, g1, e2, wi]
   obtain ⟨e, T', g1, g2⟩ := ih (pre ++ [n]) ((yg hr).symm.trans hL) rfl rfl rfl rfl (by rw [if_neg (show ¬ pre ++ [n] = [] by simp)]; rfl) (by simp [hl])
   refine ⟨e, T', g1, ?_⟩
   by_cases h2 : ∃ m ∈ suf, m < -1
   ·
    rw [if_pos h2] at g2
    obtain ⟨m, hm, hm2⟩ := h2
    rw [if_pos ⟨m, by simp [hm], hm2⟩]
    exact g2
   ·
    rw [if_neg h2] at g2
    rw [if_neg (by rintro ⟨m, hm, hm2⟩; rcases List.mem_cons.1 hm with rfl | hm; exact h1 hm2; exact h2 ⟨m, hm, hm2⟩)]
    exact g2
theorem jw.v {k : Nat} {l : List Int} (hv : Okl k l) (hk : k ≠ 2) (hb : ∀ n ∈ l, n < 9223372036854775808) (S : zk) : jc Try.prog O jw.id [iz k l] S = some (acF 0 l, S) := by
 obtain ⟨T, hTe⟩ : ∃ T, T = (iz k l :: undef :: undef :: undef :: undef :: undef :: undef :: undef :: undef :: undef :: undef :: undef :: undef :: undef :: undef :: undef :: undef :: undef :: undef :: undef :: undef :: undef :: undef :: undef :: undef :: undef :: []) := ⟨_, rfl⟩
 have hr : zF Try.prog O false jw.code T S = zF Try.prog O false jw.code T S := rfl
 unfold acF
 by_cases h1 : 64 < l.length
 ·
  have d1 : (64 : Int) < (l.length : Int) := by omega
  conv at hr =>
   rhs
   rw [hTe]
   simp only [jw.code, jw.rs, zSs, reduceIte, Nat.reduceEqDiff, Int.reduceEq, Int.reduceLT, Int.reduceLE, if_neg hk, abS hv, goInt, d1]
  rw [hTe] at hr
  rw [if_pos (.inl h1)]
  exact jw.runs hr (.inr rfl) (by simp only [List.getD_cons_succ, List.getD_cons_zero, jX, jT, jF, jG, jU]) (by simp only [List.getD_cons_succ, List.getD_cons_zero, jX, jT, jF, jG, jU])
 ·
  have d1 : ¬ (64 : Int) < (l.length : Int) := by omega
  conv at hr =>
   rhs
   rw [hTe]
   simp only [jw.code, jw.rs, zSs, reduceIte, Nat.reduceEqDiff, Int.reduceEq, Int.reduceLT, Int.reduceLE, if_neg hk, abS hv, goInt, d1, xM, adq]
  generalize hL : qm (zF Try.prog O false jw.jI) _ _ = r at hr
  obtain ⟨e, T', rfl, g⟩ := jw.round hv hk (by omega) hb l [] hL rfl rfl rfl rfl rfl rfl
  by_cases h2 : ∃ n ∈ l, n < -1
  ·
   rw [if_pos h2] at g
   obtain ⟨rfl, g2, g3⟩ := g
   conv at hr =>
    rhs
    simp only [zSs, reduceIte, Nat.reduceEqDiff, Int.reduceEq, Int.reduceLT, Int.reduceLE]
   rw [hTe] at hr
   rw [if_pos (.inr h2)]
   have hrun := jw.runs hr (.inr rfl) (by rw [g2]; rfl) (by rw [g3]; rfl)
   rw [g2, g3] at hrun
   exact hrun
  ·
   rw [if_neg h2] at g
   obtain ⟨rfl, g2, g3⟩ := g
   have hTe' := jw.eta g2
   rw [g3] at hTe'
   conv at hr =>
    rhs
    rw [hTe']
    simp only [jw.code, jw.rs, zSs, reduceIte, Nat.reduceEqDiff, Int.reduceEq, Int.reduceLT, Int.reduceLE]
   rw [hTe] at hr
   rw [if_neg (by rintro (h | h); exact h1 h; exact h2 h)]
   exact jw.runs hr (.inr rfl) (by simp only [List.getD_cons_succ, List.getD_cons_zero, jX, jT, jF, jG, jU]) (by simp only [List.getD_cons_succ, List.getD_cons_zero, jX, jT, jF, jG, jU])
theorem zB.round {k : Nat} {l : List Int} (hv : Okl k l) (hk : k ≠ 2) (h64 : l.length ≤ 64) (hb : ∀ n ∈ l, n < 9223372036854775808) {S : zk} : ∀ (suf pre : List Int) {T : List Value} {r : St}, qm (zF Try.prog O false zB.jI) T S = r → T.length = 27 →
  T.getD 11 undef = iz k l → T.getD 12 undef = .int .i64 l.length → T.getD 13 undef = .int .i64 pre.length → T.getD 4 undef = by_ (if pre = [] then 2 else 2) (encs pre) → l = pre ++ suf →
  ∃ e T', r = some (e, T', S) ∧ if (∃ n ∈ suf, n < -1) then e = .ret ∧ T'.getD 2 undef = .slice none 0 0 ∧ T'.getD 3 undef = .int .i64 11 else e = .exit 0 ∧ T'.length = 27 ∧ T'.getD 4 undef = by_ (if l = [] then 2 else 2) (encs l) := by
 intro suf
 induction suf with
 | nil =>
  intro pre T r hL hT ha hb hc h4 hl
  have hTe := zB.eta hT
  rw [ha, hb, hc, h4] at hTe
  have hr : zF Try.prog O false zB.jI T S = zF Try.prog O false zB.jI T S := rfl
  have hd : ¬ (pre.length : Int) < (l.length : Int) := by rw [hl]; simp
  conv at hr =>
   rhs
   rw [hTe]
   simp only [zB.jI, zB.code, zB.rs, zSs, reduceIte, Nat.reduceEqDiff, Int.reduceEq, Int.reduceLT, Int.reduceLE, hd]
  refine ⟨_, _, hL.symm.trans (wo hr (by simp)), ?_⟩
  rw [if_neg (by simp)]
  simp only [List.append_nil] at hl
  subst hl
  exact ⟨rfl, rfl, rfl⟩
 | cons n suf ih =>
  intro pre T r hL hT ha hbb hc h4 hl
  have hTe := zB.eta hT
  rw [ha, hbb, hc, h4] at hTe
  have hr : zF Try.prog O false zB.jI T S = zF Try.prog O false zB.jI T S := rfl
  have hll : l.length = pre.length + (suf.length + 1) := by rw [hl]; simp
  have hlt : (pre.length : Int) < (l.length : Int) := by omega
  have e1 : ∀ S, jo Try.prog 57 (iz k l) (.int .i64 pre.length) S = some (EP [.int .i64 n], S) := fun S => by
   rw [acd hv (by omega) hlt]; rw [V4 hl]
  have hn := hb n (by rw [hl]; simp)
  by_cases h1 : n < -1
  ·
   conv at hr =>
    rhs
    rw [hTe]
    simp only [zB.jI, zB.code, zB.rs, zSs, reduceIte, Nat.reduceEqDiff, Int.reduceEq, Int.reduceLT, Int.reduceLE, hlt, e1, yX, h1]
   refine ⟨_, _, hL.symm.trans (wo hr (by simp)), ?_⟩
   rw [if_pos ⟨n, by simp, h1⟩]
   exact ⟨rfl, rfl, rfl⟩
  ·
   have w1 := Kz (n := n) (by omega) (by omega)
   have hpb : (encs pre).length ≤ pre.length * 10 := ZI fun m hm => hb m (by rw [hl]; simp [hm])
   have hp10 : (enc (n + 1).toNat).length ≤ 10 := Jo (by omega)
   have hpp := aeV (n + 1).toNat
   have g1 := fun S => jg.v (n + 1).toNat (by omega) S
   have e2 : ∀ S, wY Try.prog 23 23 (by_ (if pre = [] then 2 else 2) (encs pre)) (by_ 2 (enc (n + 1).toNat)) S = some (by_ 2 (encs (pre ++ [n])), S) := fun S => by
    have ok : Okl (if pre = [] then 2 else 2) (encs pre) := ⟨by split <;> omega, fun h => by split at h <;> first | (rename_i hp; subst hp; rfl) | omega⟩
    rw [kW ok (by split <;> omega) Okl.own (by omega), if_neg (fun h => by have := h.2; omega), vO, abz]
   have wi : IntKind.i64.wrap ((pre.length : Int) + 1) = ((pre ++ [n]).length : Int) := by rw [wrap_i64 (by omega) (by omega)]; simp
   conv at hr =>
    rhs
    rw [hTe]
    simp only [zB.jI, zB.code, zB.rs, zSs, reduceIte, Nat.reduceEqDiff, Int.reduceEq, Int.reduceLT, Int.reduceLE, hlt, e1, yX, h1, Z4, w1, g1, e2, wi]
   obtain ⟨e, T', g1, g2⟩ := ih (pre ++ [n]) ((yg hr).symm.trans hL) rfl rfl rfl rfl (by rw [if_neg (show ¬ pre ++ [n] = [] by simp)]; rfl) (by simp [hl])
   refine ⟨e, T', g1, ?_⟩
   by_cases h2 : ∃ m ∈ suf, m < -1
   ·
    rw [if_pos h2] at g2
    obtain ⟨m, hm, hm2⟩ := h2
    rw [if_pos ⟨m, by simp [hm], hm2⟩]
    exact g2
   ·
    rw [if_neg h2] at g2
    rw [if_neg (by rintro ⟨m, hm, hm2⟩; rcases List.mem_cons.1 hm with rfl | hm; exact h1 hm2; exact h2 ⟨m, hm, hm2⟩)]
    exact g2
theorem zB.v {k : Nat} {l : List Int} (hv : Okl k l) (hk : k ≠ 2) (hb : ∀ n ∈ l, n < 9223372036854775808) (S : zk) : jc Try.prog O zB.id [iz k l] S = some (acF 2 l, S) := by
 obtain ⟨T, hTe⟩ : ∃ T, T = (iz k l :: undef :: undef :: undef :: undef :: undef :: undef :: undef :: undef :: undef :: undef :: undef :: undef :: undef :: undef :: undef :: undef :: undef :: undef :: undef :: undef :: undef :: undef :: undef :: undef :: undef :: undef :: []) := ⟨_, rfl⟩
 have hr : zF Try.prog O false zB.code T S = zF Try.prog O false zB.code T S := rfl
 unfold acF
 by_cases h1 : 64 < l.length
 ·
  have d1 : (64 : Int) < (l.length : Int) := by omega
  conv at hr =>
   rhs
   rw [hTe]
   simp only [zB.code, zB.rs, zSs, reduceIte, Nat.reduceEqDiff, Int.reduceEq, Int.reduceLT, Int.reduceLE, if_neg hk, abS hv, goInt, d1]
  rw [hTe] at hr
  rw [if_pos (.inl h1)]
  exact zB.runs hr (.inr rfl) (by simp only [List.getD_cons_succ, List.getD_cons_zero, jX, jT, jF, jG, jU]) (by simp only [List.getD_cons_succ, List.getD_cons_zero, jX, jT, jF, jG, jU])
 ·
  have d1 : ¬ (64 : Int) < (l.length : Int) := by omega
  conv at hr =>
   rhs
   rw [hTe]
   simp only [zB.code, zB.rs, zSs, reduceIte, Nat.reduceEqDiff, Int.reduceEq, Int.reduceLT, Int.reduceLE, if_neg hk, abS hv, goInt, d1, xM, adq]
  generalize hL : qm (zF Try.prog O false zB.jI) _ _ = r at hr
  obtain ⟨e, T', rfl, g⟩ := zB.round hv hk (by omega) hb l [] hL rfl rfl rfl rfl rfl rfl
  by_cases h2 : ∃ n ∈ l, n < -1
  ·
   rw [if_pos h2] at g
   obtain ⟨rfl, g2, g3⟩ := g
   conv at hr =>
    rhs
    simp only [zSs, reduceIte, Nat.reduceEqDiff, Int.reduceEq, Int.reduceLT, Int.reduceLE]
   rw [hTe] at hr
   rw [if_pos (.inr h2)]
   have hrun := zB.runs hr (.inr rfl) (by rw [g2]; rfl) (by rw [g3]; rfl)
   rw [g2, g3] at hrun
   exact hrun
  ·
   rw [if_neg h2] at g
   obtain ⟨rfl, g2, g3⟩ := g
   have hTe' := zB.eta g2
   rw [g3] at hTe'
   conv at hr =>
    rhs
    rw [hTe']
    simp only [zB.code, zB.rs, zSs, reduceIte, Nat.reduceEqDiff, Int.reduceEq, Int.reduceLT, Int.reduceLE]
   rw [hTe] at hr
   rw [if_neg (by rintro (h | h); exact h1 h; exact h2 h)]
   exact zB.runs hr (.inr rfl) (by simp only [List.getD_cons_succ, List.getD_cons_zero, jX, jT, jF, jG, jU]) (by simp only [List.getD_cons_succ, List.getD_cons_zero, jX, jT, jF, jG, jU])
end Go.Proofs.Ytbgcphbbchndkaa
