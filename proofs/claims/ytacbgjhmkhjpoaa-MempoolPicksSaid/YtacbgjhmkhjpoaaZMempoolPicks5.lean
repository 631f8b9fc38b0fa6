/-
The law MempoolPicks returns true for every input, and leaves it as it was; no condition. Part 5 of 6 of the texts (put together by a program: own names are short, what isn't needed is left out).
-/
import Derived.Test.YtacbgjhmkhjpoaaZMempoolPicks4
import Derived.Test.YtacbgjhmkhjpoaaChecked
import Derived.KernelRfl
set_option linter.unusedVariables false
set_option linter.unusedSimpArgs false
set_option maxRecDepth 100000
open Go renaming undef → zh
open Go.Proofs.Try renaming prog → zi
open Nat renaming reduceEqDiff → zk
open Int renaming reduceEq → zn
open Int renaming reduceLT → zo
open Int renaming reduceLE → zq
namespace Go.Proofs.Ytacbgjhmkhjpoaa
open Go.Abs
noncomputable def zu.jh:Code:=(.seq (.region 7 (reg Try.f8 7) false) (.seq (.cond (.tmp 34) Code.skip (.exit 0)) (.seq (.block 1 (.seq (.region 8 (reg Try.f8 8) false) (.region 9 (reg Try.f8 9) false))) (.region 10 (reg Try.f8 10) false))))
noncomputable def zu.Ye:Code:=(.seq (.region 19 (reg Try.f8 19) false) (.seq (.cond (.tmp 62) Code.skip (.exit 4)) (.seq (.block 5 (.seq (.region 20 (reg Try.f8 20) false) (.seq (.region 21 (reg Try.f8 21) false) (.cond (.tmp 68) (.seq (.region 22 (reg Try.f8 22) false) Code.ret) Code.skip)))) (.region 23 (reg Try.f8 23) false))))
noncomputable def zu.Yt:Code:=(.seq (.region 15 (reg Try.f8 15) false) (.seq (.cond (.tmp 51) Code.skip (.exit 2)) (.seq (.block 3 (.seq (.region 16 (reg Try.f8 16) false) (.seq (.region 17 (reg Try.f8 17) false) (.seq (.region 18 (reg Try.f8 18) false) (.block 4 (.loop zu.Ye)))))) (.region 24 (reg Try.f8 24) false))))
noncomputable def zu.JM:Code:=(.seq (.region 34 (reg Try.f8 34) false) (.seq (.cond (.tmp 100) Code.skip (.exit 8)) (.seq (.block 9 (.seq (.region 35 (reg Try.f8 35) false) (.region 36 (reg Try.f8 36) false))) (.region 37 (reg Try.f8 37) false))))
noncomputable def zu.JO:Code:=(.seq (.region 39 (reg Try.f8 39) false) (.seq (.cond (.tmp 114) Code.skip (.exit 10)) (.seq (.block 11 (.seq (.region 40 (reg Try.f8 40) false) (.seq (.region 41 (reg Try.f8 41) false) (.cond (.tmp 131) (.seq (.region 42 (reg Try.f8 42) false) Code.ret) Code.skip)))) (.region 43 (reg Try.f8 43) false))))
noncomputable def zu.YG:Code:=(.seq (.region 30 (reg Try.f8 30) false) (.seq (.cond (.tmp 94) Code.skip (.exit 6)) (.seq (.block 7 (.seq (.region 31 (reg Try.f8 31) false) (.seq (.region 32 (reg Try.f8 32) false) (.seq (.seq (.region 33 (reg Try.f8 33) false) (.block 8 (.loop zu.JM))) (.seq (.seq (.region 38 (reg Try.f8 38) false) (.block 10 (.loop zu.JO))) (.seq (.region 44 (reg Try.f8 44) false) (.cond (.tmp 140) (.seq (.region 45 (reg Try.f8 45) false) Code.ret) Code.skip))))))) (.region 46 (reg Try.f8 46) false))))
noncomputable def zu.code:Code:=(.seq (.region 0 (reg Try.f8 0) false) (.seq (.seq (.region 1 (reg Try.f8 1) false) (.cond (.tmp 26) (.seq (.region 2 (reg Try.f8 2) false) Code.ret) Code.skip)) (.seq (.seq (.region 3 (reg Try.f8 3) false) (.cond (.tmp 29) (.seq (.region 4 (reg Try.f8 4) false) Code.ret) Code.skip)) (.seq (.region 5 (reg Try.f8 5) false) (.seq (.seq (.region 6 (reg Try.f8 6) false) (.block 0 (.loop zu.jh))) (.seq (.region 11 (reg Try.f8 11) false) (.seq (.region 12 (reg Try.f8 12) false) (.seq (.region 13 (reg Try.f8 13) false) (.seq (.seq (.region 14 (reg Try.f8 14) false) (.block 2 (.loop zu.Yt))) (.seq (.region 25 (reg Try.f8 25) false) (.seq (.region 26 (reg Try.f8 26) false) (.seq (.seq (.region 27 (reg Try.f8 27) false) (.cond (.tmp 90) (.seq (.region 28 (reg Try.f8 28) false) Code.ret) Code.skip)) (.seq (.seq (.region 29 (reg Try.f8 29) false) (.block 6 (.loop zu.YG))) (.seq (.region 47 (reg Try.f8 47) false) Code.ret))))))))))))))
theorem zu.body:Try.f8.body=some zu.code:=by kernel_rfl
theorem zu.eta {T:List Value} (h:T.length=142):T=[T.getD 0 zh,T.getD 1 zh,T.getD 2 zh,T.getD 3 zh,T.getD 4 zh,T.getD 5 zh,T.getD 6 zh,T.getD 7 zh,T.getD 8 zh,T.getD 9 zh,T.getD 10 zh,T.getD 11 zh,T.getD 12 zh,T.getD 13 zh,T.getD 14 zh,T.getD 15 zh,T.getD 16 zh,T.getD 17 zh,T.getD 18 zh,T.getD 19 zh,T.getD 20 zh,T.getD 21 zh,T.getD 22 zh,T.getD 23 zh,T.getD 24 zh,T.getD 25 zh,T.getD 26 zh,T.getD 27 zh,T.getD 28 zh,T.getD 29 zh,T.getD 30 zh,T.getD 31 zh,T.getD 32 zh,T.getD 33 zh,T.getD 34 zh,T.getD 35 zh,T.getD 36 zh,T.getD 37 zh,T.getD 38 zh,T.getD 39 zh,T.getD 40 zh,T.getD 41 zh,T.getD 42 zh,T.getD 43 zh,T.getD 44 zh,T.getD 45 zh,T.getD 46 zh,T.getD 47 zh,T.getD 48 zh,T.getD 49 zh,T.getD 50 zh,T.getD 51 zh,T.getD 52 zh,T.getD 53 zh,T.getD 54 zh,T.getD 55 zh,T.getD 56 zh,T.getD 57 zh,T.getD 58 zh,T.getD 59 zh,T.getD 60 zh,T.getD 61 zh,T.getD 62 zh,T.getD 63 zh,T.getD 64 zh,T.getD 65 zh,T.getD 66 zh,T.getD 67 zh,T.getD 68 zh,T.getD 69 zh,T.getD 70 zh,T.getD 71 zh,T.getD 72 zh,T.getD 73 zh,T.getD 74 zh,T.getD 75 zh,T.getD 76 zh,T.getD 77 zh,T.getD 78 zh,T.getD 79 zh,T.getD 80 zh,T.getD 81 zh,T.getD 82 zh,T.getD 83 zh,T.getD 84 zh,T.getD 85 zh,T.getD 86 zh,T.getD 87 zh,T.getD 88 zh,T.getD 89 zh,T.getD 90 zh,T.getD 91 zh,T.getD 92 zh,T.getD 93 zh,T.getD 94 zh,T.getD 95 zh,T.getD 96 zh,T.getD 97 zh,T.getD 98 zh,T.getD 99 zh,T.getD 100 zh,T.getD 101 zh,T.getD 102 zh,T.getD 103 zh,T.getD 104 zh,T.getD 105 zh,T.getD 106 zh,T.getD 107 zh,T.getD 108 zh,T.getD 109 zh,T.getD 110 zh,T.getD 111 zh,T.getD 112 zh,T.getD 113 zh,T.getD 114 zh,T.getD 115 zh,T.getD 116 zh,T.getD 117 zh,T.getD 118 zh,T.getD 119 zh,T.getD 120 zh,T.getD 121 zh,T.getD 122 zh,T.getD 123 zh,T.getD 124 zh,T.getD 125 zh,T.getD 126 zh,T.getD 127 zh,T.getD 128 zh,T.getD 129 zh,T.getD 130 zh,T.getD 131 zh,T.getD 132 zh,T.getD 133 zh,T.getD 134 zh,T.getD 135 zh,T.getD 136 zh,T.getD 137 zh,T.getD 138 zh,T.getD 139 zh,T.getD 140 zh,T.getD 141 zh]:=(qC T 142 h).trans (by kernel_rfl)
variable (x0 x1 x2 x3 x4 x5 x6 x7 x8 x9 a1 Z a2 b2 a4 b3 a5 a0 b4 a3 Y b5 b6 b7 a6 c8 c9 d0 d1 d2 d3 b8 b9 a7 d4 d5 d6 d7 d8 d9 f0 f1 f2 f3 f4 f5 f6 f7 c0 c1 a8 f9 g0 g1 g2 g3 g4 g5 g6 c2 c3 a9 g7 g8 g9 i0 i1 i2 i3 i4 i5 i6 i7 i8 i9 j0 j1 j2 j3 j4 j5 j6 j7 j8 j9 k0 k1 k2 k3 k4 k5 c4 c5 b0 k6 k7 k8 c6 c7 b1 f g i k l m n o p q r c d b s t u w x y z A B C D E F G H I J K L M N P Q R U V W X:Value) (S:zx)
theorem zu.r0 :jd zi ⟨false,false,false⟩ (zO zi O) (reg Try.f8 0) (reg Try.f8 0).toList ([x0,x1,x2,x3,x4,x5,x6,x7,x8,x9,a1,Z,a2,b2,a4,b3,a5,a0,b4,a3,Y,b5,b6,b7,a6,c8,c9,d0,d1,d2,d3,b8,b9,a7,d4,d5,d6,d7,d8,d9,f0,f1,f2,f3,f4,f5,f6,f7,c0,c1,a8,f9,g0,g1,g2,g3,g4,g5,g6,c2,c3,a9,g7,g8,g9,i0,i1,i2,i3,i4,i5,i6,i7,i8,i9,j0,j1,j2,j3,j4,j5,j6,j7,j8,j9,k0,k1,k2,k3,k4,k5,c4,c5,b0,k6,k7,k8,c6,c7,b1,f,g,i,k,l,m,n,o,p,q,r,c,d,b,s,t,u,w,x,y,z,A,B,C,D,E,F,G,H,I,J,K,L,M,N,P,Q,R,U,V,W,X]) S =
  ( some ([x0,x1,x2,x3,x4,x5,Value.bool false,x7,x8,x9,a1,Z,a2,b2,a4,b3,a5,a0,b4,a3,Y,b5,b6,b7,a6,c8,c9,d0,d1,d2,d3,b8,b9,a7,d4,d5,d6,d7,d8,d9,f0,f1,f2,f3,f4,f5,f6,f7,c0,c1,a8,f9,g0,g1,g2,g3,g4,g5,g6,c2,c3,a9,g7,g8,g9,i0,i1,i2,i3,i4,i5,i6,i7,i8,i9,j0,j1,j2,j3,j4,j5,j6,j7,j8,j9,k0,k1,k2,k3,k4,k5,c4,c5,b0,k6,k7,k8,c6,c7,b1,f,g,i,k,l,m,n,o,p,q,r,c,d,b,s,t,u,w,x,y,z,A,B,C,D,E,F,G,H,I,J,K,L,M,N,P,Q,R,U,V,W,X],S)):=by
 kernel_rfl
theorem zu.r1 :jd zi ⟨false,false,false⟩ (zO zi O) (reg Try.f8 1) (reg Try.f8 1).toList ([x0,x1,x2,x3,x4,x5,x6,x7,x8,x9,a1,Z,a2,b2,a4,b3,a5,a0,b4,a3,Y,b5,b6,b7,a6,c8,c9,d0,d1,d2,d3,b8,b9,a7,d4,d5,d6,d7,d8,d9,f0,f1,f2,f3,f4,f5,f6,f7,c0,c1,a8,f9,g0,g1,g2,g3,g4,g5,g6,c2,c3,a9,g7,g8,g9,i0,i1,i2,i3,i4,i5,i6,i7,i8,i9,j0,j1,j2,j3,j4,j5,j6,j7,j8,j9,k0,k1,k2,k3,k4,k5,c4,c5,b0,k6,k7,k8,c6,c7,b1,f,g,i,k,l,m,n,o,p,q,r,c,d,b,s,t,u,w,x,y,z,A,B,C,D,E,F,G,H,I,J,K,L,M,N,P,Q,R,U,V,W,X]) S =
  (zS ((zO zi O) 9 [] S) (fun v0 S1=>zS (aUn zi UnOp.not v0 S1) (fun v1 S2=>some ([x0,x1,x2,x3,x4,x5,x6,x7,x8,x9,a1,Z,a2,b2,a4,b3,a5,a0,b4,a3,Y,b5,b6,b7,a6,v0,v1,d0,d1,d2,d3,b8,b9,a7,d4,d5,d6,d7,d8,d9,f0,f1,f2,f3,f4,f5,f6,f7,c0,c1,a8,f9,g0,g1,g2,g3,g4,g5,g6,c2,c3,a9,g7,g8,g9,i0,i1,i2,i3,i4,i5,i6,i7,i8,i9,j0,j1,j2,j3,j4,j5,j6,j7,j8,j9,k0,k1,k2,k3,k4,k5,c4,c5,b0,k6,k7,k8,c6,c7,b1,f,g,i,k,l,m,n,o,p,q,r,c,d,b,s,t,u,w,x,y,z,A,B,C,D,E,F,G,H,I,J,K,L,M,N,P,Q,R,U,V,W,X],S2)) ()) ()):=by
 kernel_rfl
theorem zu.r2 :jd zi ⟨false,false,false⟩ (zO zi O) (reg Try.f8 2) (reg Try.f8 2).toList ([x0,x1,x2,x3,x4,x5,x6,x7,x8,x9,a1,Z,a2,b2,a4,b3,a5,a0,b4,a3,Y,b5,b6,b7,a6,c8,c9,d0,d1,d2,d3,b8,b9,a7,d4,d5,d6,d7,d8,d9,f0,f1,f2,f3,f4,f5,f6,f7,c0,c1,a8,f9,g0,g1,g2,g3,g4,g5,g6,c2,c3,a9,g7,g8,g9,i0,i1,i2,i3,i4,i5,i6,i7,i8,i9,j0,j1,j2,j3,j4,j5,j6,j7,j8,j9,k0,k1,k2,k3,k4,k5,c4,c5,b0,k6,k7,k8,c6,c7,b1,f,g,i,k,l,m,n,o,p,q,r,c,d,b,s,t,u,w,x,y,z,A,B,C,D,E,F,G,H,I,J,K,L,M,N,P,Q,R,U,V,W,X]) S =
  ( some ([x0,x1,x2,x3,x4,x5,Value.bool false,x7,x8,x9,a1,Z,a2,b2,a4,b3,a5,a0,b4,a3,Y,b5,b6,b7,a6,c8,c9,d0,d1,d2,d3,b8,b9,a7,d4,d5,d6,d7,d8,d9,f0,f1,f2,f3,f4,f5,f6,f7,c0,c1,a8,f9,g0,g1,g2,g3,g4,g5,g6,c2,c3,a9,g7,g8,g9,i0,i1,i2,i3,i4,i5,i6,i7,i8,i9,j0,j1,j2,j3,j4,j5,j6,j7,j8,j9,k0,k1,k2,k3,k4,k5,c4,c5,b0,k6,k7,k8,c6,c7,b1,f,g,i,k,l,m,n,o,p,q,r,c,d,b,s,t,u,w,x,y,z,A,B,C,D,E,F,G,H,I,J,K,L,M,N,P,Q,R,U,V,W,X],S)):=by
 kernel_rfl
theorem zu.r3 :jd zi ⟨false,false,false⟩ (zO zi O) (reg Try.f8 3) (reg Try.f8 3).toList ([x0,x1,x2,x3,x4,x5,x6,x7,x8,x9,a1,Z,a2,b2,a4,b3,a5,a0,b4,a3,Y,b5,b6,b7,a6,c8,c9,d0,d1,d2,d3,b8,b9,a7,d4,d5,d6,d7,d8,d9,f0,f1,f2,f3,f4,f5,f6,f7,c0,c1,a8,f9,g0,g1,g2,g3,g4,g5,g6,c2,c3,a9,g7,g8,g9,i0,i1,i2,i3,i4,i5,i6,i7,i8,i9,j0,j1,j2,j3,j4,j5,j6,j7,j8,j9,k0,k1,k2,k3,k4,k5,c4,c5,b0,k6,k7,k8,c6,c7,b1,f,g,i,k,l,m,n,o,p,q,r,c,d,b,s,t,u,w,x,y,z,A,B,C,D,E,F,G,H,I,J,K,L,M,N,P,Q,R,U,V,W,X]) S =
  (zS (kP zi 23 (dem x0) S) (fun v1 S1=>zS (wR zi BinOp.gtr 3 v1 (.int .i64 60) S1) (fun v2 S2=>some ([x0,x1,x2,x3,x4,x5,x6,x7,x8,x9,a1,Z,a2,b2,a4,b3,a5,a0,b4,a3,Y,b5,b6,b7,a6,c8,c9,dem x0,v1,v2,d3,b8,b9,a7,d4,d5,d6,d7,d8,d9,f0,f1,f2,f3,f4,f5,f6,f7,c0,c1,a8,f9,g0,g1,g2,g3,g4,g5,g6,c2,c3,a9,g7,g8,g9,i0,i1,i2,i3,i4,i5,i6,i7,i8,i9,j0,j1,j2,j3,j4,j5,j6,j7,j8,j9,k0,k1,k2,k3,k4,k5,c4,c5,b0,k6,k7,k8,c6,c7,b1,f,g,i,k,l,m,n,o,p,q,r,c,d,b,s,t,u,w,x,y,z,A,B,C,D,E,F,G,H,I,J,K,L,M,N,P,Q,R,U,V,W,X],S2)) ()) ()):=by
 kernel_rfl
theorem zu.r4 :jd zi ⟨false,false,false⟩ (zO zi O) (reg Try.f8 4) (reg Try.f8 4).toList ([x0,x1,x2,x3,x4,x5,x6,x7,x8,x9,a1,Z,a2,b2,a4,b3,a5,a0,b4,a3,Y,b5,b6,b7,a6,c8,c9,d0,d1,d2,d3,b8,b9,a7,d4,d5,d6,d7,d8,d9,f0,f1,f2,f3,f4,f5,f6,f7,c0,c1,a8,f9,g0,g1,g2,g3,g4,g5,g6,c2,c3,a9,g7,g8,g9,i0,i1,i2,i3,i4,i5,i6,i7,i8,i9,j0,j1,j2,j3,j4,j5,j6,j7,j8,j9,k0,k1,k2,k3,k4,k5,c4,c5,b0,k6,k7,k8,c6,c7,b1,f,g,i,k,l,m,n,o,p,q,r,c,d,b,s,t,u,w,x,y,z,A,B,C,D,E,F,G,H,I,J,K,L,M,N,P,Q,R,U,V,W,X]) S =
  ( some ([x0,x1,x2,x3,x4,x5,Value.bool true,x7,x8,x9,a1,Z,a2,b2,a4,b3,a5,a0,b4,a3,Y,b5,b6,b7,a6,c8,c9,d0,d1,d2,d3,b8,b9,a7,d4,d5,d6,d7,d8,d9,f0,f1,f2,f3,f4,f5,f6,f7,c0,c1,a8,f9,g0,g1,g2,g3,g4,g5,g6,c2,c3,a9,g7,g8,g9,i0,i1,i2,i3,i4,i5,i6,i7,i8,i9,j0,j1,j2,j3,j4,j5,j6,j7,j8,j9,k0,k1,k2,k3,k4,k5,c4,c5,b0,k6,k7,k8,c6,c7,b1,f,g,i,k,l,m,n,o,p,q,r,c,d,b,s,t,u,w,x,y,z,A,B,C,D,E,F,G,H,I,J,K,L,M,N,P,Q,R,U,V,W,X],S)):=by
 kernel_rfl
theorem zu.r5 :jd zi ⟨false,false,false⟩ (zO zi O) (reg Try.f8 5) (reg Try.f8 5).toList ([x0,x1,x2,x3,x4,x5,x6,x7,x8,x9,a1,Z,a2,b2,a4,b3,a5,a0,b4,a3,Y,b5,b6,b7,a6,c8,c9,d0,d1,d2,d3,b8,b9,a7,d4,d5,d6,d7,d8,d9,f0,f1,f2,f3,f4,f5,f6,f7,c0,c1,a8,f9,g0,g1,g2,g3,g4,g5,g6,c2,c3,a9,g7,g8,g9,i0,i1,i2,i3,i4,i5,i6,i7,i8,i9,j0,j1,j2,j3,j4,j5,j6,j7,j8,j9,k0,k1,k2,k3,k4,k5,c4,c5,b0,k6,k7,k8,c6,c7,b1,f,g,i,k,l,m,n,o,p,q,r,c,d,b,s,t,u,w,x,y,z,A,B,C,D,E,F,G,H,I,J,K,L,M,N,P,Q,R,U,V,W,X]) S =
  (zS ((zO zi O) 10 [] S) (fun v0 S1=>some ([x0,x1,x2,x3,x4,x5,x6,v0,x8,x9,a1,Z,a2,b2,a4,b3,a5,a0,b4,a3,Y,b5,b6,b7,a6,c8,c9,d0,d1,d2,dem v0,b8,b9,a7,d4,d5,d6,d7,d8,d9,f0,f1,f2,f3,f4,f5,f6,f7,c0,c1,a8,f9,g0,g1,g2,g3,g4,g5,g6,c2,c3,a9,g7,g8,g9,i0,i1,i2,i3,i4,i5,i6,i7,i8,i9,j0,j1,j2,j3,j4,j5,j6,j7,j8,j9,k0,k1,k2,k3,k4,k5,c4,c5,b0,k6,k7,k8,c6,c7,b1,f,g,i,k,l,m,n,o,p,q,r,c,d,b,s,t,u,w,x,y,z,A,B,C,D,E,F,G,H,I,J,K,L,M,N,P,Q,R,U,V,W,X],S1)) ()):=by
 kernel_rfl
theorem zu.r6 :jd zi ⟨false,false,false⟩ (zO zi O) (reg Try.f8 6) (reg Try.f8 6).toList ([x0,x1,x2,x3,x4,x5,x6,x7,x8,x9,a1,Z,a2,b2,a4,b3,a5,a0,b4,a3,Y,b5,b6,b7,a6,c8,c9,d0,d1,d2,d3,b8,b9,a7,d4,d5,d6,d7,d8,d9,f0,f1,f2,f3,f4,f5,f6,f7,c0,c1,a8,f9,g0,g1,g2,g3,g4,g5,g6,c2,c3,a9,g7,g8,g9,i0,i1,i2,i3,i4,i5,i6,i7,i8,i9,j0,j1,j2,j3,j4,j5,j6,j7,j8,j9,k0,k1,k2,k3,k4,k5,c4,c5,b0,k6,k7,k8,c6,c7,b1,f,g,i,k,l,m,n,o,p,q,r,c,d,b,s,t,u,w,x,y,z,A,B,C,D,E,F,G,H,I,J,K,L,M,N,P,Q,R,U,V,W,X]) S =
  (zS (kP zi 23 (dem x0) S) (fun v1 S1=>some ([x0,x1,x2,x3,x4,x5,x6,x7,x8,x9,a1,Z,a2,b2,a4,b3,a5,a0,b4,a3,Y,b5,b6,b7,a6,c8,c9,d0,d1,d2,d3,dem x0,v1,.int .i64 0,d4,d5,d6,d7,d8,d9,f0,f1,f2,f3,f4,f5,f6,f7,c0,c1,a8,f9,g0,g1,g2,g3,g4,g5,g6,c2,c3,a9,g7,g8,g9,i0,i1,i2,i3,i4,i5,i6,i7,i8,i9,j0,j1,j2,j3,j4,j5,j6,j7,j8,j9,k0,k1,k2,k3,k4,k5,c4,c5,b0,k6,k7,k8,c6,c7,b1,f,g,i,k,l,m,n,o,p,q,r,c,d,b,s,t,u,w,x,y,z,A,B,C,D,E,F,G,H,I,J,K,L,M,N,P,Q,R,U,V,W,X],S1)) ()):=by
 kernel_rfl
theorem zu.r7 :jd zi ⟨false,false,false⟩ (zO zi O) (reg Try.f8 7) (reg Try.f8 7).toList ([x0,x1,x2,x3,x4,x5,x6,x7,x8,x9,a1,Z,a2,b2,a4,b3,a5,a0,b4,a3,Y,b5,b6,b7,a6,c8,c9,d0,d1,d2,d3,b8,b9,a7,d4,d5,d6,d7,d8,d9,f0,f1,f2,f3,f4,f5,f6,f7,c0,c1,a8,f9,g0,g1,g2,g3,g4,g5,g6,c2,c3,a9,g7,g8,g9,i0,i1,i2,i3,i4,i5,i6,i7,i8,i9,j0,j1,j2,j3,j4,j5,j6,j7,j8,j9,k0,k1,k2,k3,k4,k5,c4,c5,b0,k6,k7,k8,c6,c7,b1,f,g,i,k,l,m,n,o,p,q,r,c,d,b,s,t,u,w,x,y,z,A,B,C,D,E,F,G,H,I,J,K,L,M,N,P,Q,R,U,V,W,X]) S =
  (zS (wR zi BinOp.lss 3 a7 b9 S) (fun v0 S1=>some ([x0,x1,x2,x3,x4,x5,x6,x7,x8,x9,a1,Z,a2,b2,a4,b3,a5,a0,b4,a3,Y,b5,b6,b7,a6,c8,c9,d0,d1,d2,d3,b8,b9,a7,v0,d5,d6,d7,d8,d9,f0,f1,f2,f3,f4,f5,f6,f7,c0,c1,a8,f9,g0,g1,g2,g3,g4,g5,g6,c2,c3,a9,g7,g8,g9,i0,i1,i2,i3,i4,i5,i6,i7,i8,i9,j0,j1,j2,j3,j4,j5,j6,j7,j8,j9,k0,k1,k2,k3,k4,k5,c4,c5,b0,k6,k7,k8,c6,c7,b1,f,g,i,k,l,m,n,o,p,q,r,c,d,b,s,t,u,w,x,y,z,A,B,C,D,E,F,G,H,I,J,K,L,M,N,P,Q,R,U,V,W,X],S1)) ()):=by
 kernel_rfl
theorem zu.r8 :jd zi ⟨false,false,false⟩ (zO zi O) (reg Try.f8 8) (reg Try.f8 8).toList ([x0,x1,x2,x3,x4,x5,x6,x7,x8,x9,a1,Z,a2,b2,a4,b3,a5,a0,b4,a3,Y,b5,b6,b7,a6,c8,c9,d0,d1,d2,d3,b8,b9,a7,d4,d5,d6,d7,d8,d9,f0,f1,f2,f3,f4,f5,f6,f7,c0,c1,a8,f9,g0,g1,g2,g3,g4,g5,g6,c2,c3,a9,g7,g8,g9,i0,i1,i2,i3,i4,i5,i6,i7,i8,i9,j0,j1,j2,j3,j4,j5,j6,j7,j8,j9,k0,k1,k2,k3,k4,k5,c4,c5,b0,k6,k7,k8,c6,c7,b1,f,g,i,k,l,m,n,o,p,q,r,c,d,b,s,t,u,w,x,y,z,A,B,C,D,E,F,G,H,I,J,K,L,M,N,P,Q,R,U,V,W,X]) S =
  (zS (zV zi 23 b8 a7 S) (fun v0 S1=>zS (je zi false 30 v0 S1) (fun v1 S2=>zS (qw zi 30 S2) (fun v2 S3=>zS (qm zi 30 v2 (dem v1) S3) (fun v3 S4=>some ([x0,x1,x2,x3,x4,x5,x6,x7,x8,v2,a1,Z,a2,b2,a4,b3,a5,a0,b4,a3,Y,b5,b6,b7,a6,c8,c9,d0,d1,d2,d3,b8,b9,a7,d4,v0,v1,d7,d8,d9,f0,f1,f2,f3,f4,f5,f6,f7,c0,c1,a8,f9,g0,g1,g2,g3,g4,g5,g6,c2,c3,a9,g7,g8,g9,i0,i1,i2,i3,i4,i5,i6,i7,i8,i9,j0,j1,j2,j3,j4,j5,j6,j7,j8,j9,k0,k1,k2,k3,k4,k5,c4,c5,b0,k6,k7,k8,c6,c7,b1,f,g,i,k,l,m,n,o,p,q,r,c,d,b,s,t,u,w,x,y,z,A,B,C,D,E,F,G,H,I,J,K,L,M,N,P,Q,R,U,V,W,X],S4)) ()) ()) ()) ()):=by
 kernel_rfl
theorem zu.r9 :jd zi ⟨false,false,false⟩ (zO zi O) (reg Try.f8 9) (reg Try.f8 9).toList ([x0,x1,x2,x3,x4,x5,x6,x7,x8,x9,a1,Z,a2,b2,a4,b3,a5,a0,b4,a3,Y,b5,b6,b7,a6,c8,c9,d0,d1,d2,d3,b8,b9,a7,d4,d5,d6,d7,d8,d9,f0,f1,f2,f3,f4,f5,f6,f7,c0,c1,a8,f9,g0,g1,g2,g3,g4,g5,g6,c2,c3,a9,g7,g8,g9,i0,i1,i2,i3,i4,i5,i6,i7,i8,i9,j0,j1,j2,j3,j4,j5,j6,j7,j8,j9,k0,k1,k2,k3,k4,k5,c4,c5,b0,k6,k7,k8,c6,c7,b1,f,g,i,k,l,m,n,o,p,q,r,c,d,b,s,t,u,w,x,y,z,A,B,C,D,E,F,G,H,I,J,K,L,M,N,P,Q,R,U,V,W,X]) S =
  (zS (je zi false 30 x9 S) (fun v1 S1=>zS ((zO zi O) 12 [(dem (dem x7)),(dem v1)] S1) (fun v2 S2=>some ([x0,x1,x2,x3,x4,x5,x6,x7,x8,x9,a1,Z,a2,b2,a4,b3,a5,a0,b4,a3,Y,b5,b6,b7,a6,c8,c9,d0,d1,d2,d3,b8,b9,a7,d4,d5,d6,dem x7,v1,v2,f0,f1,f2,f3,f4,f5,f6,f7,c0,c1,a8,f9,g0,g1,g2,g3,g4,g5,g6,c2,c3,a9,g7,g8,g9,i0,i1,i2,i3,i4,i5,i6,i7,i8,i9,j0,j1,j2,j3,j4,j5,j6,j7,j8,j9,k0,k1,k2,k3,k4,k5,c4,c5,b0,k6,k7,k8,c6,c7,b1,f,g,i,k,l,m,n,o,p,q,r,c,d,b,s,t,u,w,x,y,z,A,B,C,D,E,F,G,H,I,J,K,L,M,N,P,Q,R,U,V,W,X],S2)) ()) ()):=by
 kernel_rfl
theorem zu.r10 :jd zi ⟨false,false,false⟩ (zO zi O) (reg Try.f8 10) (reg Try.f8 10).toList ([x0,x1,x2,x3,x4,x5,x6,x7,x8,x9,a1,Z,a2,b2,a4,b3,a5,a0,b4,a3,Y,b5,b6,b7,a6,c8,c9,d0,d1,d2,d3,b8,b9,a7,d4,d5,d6,d7,d8,d9,f0,f1,f2,f3,f4,f5,f6,f7,c0,c1,a8,f9,g0,g1,g2,g3,g4,g5,g6,c2,c3,a9,g7,g8,g9,i0,i1,i2,i3,i4,i5,i6,i7,i8,i9,j0,j1,j2,j3,j4,j5,j6,j7,j8,j9,k0,k1,k2,k3,k4,k5,c4,c5,b0,k6,k7,k8,c6,c7,b1,f,g,i,k,l,m,n,o,p,q,r,c,d,b,s,t,u,w,x,y,z,A,B,C,D,E,F,G,H,I,J,K,L,M,N,P,Q,R,U,V,W,X]) S =
  (zS (wR zi BinOp.add 3 a7 (.int .i64 1) S) (fun v0 S1=>some ([x0,x1,x2,x3,x4,x5,x6,x7,x8,x9,a1,Z,a2,b2,a4,b3,a5,a0,b4,a3,Y,b5,b6,b7,a6,c8,c9,d0,d1,d2,d3,b8,b9,dem v0,d4,d5,d6,d7,d8,d9,v0,f1,f2,f3,f4,f5,f6,f7,c0,c1,a8,f9,g0,g1,g2,g3,g4,g5,g6,c2,c3,a9,g7,g8,g9,i0,i1,i2,i3,i4,i5,i6,i7,i8,i9,j0,j1,j2,j3,j4,j5,j6,j7,j8,j9,k0,k1,k2,k3,k4,k5,c4,c5,b0,k6,k7,k8,c6,c7,b1,f,g,i,k,l,m,n,o,p,q,r,c,d,b,s,t,u,w,x,y,z,A,B,C,D,E,F,G,H,I,J,K,L,M,N,P,Q,R,U,V,W,X],S1)) ()):=by
 kernel_rfl
theorem zu.r11 :jd zi ⟨false,false,false⟩ (zO zi O) (reg Try.f8 11) (reg Try.f8 11).toList ([x0,x1,x2,x3,x4,x5,x6,x7,x8,x9,a1,Z,a2,b2,a4,b3,a5,a0,b4,a3,Y,b5,b6,b7,a6,c8,c9,d0,d1,d2,d3,b8,b9,a7,d4,d5,d6,d7,d8,d9,f0,f1,f2,f3,f4,f5,f6,f7,c0,c1,a8,f9,g0,g1,g2,g3,g4,g5,g6,c2,c3,a9,g7,g8,g9,i0,i1,i2,i3,i4,i5,i6,i7,i8,i9,j0,j1,j2,j3,j4,j5,j6,j7,j8,j9,k0,k1,k2,k3,k4,k5,c4,c5,b0,k6,k7,k8,c6,c7,b1,f,g,i,k,l,m,n,o,p,q,r,c,d,b,s,t,u,w,x,y,z,A,B,C,D,E,F,G,H,I,J,K,L,M,N,P,Q,R,U,V,W,X]) S =
  (zS ((zO zi O) 11 [(dem (dem x7))] S) (fun v1 S1=>some ([x0,x1,x2,x3,x4,x5,x6,x7,x8,x9,v1,Z,a2,b2,a4,b3,a5,a0,b4,a3,Y,b5,b6,b7,a6,c8,c9,d0,d1,d2,d3,b8,b9,a7,d4,d5,d6,d7,d8,d9,f0,dem x7,dem v1,f3,f4,f5,f6,f7,c0,c1,a8,f9,g0,g1,g2,g3,g4,g5,g6,c2,c3,a9,g7,g8,g9,i0,i1,i2,i3,i4,i5,i6,i7,i8,i9,j0,j1,j2,j3,j4,j5,j6,j7,j8,j9,k0,k1,k2,k3,k4,k5,c4,c5,b0,k6,k7,k8,c6,c7,b1,f,g,i,k,l,m,n,o,p,q,r,c,d,b,s,t,u,w,x,y,z,A,B,C,D,E,F,G,H,I,J,K,L,M,N,P,Q,R,U,V,W,X],S1)) ()):=by
 kernel_rfl
theorem zu.r12 :jd zi ⟨false,false,false⟩ (zO zi O) (reg Try.f8 12) (reg Try.f8 12).toList ([x0,x1,x2,x3,x4,x5,x6,x7,x8,x9,a1,Z,a2,b2,a4,b3,a5,a0,b4,a3,Y,b5,b6,b7,a6,c8,c9,d0,d1,d2,d3,b8,b9,a7,d4,d5,d6,d7,d8,d9,f0,f1,f2,f3,f4,f5,f6,f7,c0,c1,a8,f9,g0,g1,g2,g3,g4,g5,g6,c2,c3,a9,g7,g8,g9,i0,i1,i2,i3,i4,i5,i6,i7,i8,i9,j0,j1,j2,j3,j4,j5,j6,j7,j8,j9,k0,k1,k2,k3,k4,k5,c4,c5,b0,k6,k7,k8,c6,c7,b1,f,g,i,k,l,m,n,o,p,q,r,c,d,b,s,t,u,w,x,y,z,A,B,C,D,E,F,G,H,I,J,K,L,M,N,P,Q,R,U,V,W,X]) S =
  (zS ((zO zi O) 16 [(dem (dem x7)),(dem (dem x1)),(dem (dem x2))] S) (fun v3 S1=>some ([x0,x1,x2,x3,x4,x5,x6,x7,x8,x9,a1,v3,a2,b2,a4,b3,a5,a0,b4,a3,Y,b5,b6,b7,a6,c8,c9,d0,d1,d2,d3,b8,b9,a7,d4,d5,d6,d7,d8,d9,f0,f1,f2,dem x7,dem x1,dem x2,dem v3,f7,c0,c1,a8,f9,g0,g1,g2,g3,g4,g5,g6,c2,c3,a9,g7,g8,g9,i0,i1,i2,i3,i4,i5,i6,i7,i8,i9,j0,j1,j2,j3,j4,j5,j6,j7,j8,j9,k0,k1,k2,k3,k4,k5,c4,c5,b0,k6,k7,k8,c6,c7,b1,f,g,i,k,l,m,n,o,p,q,r,c,d,b,s,t,u,w,x,y,z,A,B,C,D,E,F,G,H,I,J,K,L,M,N,P,Q,R,U,V,W,X],S1)) ()):=by
 kernel_rfl
theorem zu.r13 :jd zi ⟨false,false,false⟩ (zO zi O) (reg Try.f8 13) (reg Try.f8 13).toList ([x0,x1,x2,x3,x4,x5,x6,x7,x8,x9,a1,Z,a2,b2,a4,b3,a5,a0,b4,a3,Y,b5,b6,b7,a6,c8,c9,d0,d1,d2,d3,b8,b9,a7,d4,d5,d6,d7,d8,d9,f0,f1,f2,f3,f4,f5,f6,f7,c0,c1,a8,f9,g0,g1,g2,g3,g4,g5,g6,c2,c3,a9,g7,g8,g9,i0,i1,i2,i3,i4,i5,i6,i7,i8,i9,j0,j1,j2,j3,j4,j5,j6,j7,j8,j9,k0,k1,k2,k3,k4,k5,c4,c5,b0,k6,k7,k8,c6,c7,b1,f,g,i,k,l,m,n,o,p,q,r,c,d,b,s,t,u,w,x,y,z,A,B,C,D,E,F,G,H,I,J,K,L,M,N,P,Q,R,U,V,W,X]) S =
  (zS (jw zi 38 0 [] S) (fun v0 S1=>some ([x0,x1,x2,x3,x4,x5,x6,x7,x8,x9,a1,Z,v0,b2,a4,b3,a5,a0,b4,a3,Y,b5,b6,b7,a6,c8,c9,d0,d1,d2,d3,b8,b9,a7,d4,d5,d6,d7,d8,d9,f0,f1,f2,f3,f4,f5,f6,dem v0,c0,c1,a8,f9,g0,g1,g2,g3,g4,g5,g6,c2,c3,a9,g7,g8,g9,i0,i1,i2,i3,i4,i5,i6,i7,i8,i9,j0,j1,j2,j3,j4,j5,j6,j7,j8,j9,k0,k1,k2,k3,k4,k5,c4,c5,b0,k6,k7,k8,c6,c7,b1,f,g,i,k,l,m,n,o,p,q,r,c,d,b,s,t,u,w,x,y,z,A,B,C,D,E,F,G,H,I,J,K,L,M,N,P,Q,R,U,V,W,X],S1)) ()):=by
 kernel_rfl
theorem zu.r14 :jd zi ⟨false,false,false⟩ (zO zi O) (reg Try.f8 14) (reg Try.f8 14).toList ([x0,x1,x2,x3,x4,x5,x6,x7,x8,x9,a1,Z,a2,b2,a4,b3,a5,a0,b4,a3,Y,b5,b6,b7,a6,c8,c9,d0,d1,d2,d3,b8,b9,a7,d4,d5,d6,d7,d8,d9,f0,f1,f2,f3,f4,f5,f6,f7,c0,c1,a8,f9,g0,g1,g2,g3,g4,g5,g6,c2,c3,a9,g7,g8,g9,i0,i1,i2,i3,i4,i5,i6,i7,i8,i9,j0,j1,j2,j3,j4,j5,j6,j7,j8,j9,k0,k1,k2,k3,k4,k5,c4,c5,b0,k6,k7,k8,c6,c7,b1,f,g,i,k,l,m,n,o,p,q,r,c,d,b,s,t,u,w,x,y,z,A,B,C,D,E,F,G,H,I,J,K,L,M,N,P,Q,R,U,V,W,X]) S =
  (zS (kP zi 23 (dem Z) S) (fun v1 S1=>some ([x0,x1,x2,x3,x4,x5,x6,x7,x8,x9,a1,Z,a2,b2,a4,b3,a5,a0,b4,a3,Y,b5,b6,b7,a6,c8,c9,d0,d1,d2,d3,b8,b9,a7,d4,d5,d6,d7,d8,d9,f0,f1,f2,f3,f4,f5,f6,f7,dem Z,v1,.int .i64 0,f9,g0,g1,g2,g3,g4,g5,g6,c2,c3,a9,g7,g8,g9,i0,i1,i2,i3,i4,i5,i6,i7,i8,i9,j0,j1,j2,j3,j4,j5,j6,j7,j8,j9,k0,k1,k2,k3,k4,k5,c4,c5,b0,k6,k7,k8,c6,c7,b1,f,g,i,k,l,m,n,o,p,q,r,c,d,b,s,t,u,w,x,y,z,A,B,C,D,E,F,G,H,I,J,K,L,M,N,P,Q,R,U,V,W,X],S1)) ()):=by
 kernel_rfl
theorem zu.r15 :jd zi ⟨false,false,false⟩ (zO zi O) (reg Try.f8 15) (reg Try.f8 15).toList ([x0,x1,x2,x3,x4,x5,x6,x7,x8,x9,a1,Z,a2,b2,a4,b3,a5,a0,b4,a3,Y,b5,b6,b7,a6,c8,c9,d0,d1,d2,d3,b8,b9,a7,d4,d5,d6,d7,d8,d9,f0,f1,f2,f3,f4,f5,f6,f7,c0,c1,a8,f9,g0,g1,g2,g3,g4,g5,g6,c2,c3,a9,g7,g8,g9,i0,i1,i2,i3,i4,i5,i6,i7,i8,i9,j0,j1,j2,j3,j4,j5,j6,j7,j8,j9,k0,k1,k2,k3,k4,k5,c4,c5,b0,k6,k7,k8,c6,c7,b1,f,g,i,k,l,m,n,o,p,q,r,c,d,b,s,t,u,w,x,y,z,A,B,C,D,E,F,G,H,I,J,K,L,M,N,P,Q,R,U,V,W,X]) S =
  (zS (wR zi BinOp.lss 3 a8 c1 S) (fun v0 S1=>some ([x0,x1,x2,x3,x4,x5,x6,x7,x8,x9,a1,Z,a2,b2,a4,b3,a5,a0,b4,a3,Y,b5,b6,b7,a6,c8,c9,d0,d1,d2,d3,b8,b9,a7,d4,d5,d6,d7,d8,d9,f0,f1,f2,f3,f4,f5,f6,f7,c0,c1,a8,v0,g0,g1,g2,g3,g4,g5,g6,c2,c3,a9,g7,g8,g9,i0,i1,i2,i3,i4,i5,i6,i7,i8,i9,j0,j1,j2,j3,j4,j5,j6,j7,j8,j9,k0,k1,k2,k3,k4,k5,c4,c5,b0,k6,k7,k8,c6,c7,b1,f,g,i,k,l,m,n,o,p,q,r,c,d,b,s,t,u,w,x,y,z,A,B,C,D,E,F,G,H,I,J,K,L,M,N,P,Q,R,U,V,W,X],S1)) ()):=by
 kernel_rfl
theorem zu.r16 :jd zi ⟨false,false,false⟩ (zO zi O) (reg Try.f8 16) (reg Try.f8 16).toList ([x0,x1,x2,x3,x4,x5,x6,x7,x8,x9,a1,Z,a2,b2,a4,b3,a5,a0,b4,a3,Y,b5,b6,b7,a6,c8,c9,d0,d1,d2,d3,b8,b9,a7,d4,d5,d6,d7,d8,d9,f0,f1,f2,f3,f4,f5,f6,f7,c0,c1,a8,f9,g0,g1,g2,g3,g4,g5,g6,c2,c3,a9,g7,g8,g9,i0,i1,i2,i3,i4,i5,i6,i7,i8,i9,j0,j1,j2,j3,j4,j5,j6,j7,j8,j9,k0,k1,k2,k3,k4,k5,c4,c5,b0,k6,k7,k8,c6,c7,b1,f,g,i,k,l,m,n,o,p,q,r,c,d,b,s,t,u,w,x,y,z,A,B,C,D,E,F,G,H,I,J,K,L,M,N,P,Q,R,U,V,W,X]) S =
  (zS (zV zi 23 c0 a8 S) (fun v0 S1=>zS (je zi false 30 v0 S1) (fun v1 S2=>zS (qw zi 30 S2) (fun v2 S3=>zS (qm zi 30 v2 (dem v1) S3) (fun v3 S4=>some ([x0,x1,x2,x3,x4,x5,x6,x7,x8,x9,a1,Z,a2,b2,v2,b3,a5,a0,b4,a3,Y,b5,b6,b7,a6,c8,c9,d0,d1,d2,d3,b8,b9,a7,d4,d5,d6,d7,d8,d9,f0,f1,f2,f3,f4,f5,f6,f7,c0,c1,a8,f9,v0,v1,g2,g3,g4,g5,g6,c2,c3,a9,g7,g8,g9,i0,i1,i2,i3,i4,i5,i6,i7,i8,i9,j0,j1,j2,j3,j4,j5,j6,j7,j8,j9,k0,k1,k2,k3,k4,k5,c4,c5,b0,k6,k7,k8,c6,c7,b1,f,g,i,k,l,m,n,o,p,q,r,c,d,b,s,t,u,w,x,y,z,A,B,C,D,E,F,G,H,I,J,K,L,M,N,P,Q,R,U,V,W,X],S4)) ()) ()) ()) ()):=by
 kernel_rfl
theorem zu.r17 :jd zi ⟨false,false,false⟩ (zO zi O) (reg Try.f8 17) (reg Try.f8 17).toList ([x0,x1,x2,x3,x4,x5,x6,x7,x8,x9,a1,Z,a2,b2,a4,b3,a5,a0,b4,a3,Y,b5,b6,b7,a6,c8,c9,d0,d1,d2,d3,b8,b9,a7,d4,d5,d6,d7,d8,d9,f0,f1,f2,f3,f4,f5,f6,f7,c0,c1,a8,f9,g0,g1,g2,g3,g4,g5,g6,c2,c3,a9,g7,g8,g9,i0,i1,i2,i3,i4,i5,i6,i7,i8,i9,j0,j1,j2,j3,j4,j5,j6,j7,j8,j9,k0,k1,k2,k3,k4,k5,c4,c5,b0,k6,k7,k8,c6,c7,b1,f,g,i,k,l,m,n,o,p,q,r,c,d,b,s,t,u,w,x,y,z,A,B,C,D,E,F,G,H,I,J,K,L,M,N,P,Q,R,U,V,W,X]) S =
  (zS (zQ zi 30 a4 0 S) (fun v1 S1=>zS (je zi false 3 v1 S1) (fun v2 S2=>zS (jw zi 38 1 [(0,v2)] S2) (fun v3 S3=>zS (qo zi 38 38 a2 v3 S3) (fun v4 S4=>some ([x0,x1,x2,x3,x4,x5,x6,x7,x8,x9,a1,Z,v4,b2,a4,b3,a5,a0,b4,a3,Y,b5,b6,b7,a6,c8,c9,d0,d1,d2,d3,b8,b9,a7,d4,d5,d6,d7,d8,d9,f0,f1,f2,f3,f4,f5,f6,f7,c0,c1,a8,f9,g0,g1,dem a2,v1,v2,v3,dem v4,c2,c3,a9,g7,g8,g9,i0,i1,i2,i3,i4,i5,i6,i7,i8,i9,j0,j1,j2,j3,j4,j5,j6,j7,j8,j9,k0,k1,k2,k3,k4,k5,c4,c5,b0,k6,k7,k8,c6,c7,b1,f,g,i,k,l,m,n,o,p,q,r,c,d,b,s,t,u,w,x,y,z,A,B,C,D,E,F,G,H,I,J,K,L,M,N,P,Q,R,U,V,W,X],S4)) ()) ()) ()) ()):=by
 kernel_rfl
theorem zu.r18 :jd zi ⟨false,false,false⟩ (zO zi O) (reg Try.f8 18) (reg Try.f8 18).toList ([x0,x1,x2,x3,x4,x5,x6,x7,x8,x9,a1,Z,a2,b2,a4,b3,a5,a0,b4,a3,Y,b5,b6,b7,a6,c8,c9,d0,d1,d2,d3,b8,b9,a7,d4,d5,d6,d7,d8,d9,f0,f1,f2,f3,f4,f5,f6,f7,c0,c1,a8,f9,g0,g1,g2,g3,g4,g5,g6,c2,c3,a9,g7,g8,g9,i0,i1,i2,i3,i4,i5,i6,i7,i8,i9,j0,j1,j2,j3,j4,j5,j6,j7,j8,j9,k0,k1,k2,k3,k4,k5,c4,c5,b0,k6,k7,k8,c6,c7,b1,f,g,i,k,l,m,n,o,p,q,r,c,d,b,s,t,u,w,x,y,z,A,B,C,D,E,F,G,H,I,J,K,L,M,N,P,Q,R,U,V,W,X]) S =
  (zS (kP zi 38 (dem x2) S) (fun v1 S1=>some ([x0,x1,x2,x3,x4,x5,x6,x7,x8,x9,a1,Z,a2,b2,a4,b3,a5,a0,b4,a3,Y,b5,b6,b7,a6,c8,c9,d0,d1,d2,d3,b8,b9,a7,d4,d5,d6,d7,d8,d9,f0,f1,f2,f3,f4,f5,f6,f7,c0,c1,a8,f9,g0,g1,g2,g3,g4,g5,g6,dem x2,v1,.int .i64 0,g7,g8,g9,i0,i1,i2,i3,i4,i5,i6,i7,i8,i9,j0,j1,j2,j3,j4,j5,j6,j7,j8,j9,k0,k1,k2,k3,k4,k5,c4,c5,b0,k6,k7,k8,c6,c7,b1,f,g,i,k,l,m,n,o,p,q,r,c,d,b,s,t,u,w,x,y,z,A,B,C,D,E,F,G,H,I,J,K,L,M,N,P,Q,R,U,V,W,X],S1)) ()):=by
 kernel_rfl
theorem zu.r19 :jd zi ⟨false,false,false⟩ (zO zi O) (reg Try.f8 19) (reg Try.f8 19).toList ([x0,x1,x2,x3,x4,x5,x6,x7,x8,x9,a1,Z,a2,b2,a4,b3,a5,a0,b4,a3,Y,b5,b6,b7,a6,c8,c9,d0,d1,d2,d3,b8,b9,a7,d4,d5,d6,d7,d8,d9,f0,f1,f2,f3,f4,f5,f6,f7,c0,c1,a8,f9,g0,g1,g2,g3,g4,g5,g6,c2,c3,a9,g7,g8,g9,i0,i1,i2,i3,i4,i5,i6,i7,i8,i9,j0,j1,j2,j3,j4,j5,j6,j7,j8,j9,k0,k1,k2,k3,k4,k5,c4,c5,b0,k6,k7,k8,c6,c7,b1,f,g,i,k,l,m,n,o,p,q,r,c,d,b,s,t,u,w,x,y,z,A,B,C,D,E,F,G,H,I,J,K,L,M,N,P,Q,R,U,V,W,X]) S =
  (zS (wR zi BinOp.lss 3 a9 c3 S) (fun v0 S1=>some ([x0,x1,x2,x3,x4,x5,x6,x7,x8,x9,a1,Z,a2,b2,a4,b3,a5,a0,b4,a3,Y,b5,b6,b7,a6,c8,c9,d0,d1,d2,d3,b8,b9,a7,d4,d5,d6,d7,d8,d9,f0,f1,f2,f3,f4,f5,f6,f7,c0,c1,a8,f9,g0,g1,g2,g3,g4,g5,g6,c2,c3,a9,v0,g8,g9,i0,i1,i2,i3,i4,i5,i6,i7,i8,i9,j0,j1,j2,j3,j4,j5,j6,j7,j8,j9,k0,k1,k2,k3,k4,k5,c4,c5,b0,k6,k7,k8,c6,c7,b1,f,g,i,k,l,m,n,o,p,q,r,c,d,b,s,t,u,w,x,y,z,A,B,C,D,E,F,G,H,I,J,K,L,M,N,P,Q,R,U,V,W,X],S1)) ()):=by
 kernel_rfl
theorem zu.r20 :jd zi ⟨false,false,false⟩ (zO zi O) (reg Try.f8 20) (reg Try.f8 20).toList ([x0,x1,x2,x3,x4,x5,x6,x7,x8,x9,a1,Z,a2,b2,a4,b3,a5,a0,b4,a3,Y,b5,b6,b7,a6,c8,c9,d0,d1,d2,d3,b8,b9,a7,d4,d5,d6,d7,d8,d9,f0,f1,f2,f3,f4,f5,f6,f7,c0,c1,a8,f9,g0,g1,g2,g3,g4,g5,g6,c2,c3,a9,g7,g8,g9,i0,i1,i2,i3,i4,i5,i6,i7,i8,i9,j0,j1,j2,j3,j4,j5,j6,j7,j8,j9,k0,k1,k2,k3,k4,k5,c4,c5,b0,k6,k7,k8,c6,c7,b1,f,g,i,k,l,m,n,o,p,q,r,c,d,b,s,t,u,w,x,y,z,A,B,C,D,E,F,G,H,I,J,K,L,M,N,P,Q,R,U,V,W,X]) S =
  (zS (zV zi 38 c2 a9 S) (fun v0 S1=>zS (je zi false 3 v0 S1) (fun v1 S2=>some ([x0,x1,x2,x3,x4,x5,x6,x7,x8,x9,a1,Z,a2,b2,a4,b3,v1,a0,b4,a3,Y,b5,b6,b7,a6,c8,c9,d0,d1,d2,d3,b8,b9,a7,d4,d5,d6,d7,d8,d9,f0,f1,f2,f3,f4,f5,f6,f7,c0,c1,a8,f9,g0,g1,g2,g3,g4,g5,g6,c2,c3,a9,g7,v0,dem v1,i0,i1,i2,i3,i4,i5,i6,i7,i8,i9,j0,j1,j2,j3,j4,j5,j6,j7,j8,j9,k0,k1,k2,k3,k4,k5,c4,c5,b0,k6,k7,k8,c6,c7,b1,f,g,i,k,l,m,n,o,p,q,r,c,d,b,s,t,u,w,x,y,z,A,B,C,D,E,F,G,H,I,J,K,L,M,N,P,Q,R,U,V,W,X],S2)) ()) ()):=by
 kernel_rfl
theorem zu.r21 :jd zi ⟨false,false,false⟩ (zO zi O) (reg Try.f8 21) (reg Try.f8 21).toList ([x0,x1,x2,x3,x4,x5,x6,x7,x8,x9,a1,Z,a2,b2,a4,b3,a5,a0,b4,a3,Y,b5,b6,b7,a6,c8,c9,d0,d1,d2,d3,b8,b9,a7,d4,d5,d6,d7,d8,d9,f0,f1,f2,f3,f4,f5,f6,f7,c0,c1,a8,f9,g0,g1,g2,g3,g4,g5,g6,c2,c3,a9,g7,g8,g9,i0,i1,i2,i3,i4,i5,i6,i7,i8,i9,j0,j1,j2,j3,j4,j5,j6,j7,j8,j9,k0,k1,k2,k3,k4,k5,c4,c5,b0,k6,k7,k8,c6,c7,b1,f,g,i,k,l,m,n,o,p,q,r,c,d,b,s,t,u,w,x,y,z,A,B,C,D,E,F,G,H,I,J,K,L,M,N,P,Q,R,U,V,W,X]) S =
  (zS (zQ zi 30 a4 0 S) (fun v1 S1=>zS (je zi false 3 v1 S1) (fun v2 S2=>zS (wR zi BinOp.eql 3 (dem a5) v2 S2) (fun v3 S3=>some ([x0,x1,x2,x3,x4,x5,x6,x7,x8,x9,a1,Z,a2,b2,a4,b3,a5,a0,b4,a3,Y,b5,b6,b7,a6,c8,c9,d0,d1,d2,d3,b8,b9,a7,d4,d5,d6,d7,d8,d9,f0,f1,f2,f3,f4,f5,f6,f7,c0,c1,a8,f9,g0,g1,g2,g3,g4,g5,g6,c2,c3,a9,g7,g8,g9,dem a5,v1,v2,v3,i4,i5,i6,i7,i8,i9,j0,j1,j2,j3,j4,j5,j6,j7,j8,j9,k0,k1,k2,k3,k4,k5,c4,c5,b0,k6,k7,k8,c6,c7,b1,f,g,i,k,l,m,n,o,p,q,r,c,d,b,s,t,u,w,x,y,z,A,B,C,D,E,F,G,H,I,J,K,L,M,N,P,Q,R,U,V,W,X],S3)) ()) ()) ()):=by
 kernel_rfl
theorem zu.r22 :jd zi ⟨false,false,false⟩ (zO zi O) (reg Try.f8 22) (reg Try.f8 22).toList ([x0,x1,x2,x3,x4,x5,x6,x7,x8,x9,a1,Z,a2,b2,a4,b3,a5,a0,b4,a3,Y,b5,b6,b7,a6,c8,c9,d0,d1,d2,d3,b8,b9,a7,d4,d5,d6,d7,d8,d9,f0,f1,f2,f3,f4,f5,f6,f7,c0,c1,a8,f9,g0,g1,g2,g3,g4,g5,g6,c2,c3,a9,g7,g8,g9,i0,i1,i2,i3,i4,i5,i6,i7,i8,i9,j0,j1,j2,j3,j4,j5,j6,j7,j8,j9,k0,k1,k2,k3,k4,k5,c4,c5,b0,k6,k7,k8,c6,c7,b1,f,g,i,k,l,m,n,o,p,q,r,c,d,b,s,t,u,w,x,y,z,A,B,C,D,E,F,G,H,I,J,K,L,M,N,P,Q,R,U,V,W,X]) S =
  ( some ([x0,x1,x2,x3,x4,x5,Value.bool false,x7,x8,x9,a1,Z,a2,b2,a4,b3,a5,a0,b4,a3,Y,b5,b6,b7,a6,c8,c9,d0,d1,d2,d3,b8,b9,a7,d4,d5,d6,d7,d8,d9,f0,f1,f2,f3,f4,f5,f6,f7,c0,c1,a8,f9,g0,g1,g2,g3,g4,g5,g6,c2,c3,a9,g7,g8,g9,i0,i1,i2,i3,i4,i5,i6,i7,i8,i9,j0,j1,j2,j3,j4,j5,j6,j7,j8,j9,k0,k1,k2,k3,k4,k5,c4,c5,b0,k6,k7,k8,c6,c7,b1,f,g,i,k,l,m,n,o,p,q,r,c,d,b,s,t,u,w,x,y,z,A,B,C,D,E,F,G,H,I,J,K,L,M,N,P,Q,R,U,V,W,X],S)):=by
 kernel_rfl
theorem zu.r23 :jd zi ⟨false,false,false⟩ (zO zi O) (reg Try.f8 23) (reg Try.f8 23).toList ([x0,x1,x2,x3,x4,x5,x6,x7,x8,x9,a1,Z,a2,b2,a4,b3,a5,a0,b4,a3,Y,b5,b6,b7,a6,c8,c9,d0,d1,d2,d3,b8,b9,a7,d4,d5,d6,d7,d8,d9,f0,f1,f2,f3,f4,f5,f6,f7,c0,c1,a8,f9,g0,g1,g2,g3,g4,g5,g6,c2,c3,a9,g7,g8,g9,i0,i1,i2,i3,i4,i5,i6,i7,i8,i9,j0,j1,j2,j3,j4,j5,j6,j7,j8,j9,k0,k1,k2,k3,k4,k5,c4,c5,b0,k6,k7,k8,c6,c7,b1,f,g,i,k,l,m,n,o,p,q,r,c,d,b,s,t,u,w,x,y,z,A,B,C,D,E,F,G,H,I,J,K,L,M,N,P,Q,R,U,V,W,X]) S =
  (zS (wR zi BinOp.add 3 a9 (.int .i64 1) S) (fun v0 S1=>some ([x0,x1,x2,x3,x4,x5,x6,x7,x8,x9,a1,Z,a2,b2,a4,b3,a5,a0,b4,a3,Y,b5,b6,b7,a6,c8,c9,d0,d1,d2,d3,b8,b9,a7,d4,d5,d6,d7,d8,d9,f0,f1,f2,f3,f4,f5,f6,f7,c0,c1,a8,f9,g0,g1,g2,g3,g4,g5,g6,c2,c3,dem v0,g7,g8,g9,i0,i1,i2,i3,v0,i5,i6,i7,i8,i9,j0,j1,j2,j3,j4,j5,j6,j7,j8,j9,k0,k1,k2,k3,k4,k5,c4,c5,b0,k6,k7,k8,c6,c7,b1,f,g,i,k,l,m,n,o,p,q,r,c,d,b,s,t,u,w,x,y,z,A,B,C,D,E,F,G,H,I,J,K,L,M,N,P,Q,R,U,V,W,X],S1)) ()):=by
 kernel_rfl
theorem zu.r24 :jd zi ⟨false,false,false⟩ (zO zi O) (reg Try.f8 24) (reg Try.f8 24).toList ([x0,x1,x2,x3,x4,x5,x6,x7,x8,x9,a1,Z,a2,b2,a4,b3,a5,a0,b4,a3,Y,b5,b6,b7,a6,c8,c9,d0,d1,d2,d3,b8,b9,a7,d4,d5,d6,d7,d8,d9,f0,f1,f2,f3,f4,f5,f6,f7,c0,c1,a8,f9,g0,g1,g2,g3,g4,g5,g6,c2,c3,a9,g7,g8,g9,i0,i1,i2,i3,i4,i5,i6,i7,i8,i9,j0,j1,j2,j3,j4,j5,j6,j7,j8,j9,k0,k1,k2,k3,k4,k5,c4,c5,b0,k6,k7,k8,c6,c7,b1,f,g,i,k,l,m,n,o,p,q,r,c,d,b,s,t,u,w,x,y,z,A,B,C,D,E,F,G,H,I,J,K,L,M,N,P,Q,R,U,V,W,X]) S =
  (zS (wR zi BinOp.add 3 a8 (.int .i64 1) S) (fun v0 S1=>some ([x0,x1,x2,x3,x4,x5,x6,x7,x8,x9,a1,Z,a2,b2,a4,b3,a5,a0,b4,a3,Y,b5,b6,b7,a6,c8,c9,d0,d1,d2,d3,b8,b9,a7,d4,d5,d6,d7,d8,d9,f0,f1,f2,f3,f4,f5,f6,f7,c0,c1,dem v0,f9,g0,g1,g2,g3,g4,g5,g6,c2,c3,a9,g7,g8,g9,i0,i1,i2,i3,i4,v0,i6,i7,i8,i9,j0,j1,j2,j3,j4,j5,j6,j7,j8,j9,k0,k1,k2,k3,k4,k5,c4,c5,b0,k6,k7,k8,c6,c7,b1,f,g,i,k,l,m,n,o,p,q,r,c,d,b,s,t,u,w,x,y,z,A,B,C,D,E,F,G,H,I,J,K,L,M,N,P,Q,R,U,V,W,X],S1)) ()):=by
 kernel_rfl
theorem zu.r25 :jd zi ⟨false,false,false⟩ (zO zi O) (reg Try.f8 25) (reg Try.f8 25).toList ([x0,x1,x2,x3,x4,x5,x6,x7,x8,x9,a1,Z,a2,b2,a4,b3,a5,a0,b4,a3,Y,b5,b6,b7,a6,c8,c9,d0,d1,d2,d3,b8,b9,a7,d4,d5,d6,d7,d8,d9,f0,f1,f2,f3,f4,f5,f6,f7,c0,c1,a8,f9,g0,g1,g2,g3,g4,g5,g6,c2,c3,a9,g7,g8,g9,i0,i1,i2,i3,i4,i5,i6,i7,i8,i9,j0,j1,j2,j3,j4,j5,j6,j7,j8,j9,k0,k1,k2,k3,k4,k5,c4,c5,b0,k6,k7,k8,c6,c7,b1,f,g,i,k,l,m,n,o,p,q,r,c,d,b,s,t,u,w,x,y,z,A,B,C,D,E,F,G,H,I,J,K,L,M,N,P,Q,R,U,V,W,X]) S =
  (zS ((zO zi O) 17 [(dem (dem x7)),(dem (dem a2))] S) (fun v2 S1=>some ([x0,x1,x2,x3,x4,x5,x6,x7,x8,x9,a1,Z,a2,b2,a4,b3,a5,a0,b4,a3,Y,b5,b6,b7,a6,c8,c9,d0,d1,d2,d3,b8,b9,a7,d4,d5,d6,d7,d8,d9,f0,f1,f2,f3,f4,f5,f6,f7,c0,c1,a8,f9,g0,g1,g2,g3,g4,g5,g6,c2,c3,a9,g7,g8,g9,i0,i1,i2,i3,i4,i5,dem x7,dem a2,v2,i9,j0,j1,j2,j3,j4,j5,j6,j7,j8,j9,k0,k1,k2,k3,k4,k5,c4,c5,b0,k6,k7,k8,c6,c7,b1,f,g,i,k,l,m,n,o,p,q,r,c,d,b,s,t,u,w,x,y,z,A,B,C,D,E,F,G,H,I,J,K,L,M,N,P,Q,R,U,V,W,X],S1)) ()):=by
 kernel_rfl
theorem zu.r26 :jd zi ⟨false,false,false⟩ (zO zi O) (reg Try.f8 26) (reg Try.f8 26).toList ([x0,x1,x2,x3,x4,x5,x6,x7,x8,x9,a1,Z,a2,b2,a4,b3,a5,a0,b4,a3,Y,b5,b6,b7,a6,c8,c9,d0,d1,d2,d3,b8,b9,a7,d4,d5,d6,d7,d8,d9,f0,f1,f2,f3,f4,f5,f6,f7,c0,c1,a8,f9,g0,g1,g2,g3,g4,g5,g6,c2,c3,a9,g7,g8,g9,i0,i1,i2,i3,i4,i5,i6,i7,i8,i9,j0,j1,j2,j3,j4,j5,j6,j7,j8,j9,k0,k1,k2,k3,k4,k5,c4,c5,b0,k6,k7,k8,c6,c7,b1,f,g,i,k,l,m,n,o,p,q,r,c,d,b,s,t,u,w,x,y,z,A,B,C,D,E,F,G,H,I,J,K,L,M,N,P,Q,R,U,V,W,X]) S =
  (zS ((zO zi O) 11 [(dem (dem x7))] S) (fun v1 S1=>some ([x0,x1,x2,x3,x4,x5,x6,x7,x8,x9,a1,Z,a2,b2,a4,b3,a5,v1,b4,a3,Y,b5,b6,b7,a6,c8,c9,d0,d1,d2,d3,b8,b9,a7,d4,d5,d6,d7,d8,d9,f0,f1,f2,f3,f4,f5,f6,f7,c0,c1,a8,f9,g0,g1,g2,g3,g4,g5,g6,c2,c3,a9,g7,g8,g9,i0,i1,i2,i3,i4,i5,i6,i7,i8,dem x7,dem v1,j1,j2,j3,j4,j5,j6,j7,j8,j9,k0,k1,k2,k3,k4,k5,c4,c5,b0,k6,k7,k8,c6,c7,b1,f,g,i,k,l,m,n,o,p,q,r,c,d,b,s,t,u,w,x,y,z,A,B,C,D,E,F,G,H,I,J,K,L,M,N,P,Q,R,U,V,W,X],S1)) ()):=by
 kernel_rfl
theorem zu.r27 :jd zi ⟨false,false,false⟩ (zO zi O) (reg Try.f8 27) (reg Try.f8 27).toList ([x0,x1,x2,x3,x4,x5,x6,x7,x8,x9,a1,Z,a2,b2,a4,b3,a5,a0,b4,a3,Y,b5,b6,b7,a6,c8,c9,d0,d1,d2,d3,b8,b9,a7,d4,d5,d6,d7,d8,d9,f0,f1,f2,f3,f4,f5,f6,f7,c0,c1,a8,f9,g0,g1,g2,g3,g4,g5,g6,c2,c3,a9,g7,g8,g9,i0,i1,i2,i3,i4,i5,i6,i7,i8,i9,j0,j1,j2,j3,j4,j5,j6,j7,j8,j9,k0,k1,k2,k3,k4,k5,c4,c5,b0,k6,k7,k8,c6,c7,b1,f,g,i,k,l,m,n,o,p,q,r,c,d,b,s,t,u,w,x,y,z,A,B,C,D,E,F,G,H,I,J,K,L,M,N,P,Q,R,U,V,W,X]) S =
  (zS (kP zi 23 (dem Z) S) (fun v1 S1=>zS (kP zi 23 (dem a0) S1) (fun v3 S2=>zS (wR zi BinOp.add 3 v1 v3 S2) (fun v4 S3=>zS (kP zi 23 (dem a1) S3) (fun v6 S4=>zS (wR zi BinOp.neq 3 v4 v6 S4) (fun v7 S5=>gdK (dem v7) false (ret Z) S5 (fun v9 S6=>gdK (dem v7) false (kP zi 23 (dem v9)) S6 (fun k9 S7=>gdK (dem v7) false (ret x1) S7 (fun l0 S8=>gdK (dem v7) false (kE zi false Builtin.max #[3,3] 3 [(.int .i64 0),(dem l0)]) S8 (fun l1 S9=>gdK (dem v7) false (wR zi BinOp.gtr 3 k9 l1) S9 (fun l2 l3=>zS (kW (dem v7) (Value.bool true) l2 l3) (fun l4 l5=>some ([x0,x1,x2,x3,x4,x5,x6,x7,x8,x9,a1,Z,a2,b2,a4,b3,a5,a0,b4,a3,Y,b5,b6,b7,a6,c8,c9,d0,d1,d2,d3,b8,b9,a7,d4,d5,d6,d7,d8,d9,f0,f1,f2,f3,f4,f5,f6,f7,c0,c1,a8,f9,g0,g1,g2,g3,g4,g5,g6,c2,c3,a9,g7,g8,g9,i0,i1,i2,i3,i4,i5,i6,i7,i8,i9,j0,dem Z,v1,dem a0,v3,v4,dem a1,v6,v7,dem v7,dem v9,k9,dem l0,l1,l2,l4,c4,c5,b0,k6,k7,k8,c6,c7,b1,f,g,i,k,l,m,n,o,p,q,r,c,d,b,s,t,u,w,x,y,z,A,B,C,D,E,F,G,H,I,J,K,L,M,N,P,Q,R,U,V,W,X],l5)) ()) ()) ()) ()) ()) ()) ()) ()) ()) ()) ()):=by
 refine sP Try.f8 27 0 (v:=Z) ?_
 refine sD Try.f8 27 1 (fun v1 S1=>?_)
 refine sP Try.f8 27 2 (v:=a0) ?_
 refine sD Try.f8 27 3 (fun v3 S2=>?_)
 refine sD Try.f8 27 4 (fun v4 S3=>?_)
 refine sP Try.f8 27 5 (v:=a1) ?_
 refine sD Try.f8 27 6 (fun v6 S4=>?_)
 refine sD Try.f8 27 7 (fun v7 S5=>?_)
 refine sP Try.f8 27 8 (v:=v7) ?_
 refine sG Try.f8 27 9 (j:=8) (fun v9 S6=>?_)
 refine sG Try.f8 27 10 (j:=8) (fun k9 S7=>?_)
 refine sG Try.f8 27 11 (j:=8) (fun l0 S8=>?_)
 refine sG Try.f8 27 12 (j:=8) (fun l1 S9=>?_)
 refine sG Try.f8 27 13 (j:=8) (fun l2 l3=>?_)
 refine sD Try.f8 27 14 (fun l4 l5=>?_)
 kernel_rfl
theorem zu.r28 :jd zi ⟨false,false,false⟩ (zO zi O) (reg Try.f8 28) (reg Try.f8 28).toList ([x0,x1,x2,x3,x4,x5,x6,x7,x8,x9,a1,Z,a2,b2,a4,b3,a5,a0,b4,a3,Y,b5,b6,b7,a6,c8,c9,d0,d1,d2,d3,b8,b9,a7,d4,d5,d6,d7,d8,d9,f0,f1,f2,f3,f4,f5,f6,f7,c0,c1,a8,f9,g0,g1,g2,g3,g4,g5,g6,c2,c3,a9,g7,g8,g9,i0,i1,i2,i3,i4,i5,i6,i7,i8,i9,j0,j1,j2,j3,j4,j5,j6,j7,j8,j9,k0,k1,k2,k3,k4,k5,c4,c5,b0,k6,k7,k8,c6,c7,b1,f,g,i,k,l,m,n,o,p,q,r,c,d,b,s,t,u,w,x,y,z,A,B,C,D,E,F,G,H,I,J,K,L,M,N,P,Q,R,U,V,W,X]) S =
  ( some ([x0,x1,x2,x3,x4,x5,Value.bool false,x7,x8,x9,a1,Z,a2,b2,a4,b3,a5,a0,b4,a3,Y,b5,b6,b7,a6,c8,c9,d0,d1,d2,d3,b8,b9,a7,d4,d5,d6,d7,d8,d9,f0,f1,f2,f3,f4,f5,f6,f7,c0,c1,a8,f9,g0,g1,g2,g3,g4,g5,g6,c2,c3,a9,g7,g8,g9,i0,i1,i2,i3,i4,i5,i6,i7,i8,i9,j0,j1,j2,j3,j4,j5,j6,j7,j8,j9,k0,k1,k2,k3,k4,k5,c4,c5,b0,k6,k7,k8,c6,c7,b1,f,g,i,k,l,m,n,o,p,q,r,c,d,b,s,t,u,w,x,y,z,A,B,C,D,E,F,G,H,I,J,K,L,M,N,P,Q,R,U,V,W,X],S)):=by
 kernel_rfl
theorem zu.r29 :jd zi ⟨false,false,false⟩ (zO zi O) (reg Try.f8 29) (reg Try.f8 29).toList ([x0,x1,x2,x3,x4,x5,x6,x7,x8,x9,a1,Z,a2,b2,a4,b3,a5,a0,b4,a3,Y,b5,b6,b7,a6,c8,c9,d0,d1,d2,d3,b8,b9,a7,d4,d5,d6,d7,d8,d9,f0,f1,f2,f3,f4,f5,f6,f7,c0,c1,a8,f9,g0,g1,g2,g3,g4,g5,g6,c2,c3,a9,g7,g8,g9,i0,i1,i2,i3,i4,i5,i6,i7,i8,i9,j0,j1,j2,j3,j4,j5,j6,j7,j8,j9,k0,k1,k2,k3,k4,k5,c4,c5,b0,k6,k7,k8,c6,c7,b1,f,g,i,k,l,m,n,o,p,q,r,c,d,b,s,t,u,w,x,y,z,A,B,C,D,E,F,G,H,I,J,K,L,M,N,P,Q,R,U,V,W,X]) S =
  (zS (kP zi 23 (dem a0) S) (fun v1 S1=>some ([x0,x1,x2,x3,x4,x5,x6,x7,x8,x9,a1,Z,a2,b2,a4,b3,a5,a0,b4,a3,Y,b5,b6,b7,a6,c8,c9,d0,d1,d2,d3,b8,b9,a7,d4,d5,d6,d7,d8,d9,f0,f1,f2,f3,f4,f5,f6,f7,c0,c1,a8,f9,g0,g1,g2,g3,g4,g5,g6,c2,c3,a9,g7,g8,g9,i0,i1,i2,i3,i4,i5,i6,i7,i8,i9,j0,j1,j2,j3,j4,j5,j6,j7,j8,j9,k0,k1,k2,k3,k4,k5,dem a0,v1,.int .i64 0,k6,k7,k8,c6,c7,b1,f,g,i,k,l,m,n,o,p,q,r,c,d,b,s,t,u,w,x,y,z,A,B,C,D,E,F,G,H,I,J,K,L,M,N,P,Q,R,U,V,W,X],S1)) ()):=by
 kernel_rfl
theorem zu.r30 :jd zi ⟨false,false,false⟩ (zO zi O) (reg Try.f8 30) (reg Try.f8 30).toList ([x0,x1,x2,x3,x4,x5,x6,x7,x8,x9,a1,Z,a2,b2,a4,b3,a5,a0,b4,a3,Y,b5,b6,b7,a6,c8,c9,d0,d1,d2,d3,b8,b9,a7,d4,d5,d6,d7,d8,d9,f0,f1,f2,f3,f4,f5,f6,f7,c0,c1,a8,f9,g0,g1,g2,g3,g4,g5,g6,c2,c3,a9,g7,g8,g9,i0,i1,i2,i3,i4,i5,i6,i7,i8,i9,j0,j1,j2,j3,j4,j5,j6,j7,j8,j9,k0,k1,k2,k3,k4,k5,c4,c5,b0,k6,k7,k8,c6,c7,b1,f,g,i,k,l,m,n,o,p,q,r,c,d,b,s,t,u,w,x,y,z,A,B,C,D,E,F,G,H,I,J,K,L,M,N,P,Q,R,U,V,W,X]) S =
  (zS (wR zi BinOp.lss 3 b0 c5 S) (fun v0 S1=>some ([x0,x1,x2,x3,x4,x5,x6,x7,x8,x9,a1,Z,a2,b2,a4,b3,a5,a0,b4,a3,Y,b5,b6,b7,a6,c8,c9,d0,d1,d2,d3,b8,b9,a7,d4,d5,d6,d7,d8,d9,f0,f1,f2,f3,f4,f5,f6,f7,c0,c1,a8,f9,g0,g1,g2,g3,g4,g5,g6,c2,c3,a9,g7,g8,g9,i0,i1,i2,i3,i4,i5,i6,i7,i8,i9,j0,j1,j2,j3,j4,j5,j6,j7,j8,j9,k0,k1,k2,k3,k4,k5,c4,c5,b0,v0,k7,k8,c6,c7,b1,f,g,i,k,l,m,n,o,p,q,r,c,d,b,s,t,u,w,x,y,z,A,B,C,D,E,F,G,H,I,J,K,L,M,N,P,Q,R,U,V,W,X],S1)) ()):=by
 kernel_rfl
theorem zu.r31 :jd zi ⟨false,false,false⟩ (zO zi O) (reg Try.f8 31) (reg Try.f8 31).toList ([x0,x1,x2,x3,x4,x5,x6,x7,x8,x9,a1,Z,a2,b2,a4,b3,a5,a0,b4,a3,Y,b5,b6,b7,a6,c8,c9,d0,d1,d2,d3,b8,b9,a7,d4,d5,d6,d7,d8,d9,f0,f1,f2,f3,f4,f5,f6,f7,c0,c1,a8,f9,g0,g1,g2,g3,g4,g5,g6,c2,c3,a9,g7,g8,g9,i0,i1,i2,i3,i4,i5,i6,i7,i8,i9,j0,j1,j2,j3,j4,j5,j6,j7,j8,j9,k0,k1,k2,k3,k4,k5,c4,c5,b0,k6,k7,k8,c6,c7,b1,f,g,i,k,l,m,n,o,p,q,r,c,d,b,s,t,u,w,x,y,z,A,B,C,D,E,F,G,H,I,J,K,L,M,N,P,Q,R,U,V,W,X]) S =
  (zS (zV zi 23 c4 b0 S) (fun v0 S1=>zS (je zi false 30 v0 S1) (fun v1 S2=>zS (qw zi 30 S2) (fun v2 S3=>zS (qm zi 30 v2 (dem v1) S3) (fun v3 S4=>some ([x0,x1,x2,x3,x4,x5,x6,x7,x8,x9,a1,Z,a2,b2,a4,b3,a5,a0,b4,v2,Y,b5,b6,b7,a6,c8,c9,d0,d1,d2,d3,b8,b9,a7,d4,d5,d6,d7,d8,d9,f0,f1,f2,f3,f4,f5,f6,f7,c0,c1,a8,f9,g0,g1,g2,g3,g4,g5,g6,c2,c3,a9,g7,g8,g9,i0,i1,i2,i3,i4,i5,i6,i7,i8,i9,j0,j1,j2,j3,j4,j5,j6,j7,j8,j9,k0,k1,k2,k3,k4,k5,c4,c5,b0,k6,v0,v1,c6,c7,b1,f,g,i,k,l,m,n,o,p,q,r,c,d,b,s,t,u,w,x,y,z,A,B,C,D,E,F,G,H,I,J,K,L,M,N,P,Q,R,U,V,W,X],S4)) ()) ()) ()) ()):=by
 kernel_rfl
theorem zu.r32 :jd zi ⟨false,false,false⟩ (zO zi O) (reg Try.f8 32) (reg Try.f8 32).toList ([x0,x1,x2,x3,x4,x5,x6,x7,x8,x9,a1,Z,a2,b2,a4,b3,a5,a0,b4,a3,Y,b5,b6,b7,a6,c8,c9,d0,d1,d2,d3,b8,b9,a7,d4,d5,d6,d7,d8,d9,f0,f1,f2,f3,f4,f5,f6,f7,c0,c1,a8,f9,g0,g1,g2,g3,g4,g5,g6,c2,c3,a9,g7,g8,g9,i0,i1,i2,i3,i4,i5,i6,i7,i8,i9,j0,j1,j2,j3,j4,j5,j6,j7,j8,j9,k0,k1,k2,k3,k4,k5,c4,c5,b0,k6,k7,k8,c6,c7,b1,f,g,i,k,l,m,n,o,p,q,r,c,d,b,s,t,u,w,x,y,z,A,B,C,D,E,F,G,H,I,J,K,L,M,N,P,Q,R,U,V,W,X]) S =
  ( some ([x0,x1,x2,x3,x4,x5,x6,x7,x8,x9,a1,Z,a2,b2,a4,b3,a5,a0,b4,a3,Value.bool false,b5,b6,b7,a6,c8,c9,d0,d1,d2,d3,b8,b9,a7,d4,d5,d6,d7,d8,d9,f0,f1,f2,f3,f4,f5,f6,f7,c0,c1,a8,f9,g0,g1,g2,g3,g4,g5,g6,c2,c3,a9,g7,g8,g9,i0,i1,i2,i3,i4,i5,i6,i7,i8,i9,j0,j1,j2,j3,j4,j5,j6,j7,j8,j9,k0,k1,k2,k3,k4,k5,c4,c5,b0,k6,k7,k8,c6,c7,b1,f,g,i,k,l,m,n,o,p,q,r,c,d,b,s,t,u,w,x,y,z,A,B,C,D,E,F,G,H,I,J,K,L,M,N,P,Q,R,U,V,W,X],S)):=by
 kernel_rfl
theorem zu.r33 :jd zi ⟨false,false,false⟩ (zO zi O) (reg Try.f8 33) (reg Try.f8 33).toList ([x0,x1,x2,x3,x4,x5,x6,x7,x8,x9,a1,Z,a2,b2,a4,b3,a5,a0,b4,a3,Y,b5,b6,b7,a6,c8,c9,d0,d1,d2,d3,b8,b9,a7,d4,d5,d6,d7,d8,d9,f0,f1,f2,f3,f4,f5,f6,f7,c0,c1,a8,f9,g0,g1,g2,g3,g4,g5,g6,c2,c3,a9,g7,g8,g9,i0,i1,i2,i3,i4,i5,i6,i7,i8,i9,j0,j1,j2,j3,j4,j5,j6,j7,j8,j9,k0,k1,k2,k3,k4,k5,c4,c5,b0,k6,k7,k8,c6,c7,b1,f,g,i,k,l,m,n,o,p,q,r,c,d,b,s,t,u,w,x,y,z,A,B,C,D,E,F,G,H,I,J,K,L,M,N,P,Q,R,U,V,W,X]) S =
  (zS (kP zi 38 (dem x2) S) (fun v1 S1=>some ([x0,x1,x2,x3,x4,x5,x6,x7,x8,x9,a1,Z,a2,b2,a4,b3,a5,a0,b4,a3,Y,b5,b6,b7,a6,c8,c9,d0,d1,d2,d3,b8,b9,a7,d4,d5,d6,d7,d8,d9,f0,f1,f2,f3,f4,f5,f6,f7,c0,c1,a8,f9,g0,g1,g2,g3,g4,g5,g6,c2,c3,a9,g7,g8,g9,i0,i1,i2,i3,i4,i5,i6,i7,i8,i9,j0,j1,j2,j3,j4,j5,j6,j7,j8,j9,k0,k1,k2,k3,k4,k5,c4,c5,b0,k6,k7,k8,dem x2,v1,.int .i64 0,f,g,i,k,l,m,n,o,p,q,r,c,d,b,s,t,u,w,x,y,z,A,B,C,D,E,F,G,H,I,J,K,L,M,N,P,Q,R,U,V,W,X],S1)) ()):=by
 kernel_rfl
theorem zu.r34 :jd zi ⟨false,false,false⟩ (zO zi O) (reg Try.f8 34) (reg Try.f8 34).toList ([x0,x1,x2,x3,x4,x5,x6,x7,x8,x9,a1,Z,a2,b2,a4,b3,a5,a0,b4,a3,Y,b5,b6,b7,a6,c8,c9,d0,d1,d2,d3,b8,b9,a7,d4,d5,d6,d7,d8,d9,f0,f1,f2,f3,f4,f5,f6,f7,c0,c1,a8,f9,g0,g1,g2,g3,g4,g5,g6,c2,c3,a9,g7,g8,g9,i0,i1,i2,i3,i4,i5,i6,i7,i8,i9,j0,j1,j2,j3,j4,j5,j6,j7,j8,j9,k0,k1,k2,k3,k4,k5,c4,c5,b0,k6,k7,k8,c6,c7,b1,f,g,i,k,l,m,n,o,p,q,r,c,d,b,s,t,u,w,x,y,z,A,B,C,D,E,F,G,H,I,J,K,L,M,N,P,Q,R,U,V,W,X]) S =
  (zS (wR zi BinOp.lss 3 b1 c7 S) (fun v0 S1=>some ([x0,x1,x2,x3,x4,x5,x6,x7,x8,x9,a1,Z,a2,b2,a4,b3,a5,a0,b4,a3,Y,b5,b6,b7,a6,c8,c9,d0,d1,d2,d3,b8,b9,a7,d4,d5,d6,d7,d8,d9,f0,f1,f2,f3,f4,f5,f6,f7,c0,c1,a8,f9,g0,g1,g2,g3,g4,g5,g6,c2,c3,a9,g7,g8,g9,i0,i1,i2,i3,i4,i5,i6,i7,i8,i9,j0,j1,j2,j3,j4,j5,j6,j7,j8,j9,k0,k1,k2,k3,k4,k5,c4,c5,b0,k6,k7,k8,c6,c7,b1,v0,g,i,k,l,m,n,o,p,q,r,c,d,b,s,t,u,w,x,y,z,A,B,C,D,E,F,G,H,I,J,K,L,M,N,P,Q,R,U,V,W,X],S1)) ()):=by
 kernel_rfl
theorem zu.r35 :jd zi ⟨false,false,false⟩ (zO zi O) (reg Try.f8 35) (reg Try.f8 35).toList ([x0,x1,x2,x3,x4,x5,x6,x7,x8,x9,a1,Z,a2,b2,a4,b3,a5,a0,b4,a3,Y,b5,b6,b7,a6,c8,c9,d0,d1,d2,d3,b8,b9,a7,d4,d5,d6,d7,d8,d9,f0,f1,f2,f3,f4,f5,f6,f7,c0,c1,a8,f9,g0,g1,g2,g3,g4,g5,g6,c2,c3,a9,g7,g8,g9,i0,i1,i2,i3,i4,i5,i6,i7,i8,i9,j0,j1,j2,j3,j4,j5,j6,j7,j8,j9,k0,k1,k2,k3,k4,k5,c4,c5,b0,k6,k7,k8,c6,c7,b1,f,g,i,k,l,m,n,o,p,q,r,c,d,b,s,t,u,w,x,y,z,A,B,C,D,E,F,G,H,I,J,K,L,M,N,P,Q,R,U,V,W,X]) S =
  (zS (zV zi 38 c6 b1 S) (fun v0 S1=>zS (je zi false 3 v0 S1) (fun v1 S2=>some ([x0,x1,x2,x3,x4,x5,x6,x7,x8,x9,a1,Z,a2,b2,a4,b3,a5,a0,b4,a3,Y,b5,v1,b7,a6,c8,c9,d0,d1,d2,d3,b8,b9,a7,d4,d5,d6,d7,d8,d9,f0,f1,f2,f3,f4,f5,f6,f7,c0,c1,a8,f9,g0,g1,g2,g3,g4,g5,g6,c2,c3,a9,g7,g8,g9,i0,i1,i2,i3,i4,i5,i6,i7,i8,i9,j0,j1,j2,j3,j4,j5,j6,j7,j8,j9,k0,k1,k2,k3,k4,k5,c4,c5,b0,k6,k7,k8,c6,c7,b1,f,v0,dem v1,k,l,m,n,o,p,q,r,c,d,b,s,t,u,w,x,y,z,A,B,C,D,E,F,G,H,I,J,K,L,M,N,P,Q,R,U,V,W,X],S2)) ()) ()):=by
 kernel_rfl
theorem zu.r36 :jd zi ⟨false,false,false⟩ (zO zi O) (reg Try.f8 36) (reg Try.f8 36).toList ([x0,x1,x2,x3,x4,x5,x6,x7,x8,x9,a1,Z,a2,b2,a4,b3,a5,a0,b4,a3,Y,b5,b6,b7,a6,c8,c9,d0,d1,d2,d3,b8,b9,a7,d4,d5,d6,d7,d8,d9,f0,f1,f2,f3,f4,f5,f6,f7,c0,c1,a8,f9,g0,g1,g2,g3,g4,g5,g6,c2,c3,a9,g7,g8,g9,i0,i1,i2,i3,i4,i5,i6,i7,i8,i9,j0,j1,j2,j3,j4,j5,j6,j7,j8,j9,k0,k1,k2,k3,k4,k5,c4,c5,b0,k6,k7,k8,c6,c7,b1,f,g,i,k,l,m,n,o,p,q,r,c,d,b,s,t,u,w,x,y,z,A,B,C,D,E,F,G,H,I,J,K,L,M,N,P,Q,R,U,V,W,X]) S =
  (gdK (dem Y) false (ret b6) S (fun v2 S1=>gdK (dem Y) false (zQ zi 30 a3 0) S1 (fun v3 S2=>gdK (dem Y) false (je zi false 3 v3) S2 (fun v4 S3=>gdK (dem Y) false (wR zi BinOp.eql 3 (dem v2) v4) S3 (fun v5 S4=>zS (kW (dem Y) (Value.bool true) v5 S4) (fun v6 S5=>some ([x0,x1,x2,x3,x4,x5,x6,x7,x8,x9,a1,Z,a2,b2,a4,b3,a5,a0,b4,a3,v6,b5,b6,b7,a6,c8,c9,d0,d1,d2,d3,b8,b9,a7,d4,d5,d6,d7,d8,d9,f0,f1,f2,f3,f4,f5,f6,f7,c0,c1,a8,f9,g0,g1,g2,g3,g4,g5,g6,c2,c3,a9,g7,g8,g9,i0,i1,i2,i3,i4,i5,i6,i7,i8,i9,j0,j1,j2,j3,j4,j5,j6,j7,j8,j9,k0,k1,k2,k3,k4,k5,c4,c5,b0,k6,k7,k8,c6,c7,b1,f,g,i,Y,dem Y,dem v2,v3,v4,v5,dem v6,r,c,d,b,s,t,u,w,x,y,z,A,B,C,D,E,F,G,H,I,J,K,L,M,N,P,Q,R,U,V,W,X],S5)) ()) ()) ()) ()) ()):=by
 refine sP Try.f8 36 0 (v:=Y) ?_
 refine sP Try.f8 36 1 (v:=Y) ?_
 refine sG Try.f8 36 2 (j:=1) (fun v2 S1=>?_)
 refine sG Try.f8 36 3 (j:=1) (fun v3 S2=>?_)
 refine sG Try.f8 36 4 (j:=1) (fun v4 S3=>?_)
 refine sG Try.f8 36 5 (j:=1) (fun v5 S4=>?_)
 refine sD Try.f8 36 6 (fun v6 S5=>?_)
 refine sP Try.f8 36 7 (v:=v6) ?_
 kernel_rfl
theorem zu.r37 :jd zi ⟨false,false,false⟩ (zO zi O) (reg Try.f8 37) (reg Try.f8 37).toList ([x0,x1,x2,x3,x4,x5,x6,x7,x8,x9,a1,Z,a2,b2,a4,b3,a5,a0,b4,a3,Y,b5,b6,b7,a6,c8,c9,d0,d1,d2,d3,b8,b9,a7,d4,d5,d6,d7,d8,d9,f0,f1,f2,f3,f4,f5,f6,f7,c0,c1,a8,f9,g0,g1,g2,g3,g4,g5,g6,c2,c3,a9,g7,g8,g9,i0,i1,i2,i3,i4,i5,i6,i7,i8,i9,j0,j1,j2,j3,j4,j5,j6,j7,j8,j9,k0,k1,k2,k3,k4,k5,c4,c5,b0,k6,k7,k8,c6,c7,b1,f,g,i,k,l,m,n,o,p,q,r,c,d,b,s,t,u,w,x,y,z,A,B,C,D,E,F,G,H,I,J,K,L,M,N,P,Q,R,U,V,W,X]) S =
  (zS (wR zi BinOp.add 3 b1 (.int .i64 1) S) (fun v0 S1=>some ([x0,x1,x2,x3,x4,x5,x6,x7,x8,x9,a1,Z,a2,b2,a4,b3,a5,a0,b4,a3,Y,b5,b6,b7,a6,c8,c9,d0,d1,d2,d3,b8,b9,a7,d4,d5,d6,d7,d8,d9,f0,f1,f2,f3,f4,f5,f6,f7,c0,c1,a8,f9,g0,g1,g2,g3,g4,g5,g6,c2,c3,a9,g7,g8,g9,i0,i1,i2,i3,i4,i5,i6,i7,i8,i9,j0,j1,j2,j3,j4,j5,j6,j7,j8,j9,k0,k1,k2,k3,k4,k5,c4,c5,b0,k6,k7,k8,c6,c7,dem v0,f,g,i,k,l,m,n,o,p,q,v0,c,d,b,s,t,u,w,x,y,z,A,B,C,D,E,F,G,H,I,J,K,L,M,N,P,Q,R,U,V,W,X],S1)) ()):=by
 kernel_rfl
theorem zu.r38 :jd zi ⟨false,false,false⟩ (zO zi O) (reg Try.f8 38) (reg Try.f8 38).toList ([x0,x1,x2,x3,x4,x5,x6,x7,x8,x9,a1,Z,a2,b2,a4,b3,a5,a0,b4,a3,Y,b5,b6,b7,a6,c8,c9,d0,d1,d2,d3,b8,b9,a7,d4,d5,d6,d7,d8,d9,f0,f1,f2,f3,f4,f5,f6,f7,c0,c1,a8,f9,g0,g1,g2,g3,g4,g5,g6,c2,c3,a9,g7,g8,g9,i0,i1,i2,i3,i4,i5,i6,i7,i8,i9,j0,j1,j2,j3,j4,j5,j6,j7,j8,j9,k0,k1,k2,k3,k4,k5,c4,c5,b0,k6,k7,k8,c6,c7,b1,f,g,i,k,l,m,n,o,p,q,r,c,d,b,s,t,u,w,x,y,z,A,B,C,D,E,F,G,H,I,J,K,L,M,N,P,Q,R,U,V,W,X]) S =
  (zS (kP zi 23 (dem Z) S) (fun v1 S1=>some ([x0,x1,x2,x3,x4,x5,x6,x7,x8,x9,a1,Z,a2,b2,a4,b3,a5,a0,b4,a3,Y,b5,b6,b7,a6,c8,c9,d0,d1,d2,d3,b8,b9,a7,d4,d5,d6,d7,d8,d9,f0,f1,f2,f3,f4,f5,f6,f7,c0,c1,a8,f9,g0,g1,g2,g3,g4,g5,g6,c2,c3,a9,g7,g8,g9,i0,i1,i2,i3,i4,i5,i6,i7,i8,i9,j0,j1,j2,j3,j4,j5,j6,j7,j8,j9,k0,k1,k2,k3,k4,k5,c4,c5,b0,k6,k7,k8,c6,c7,b1,f,g,i,k,l,m,n,o,p,q,r,dem Z,v1,.int .i64 0,s,t,u,w,x,y,z,A,B,C,D,E,F,G,H,I,J,K,L,M,N,P,Q,R,U,V,W,X],S1)) ()):=by
 kernel_rfl
theorem zu.r39 :jd zi ⟨false,false,false⟩ (zO zi O) (reg Try.f8 39) (reg Try.f8 39).toList ([x0,x1,x2,x3,x4,x5,x6,x7,x8,x9,a1,Z,a2,b2,a4,b3,a5,a0,b4,a3,Y,b5,b6,b7,a6,c8,c9,d0,d1,d2,d3,b8,b9,a7,d4,d5,d6,d7,d8,d9,f0,f1,f2,f3,f4,f5,f6,f7,c0,c1,a8,f9,g0,g1,g2,g3,g4,g5,g6,c2,c3,a9,g7,g8,g9,i0,i1,i2,i3,i4,i5,i6,i7,i8,i9,j0,j1,j2,j3,j4,j5,j6,j7,j8,j9,k0,k1,k2,k3,k4,k5,c4,c5,b0,k6,k7,k8,c6,c7,b1,f,g,i,k,l,m,n,o,p,q,r,c,d,b,s,t,u,w,x,y,z,A,B,C,D,E,F,G,H,I,J,K,L,M,N,P,Q,R,U,V,W,X]) S =
  (zS (wR zi BinOp.lss 3 b d S) (fun v0 S1=>some ([x0,x1,x2,x3,x4,x5,x6,x7,x8,x9,a1,Z,a2,b2,a4,b3,a5,a0,b4,a3,Y,b5,b6,b7,a6,c8,c9,d0,d1,d2,d3,b8,b9,a7,d4,d5,d6,d7,d8,d9,f0,f1,f2,f3,f4,f5,f6,f7,c0,c1,a8,f9,g0,g1,g2,g3,g4,g5,g6,c2,c3,a9,g7,g8,g9,i0,i1,i2,i3,i4,i5,i6,i7,i8,i9,j0,j1,j2,j3,j4,j5,j6,j7,j8,j9,k0,k1,k2,k3,k4,k5,c4,c5,b0,k6,k7,k8,c6,c7,b1,f,g,i,k,l,m,n,o,p,q,r,c,d,b,v0,t,u,w,x,y,z,A,B,C,D,E,F,G,H,I,J,K,L,M,N,P,Q,R,U,V,W,X],S1)) ()):=by
 kernel_rfl
theorem zu.r40 :jd zi ⟨false,false,false⟩ (zO zi O) (reg Try.f8 40) (reg Try.f8 40).toList ([x0,x1,x2,x3,x4,x5,x6,x7,x8,x9,a1,Z,a2,b2,a4,b3,a5,a0,b4,a3,Y,b5,b6,b7,a6,c8,c9,d0,d1,d2,d3,b8,b9,a7,d4,d5,d6,d7,d8,d9,f0,f1,f2,f3,f4,f5,f6,f7,c0,c1,a8,f9,g0,g1,g2,g3,g4,g5,g6,c2,c3,a9,g7,g8,g9,i0,i1,i2,i3,i4,i5,i6,i7,i8,i9,j0,j1,j2,j3,j4,j5,j6,j7,j8,j9,k0,k1,k2,k3,k4,k5,c4,c5,b0,k6,k7,k8,c6,c7,b1,f,g,i,k,l,m,n,o,p,q,r,c,d,b,s,t,u,w,x,y,z,A,B,C,D,E,F,G,H,I,J,K,L,M,N,P,Q,R,U,V,W,X]) S =
  (zS (zV zi 23 c b S) (fun v0 S1=>zS (je zi false 30 v0 S1) (fun v1 S2=>zS (qw zi 30 S2) (fun v2 S3=>zS (qm zi 30 v2 (dem v1) S3) (fun v3 S4=>some ([x0,x1,x2,x3,x4,x5,x6,x7,x8,x9,a1,Z,a2,b2,a4,b3,a5,a0,b4,a3,Y,b5,b6,b7,v2,c8,c9,d0,d1,d2,d3,b8,b9,a7,d4,d5,d6,d7,d8,d9,f0,f1,f2,f3,f4,f5,f6,f7,c0,c1,a8,f9,g0,g1,g2,g3,g4,g5,g6,c2,c3,a9,g7,g8,g9,i0,i1,i2,i3,i4,i5,i6,i7,i8,i9,j0,j1,j2,j3,j4,j5,j6,j7,j8,j9,k0,k1,k2,k3,k4,k5,c4,c5,b0,k6,k7,k8,c6,c7,b1,f,g,i,k,l,m,n,o,p,q,r,c,d,b,s,v0,v1,w,x,y,z,A,B,C,D,E,F,G,H,I,J,K,L,M,N,P,Q,R,U,V,W,X],S4)) ()) ()) ()) ()):=by
 kernel_rfl
theorem zu.r41 :jd zi ⟨false,false,false⟩ (zO zi O) (reg Try.f8 41) (reg Try.f8 41).toList ([x0,x1,x2,x3,x4,x5,x6,x7,x8,x9,a1,Z,a2,b2,a4,b3,a5,a0,b4,a3,Y,b5,b6,b7,a6,c8,c9,d0,d1,d2,d3,b8,b9,a7,d4,d5,d6,d7,d8,d9,f0,f1,f2,f3,f4,f5,f6,f7,c0,c1,a8,f9,g0,g1,g2,g3,g4,g5,g6,c2,c3,a9,g7,g8,g9,i0,i1,i2,i3,i4,i5,i6,i7,i8,i9,j0,j1,j2,j3,j4,j5,j6,j7,j8,j9,k0,k1,k2,k3,k4,k5,c4,c5,b0,k6,k7,k8,c6,c7,b1,f,g,i,k,l,m,n,o,p,q,r,c,d,b,s,t,u,w,x,y,z,A,B,C,D,E,F,G,H,I,J,K,L,M,N,P,Q,R,U,V,W,X]) S =
  (zS (zQ zi 30 a6 0 S) (fun v0 S1=>zS (je zi false 3 v0 S1) (fun v1 S2=>zS (zQ zi 30 a3 0 S2) (fun v2 S3=>zS (je zi false 3 v2 S3) (fun v3 S4=>zS (wR zi BinOp.eql 3 v1 v3 S4) (fun v4 S5=>gdK (dem v4) false (ret Y) S5 (fun v6 S6=>gdK (dem v4) false (aUn zi UnOp.not (dem v6)) S6 (fun v7 S7=>gdK (dem v4) false (ret v7) S7 (fun v8 S8=>gdK (dem v8) true (je zi false 30 a6) S8 (fun v9 S9=>gdK (dem v8) true (je zi false 30 a3) S9 (fun k9 l3=>gdK (dem v8) true ((zO zi O) 13 [(dem v9),(dem k9)]) l3 (fun l0 l5=>gdK (dem v8) true (aUn zi UnOp.not l0) l5 (fun l1 l6=>gdK (dem v4) false (kW (dem v8) l1 (Value.bool false)) l6 (fun l2 l7=>zS (kW (dem v4) (Value.bool true) l2 l7) (fun l4 l8=>some ([x0,x1,x2,x3,x4,x5,x6,x7,x8,x9,a1,Z,a2,b2,a4,b3,a5,a0,b4,a3,Y,b5,b6,b7,a6,c8,c9,d0,d1,d2,d3,b8,b9,a7,d4,d5,d6,d7,d8,d9,f0,f1,f2,f3,f4,f5,f6,f7,c0,c1,a8,f9,g0,g1,g2,g3,g4,g5,g6,c2,c3,a9,g7,g8,g9,i0,i1,i2,i3,i4,i5,i6,i7,i8,i9,j0,j1,j2,j3,j4,j5,j6,j7,j8,j9,k0,k1,k2,k3,k4,k5,c4,c5,b0,k6,k7,k8,c6,c7,b1,f,g,i,k,l,m,n,o,p,q,r,c,d,b,s,t,u,v0,v1,v2,v3,v4,dem v4,dem v6,v7,dem v8,v9,k9,l0,l1,l2,l4,L,M,N,P,Q,R,U,V,W,X],l8)) ()) ()) ()) ()) ()) ()) ()) ()) ()) ()) ()) ()) ()) ()):=by
 refine sD Try.f8 41 0 (fun v0 S1=>?_)
 refine sD Try.f8 41 1 (fun v1 S2=>?_)
 refine sD Try.f8 41 2 (fun v2 S3=>?_)
 refine sD Try.f8 41 3 (fun v3 S4=>?_)
 refine sD Try.f8 41 4 (fun v4 S5=>?_)
 refine sP Try.f8 41 5 (v:=v4) ?_
 refine sG Try.f8 41 6 (j:=5) (fun v6 S6=>?_)
 refine sG Try.f8 41 7 (j:=5) (fun v7 S7=>?_)
 refine sG Try.f8 41 8 (j:=5) (fun v8 S8=>?_)
 refine sG Try.f8 41 9 (j:=8) (fun v9 S9=>?_)
 refine sG Try.f8 41 10 (j:=8) (fun k9 l3=>?_)
 refine sG Try.f8 41 11 (j:=8) (fun l0 l5=>?_)
 refine sG Try.f8 41 12 (j:=8) (fun l1 l6=>?_)
 refine sG Try.f8 41 13 (j:=5) (fun l2 l7=>?_)
 refine sD Try.f8 41 14 (fun l4 l8=>?_)
 kernel_rfl
theorem zu.r42 :jd zi ⟨false,false,false⟩ (zO zi O) (reg Try.f8 42) (reg Try.f8 42).toList ([x0,x1,x2,x3,x4,x5,x6,x7,x8,x9,a1,Z,a2,b2,a4,b3,a5,a0,b4,a3,Y,b5,b6,b7,a6,c8,c9,d0,d1,d2,d3,b8,b9,a7,d4,d5,d6,d7,d8,d9,f0,f1,f2,f3,f4,f5,f6,f7,c0,c1,a8,f9,g0,g1,g2,g3,g4,g5,g6,c2,c3,a9,g7,g8,g9,i0,i1,i2,i3,i4,i5,i6,i7,i8,i9,j0,j1,j2,j3,j4,j5,j6,j7,j8,j9,k0,k1,k2,k3,k4,k5,c4,c5,b0,k6,k7,k8,c6,c7,b1,f,g,i,k,l,m,n,o,p,q,r,c,d,b,s,t,u,w,x,y,z,A,B,C,D,E,F,G,H,I,J,K,L,M,N,P,Q,R,U,V,W,X]) S =
  ( some ([x0,x1,x2,x3,x4,x5,Value.bool false,x7,x8,x9,a1,Z,a2,b2,a4,b3,a5,a0,b4,a3,Y,b5,b6,b7,a6,c8,c9,d0,d1,d2,d3,b8,b9,a7,d4,d5,d6,d7,d8,d9,f0,f1,f2,f3,f4,f5,f6,f7,c0,c1,a8,f9,g0,g1,g2,g3,g4,g5,g6,c2,c3,a9,g7,g8,g9,i0,i1,i2,i3,i4,i5,i6,i7,i8,i9,j0,j1,j2,j3,j4,j5,j6,j7,j8,j9,k0,k1,k2,k3,k4,k5,c4,c5,b0,k6,k7,k8,c6,c7,b1,f,g,i,k,l,m,n,o,p,q,r,c,d,b,s,t,u,w,x,y,z,A,B,C,D,E,F,G,H,I,J,K,L,M,N,P,Q,R,U,V,W,X],S)):=by
 kernel_rfl
theorem zu.r43 :jd zi ⟨false,false,false⟩ (zO zi O) (reg Try.f8 43) (reg Try.f8 43).toList ([x0,x1,x2,x3,x4,x5,x6,x7,x8,x9,a1,Z,a2,b2,a4,b3,a5,a0,b4,a3,Y,b5,b6,b7,a6,c8,c9,d0,d1,d2,d3,b8,b9,a7,d4,d5,d6,d7,d8,d9,f0,f1,f2,f3,f4,f5,f6,f7,c0,c1,a8,f9,g0,g1,g2,g3,g4,g5,g6,c2,c3,a9,g7,g8,g9,i0,i1,i2,i3,i4,i5,i6,i7,i8,i9,j0,j1,j2,j3,j4,j5,j6,j7,j8,j9,k0,k1,k2,k3,k4,k5,c4,c5,b0,k6,k7,k8,c6,c7,b1,f,g,i,k,l,m,n,o,p,q,r,c,d,b,s,t,u,w,x,y,z,A,B,C,D,E,F,G,H,I,J,K,L,M,N,P,Q,R,U,V,W,X]) S =
  (zS (wR zi BinOp.add 3 b (.int .i64 1) S) (fun v0 S1=>some ([x0,x1,x2,x3,x4,x5,x6,x7,x8,x9,a1,Z,a2,b2,a4,b3,a5,a0,b4,a3,Y,b5,b6,b7,a6,c8,c9,d0,d1,d2,d3,b8,b9,a7,d4,d5,d6,d7,d8,d9,f0,f1,f2,f3,f4,f5,f6,f7,c0,c1,a8,f9,g0,g1,g2,g3,g4,g5,g6,c2,c3,a9,g7,g8,g9,i0,i1,i2,i3,i4,i5,i6,i7,i8,i9,j0,j1,j2,j3,j4,j5,j6,j7,j8,j9,k0,k1,k2,k3,k4,k5,c4,c5,b0,k6,k7,k8,c6,c7,b1,f,g,i,k,l,m,n,o,p,q,r,c,d,dem v0,s,t,u,w,x,y,z,A,B,C,D,E,F,G,H,I,J,K,v0,M,N,P,Q,R,U,V,W,X],S1)) ()):=by
 kernel_rfl
theorem zu.r44 :jd zi ⟨false,false,false⟩ (zO zi O) (reg Try.f8 44) (reg Try.f8 44).toList ([x0,x1,x2,x3,x4,x5,x6,x7,x8,x9,a1,Z,a2,b2,a4,b3,a5,a0,b4,a3,Y,b5,b6,b7,a6,c8,c9,d0,d1,d2,d3,b8,b9,a7,d4,d5,d6,d7,d8,d9,f0,f1,f2,f3,f4,f5,f6,f7,c0,c1,a8,f9,g0,g1,g2,g3,g4,g5,g6,c2,c3,a9,g7,g8,g9,i0,i1,i2,i3,i4,i5,i6,i7,i8,i9,j0,j1,j2,j3,j4,j5,j6,j7,j8,j9,k0,k1,k2,k3,k4,k5,c4,c5,b0,k6,k7,k8,c6,c7,b1,f,g,i,k,l,m,n,o,p,q,r,c,d,b,s,t,u,w,x,y,z,A,B,C,D,E,F,G,H,I,J,K,L,M,N,P,Q,R,U,V,W,X]) S =
  (zS (aUn zi UnOp.not (dem Y) S) (fun v1 S1=>gdK (dem v1) true (ret Z) S1 (fun v3 S2=>gdK (dem v1) true (kP zi 23 (dem v3)) S2 (fun v4 S3=>gdK (dem v1) true (ret x1) S3 (fun v5 S4=>gdK (dem v1) true (wR zi BinOp.lss 3 v4 (dem v5)) S4 (fun v6 S5=>zS (kW (dem v1) v6 (Value.bool false) S5) (fun v7 S6=>some ([x0,x1,x2,x3,x4,x5,x6,x7,x8,x9,a1,Z,a2,b2,a4,b3,a5,a0,b4,a3,Y,b5,b6,b7,a6,c8,c9,d0,d1,d2,d3,b8,b9,a7,d4,d5,d6,d7,d8,d9,f0,f1,f2,f3,f4,f5,f6,f7,c0,c1,a8,f9,g0,g1,g2,g3,g4,g5,g6,c2,c3,a9,g7,g8,g9,i0,i1,i2,i3,i4,i5,i6,i7,i8,i9,j0,j1,j2,j3,j4,j5,j6,j7,j8,j9,k0,k1,k2,k3,k4,k5,c4,c5,b0,k6,k7,k8,c6,c7,b1,f,g,i,k,l,m,n,o,p,q,r,c,d,b,s,t,u,w,x,y,z,A,B,C,D,E,F,G,H,I,J,K,L,dem Y,v1,dem v1,dem v3,v4,dem v5,v6,v7,X],S6)) ()) ()) ()) ()) ()) ()):=by
 refine sP Try.f8 44 0 (v:=Y) ?_
 refine sD Try.f8 44 1 (fun v1 S1=>?_)
 refine sP Try.f8 44 2 (v:=v1) ?_
 refine sG Try.f8 44 3 (j:=2) (fun v3 S2=>?_)
 refine sG Try.f8 44 4 (j:=2) (fun v4 S3=>?_)
 refine sG Try.f8 44 5 (j:=2) (fun v5 S4=>?_)
 refine sG Try.f8 44 6 (j:=2) (fun v6 S5=>?_)
 refine sD Try.f8 44 7 (fun v7 S6=>?_)
 kernel_rfl
theorem zu.r45 :jd zi ⟨false,false,false⟩ (zO zi O) (reg Try.f8 45) (reg Try.f8 45).toList ([x0,x1,x2,x3,x4,x5,x6,x7,x8,x9,a1,Z,a2,b2,a4,b3,a5,a0,b4,a3,Y,b5,b6,b7,a6,c8,c9,d0,d1,d2,d3,b8,b9,a7,d4,d5,d6,d7,d8,d9,f0,f1,f2,f3,f4,f5,f6,f7,c0,c1,a8,f9,g0,g1,g2,g3,g4,g5,g6,c2,c3,a9,g7,g8,g9,i0,i1,i2,i3,i4,i5,i6,i7,i8,i9,j0,j1,j2,j3,j4,j5,j6,j7,j8,j9,k0,k1,k2,k3,k4,k5,c4,c5,b0,k6,k7,k8,c6,c7,b1,f,g,i,k,l,m,n,o,p,q,r,c,d,b,s,t,u,w,x,y,z,A,B,C,D,E,F,G,H,I,J,K,L,M,N,P,Q,R,U,V,W,X]) S =
  ( some ([x0,x1,x2,x3,x4,x5,Value.bool false,x7,x8,x9,a1,Z,a2,b2,a4,b3,a5,a0,b4,a3,Y,b5,b6,b7,a6,c8,c9,d0,d1,d2,d3,b8,b9,a7,d4,d5,d6,d7,d8,d9,f0,f1,f2,f3,f4,f5,f6,f7,c0,c1,a8,f9,g0,g1,g2,g3,g4,g5,g6,c2,c3,a9,g7,g8,g9,i0,i1,i2,i3,i4,i5,i6,i7,i8,i9,j0,j1,j2,j3,j4,j5,j6,j7,j8,j9,k0,k1,k2,k3,k4,k5,c4,c5,b0,k6,k7,k8,c6,c7,b1,f,g,i,k,l,m,n,o,p,q,r,c,d,b,s,t,u,w,x,y,z,A,B,C,D,E,F,G,H,I,J,K,L,M,N,P,Q,R,U,V,W,X],S)):=by
 kernel_rfl
theorem zu.r46 :jd zi ⟨false,false,false⟩ (zO zi O) (reg Try.f8 46) (reg Try.f8 46).toList ([x0,x1,x2,x3,x4,x5,x6,x7,x8,x9,a1,Z,a2,b2,a4,b3,a5,a0,b4,a3,Y,b5,b6,b7,a6,c8,c9,d0,d1,d2,d3,b8,b9,a7,d4,d5,d6,d7,d8,d9,f0,f1,f2,f3,f4,f5,f6,f7,c0,c1,a8,f9,g0,g1,g2,g3,g4,g5,g6,c2,c3,a9,g7,g8,g9,i0,i1,i2,i3,i4,i5,i6,i7,i8,i9,j0,j1,j2,j3,j4,j5,j6,j7,j8,j9,k0,k1,k2,k3,k4,k5,c4,c5,b0,k6,k7,k8,c6,c7,b1,f,g,i,k,l,m,n,o,p,q,r,c,d,b,s,t,u,w,x,y,z,A,B,C,D,E,F,G,H,I,J,K,L,M,N,P,Q,R,U,V,W,X]) S =
  (zS (wR zi BinOp.add 3 b0 (.int .i64 1) S) (fun v0 S1=>some ([x0,x1,x2,x3,x4,x5,x6,x7,x8,x9,a1,Z,a2,b2,a4,b3,a5,a0,b4,a3,Y,b5,b6,b7,a6,c8,c9,d0,d1,d2,d3,b8,b9,a7,d4,d5,d6,d7,d8,d9,f0,f1,f2,f3,f4,f5,f6,f7,c0,c1,a8,f9,g0,g1,g2,g3,g4,g5,g6,c2,c3,a9,g7,g8,g9,i0,i1,i2,i3,i4,i5,i6,i7,i8,i9,j0,j1,j2,j3,j4,j5,j6,j7,j8,j9,k0,k1,k2,k3,k4,k5,c4,c5,dem v0,k6,k7,k8,c6,c7,b1,f,g,i,k,l,m,n,o,p,q,r,c,d,b,s,t,u,w,x,y,z,A,B,C,D,E,F,G,H,I,J,K,L,M,N,P,Q,R,U,V,W,v0],S1)) ()):=by
 kernel_rfl
theorem zu.r47 :jd zi ⟨false,false,false⟩ (zO zi O) (reg Try.f8 47) (reg Try.f8 47).toList ([x0,x1,x2,x3,x4,x5,x6,x7,x8,x9,a1,Z,a2,b2,a4,b3,a5,a0,b4,a3,Y,b5,b6,b7,a6,c8,c9,d0,d1,d2,d3,b8,b9,a7,d4,d5,d6,d7,d8,d9,f0,f1,f2,f3,f4,f5,f6,f7,c0,c1,a8,f9,g0,g1,g2,g3,g4,g5,g6,c2,c3,a9,g7,g8,g9,i0,i1,i2,i3,i4,i5,i6,i7,i8,i9,j0,j1,j2,j3,j4,j5,j6,j7,j8,j9,k0,k1,k2,k3,k4,k5,c4,c5,b0,k6,k7,k8,c6,c7,b1,f,g,i,k,l,m,n,o,p,q,r,c,d,b,s,t,u,w,x,y,z,A,B,C,D,E,F,G,H,I,J,K,L,M,N,P,Q,R,U,V,W,X]) S =
  ( some ([x0,x1,x2,x3,x4,x5,Value.bool true,x7,x8,x9,a1,Z,a2,b2,a4,b3,a5,a0,b4,a3,Y,b5,b6,b7,a6,c8,c9,d0,d1,d2,d3,b8,b9,a7,d4,d5,d6,d7,d8,d9,f0,f1,f2,f3,f4,f5,f6,f7,c0,c1,a8,f9,g0,g1,g2,g3,g4,g5,g6,c2,c3,a9,g7,g8,g9,i0,i1,i2,i3,i4,i5,i6,i7,i8,i9,j0,j1,j2,j3,j4,j5,j6,j7,j8,j9,k0,k1,k2,k3,k4,k5,c4,c5,b0,k6,k7,k8,c6,c7,b1,f,g,i,k,l,m,n,o,p,q,r,c,d,b,s,t,u,w,x,y,z,A,B,C,D,E,F,G,H,I,J,K,L,M,N,P,Q,R,U,V,W,X],S)):=by
 kernel_rfl
theorem zu.rs:type_of% (afz @zu.r0 (afz @zu.r1 (afz @zu.r2 (afz @zu.r3 (afz @zu.r4 (afz @zu.r5 (afz @zu.r6 (afz @zu.r7 (afz @zu.r8 (afz @zu.r9 (afz @zu.r10 (afz @zu.r11 (afz @zu.r12 (afz @zu.r13 (afz @zu.r14 (afz @zu.r15 (afz @zu.r16 (afz @zu.r17 (afz @zu.r18 (afz @zu.r19 (afz @zu.r20 (afz @zu.r21 (afz @zu.r22 (afz @zu.r23 (afz @zu.r24 (afz @zu.r25 (afz @zu.r26 (afz @zu.r27 (afz @zu.r28 (afz @zu.r29 (afz @zu.r30 (afz @zu.r31 (afz @zu.r32 (afz @zu.r33 (afz @zu.r34 (afz @zu.r35 (afz @zu.r36 (afz @zu.r37 (afz @zu.r38 (afz @zu.r39 (afz @zu.r40 (afz @zu.r41 (afz @zu.r42 (afz @zu.r43 (afz @zu.r44 (afz @zu.r45 (afz @zu.r46 (@zu.r47)))))))))))))))))))))))))))))))))))))))))))))))):=afz @zu.r0 (afz @zu.r1 (afz @zu.r2 (afz @zu.r3 (afz @zu.r4 (afz @zu.r5 (afz @zu.r6 (afz @zu.r7 (afz @zu.r8 (afz @zu.r9 (afz @zu.r10 (afz @zu.r11 (afz @zu.r12 (afz @zu.r13 (afz @zu.r14 (afz @zu.r15 (afz @zu.r16 (afz @zu.r17 (afz @zu.r18 (afz @zu.r19 (afz @zu.r20 (afz @zu.r21 (afz @zu.r22 (afz @zu.r23 (afz @zu.r24 (afz @zu.r25 (afz @zu.r26 (afz @zu.r27 (afz @zu.r28 (afz @zu.r29 (afz @zu.r30 (afz @zu.r31 (afz @zu.r32 (afz @zu.r33 (afz @zu.r34 (afz @zu.r35 (afz @zu.r36 (afz @zu.r37 (afz @zu.r38 (afz @zu.r39 (afz @zu.r40 (afz @zu.r41 (afz @zu.r42 (afz @zu.r43 (afz @zu.r44 (afz @zu.r45 (afz @zu.r46 (@zu.r47)))))))))))))))))))))))))))))))))))))))))))))))
theorem zu.runs {x0 x1 x2:Value} {S S1:zx} {e:AEx} {T:List Value} (h:zD zi O false zu.code ([x0,x1,x2,zh,zh,zh,zh,zh,zh,zh,zh,zh,zh,zh,zh,zh,zh,zh,zh,zh,zh,zh,zh,zh,zh,zh,zh,zh,zh,zh,zh,zh,zh,zh,zh,zh,zh,zh,zh,zh,zh,zh,zh,zh,zh,zh,zh,zh,zh,zh,zh,zh,zh,zh,zh,zh,zh,zh,zh,zh,zh,zh,zh,zh,zh,zh,zh,zh,zh,zh,zh,zh,zh,zh,zh,zh,zh,zh,zh,zh,zh,zh,zh,zh,zh,zh,zh,zh,zh,zh,zh,zh,zh,zh,zh,zh,zh,zh,zh,zh,zh,zh,zh,zh,zh,zh,zh,zh,zh,zh,zh,zh,zh,zh,zh,zh,zh,zh,zh,zh,zh,zh,zh,zh,zh,zh,zh,zh,zh,zh,zh,zh,zh,zh,zh,zh,zh,zh,zh,zh,zh,zh]) S=some (e,T,S1)) (he:e=.normal∨e=.ret):zO zi O 8 [x0,x1,x2] S=some (T.getD 6 zh,S1) :=
 jA rfl rfl Try.func8 (by decide) zu.body (by exact h) he (jG (a:=T.getD 6 zh) ((show zH zi T S1 Try.f8.results.toList=zH zi T S1 [(ResultVar.tmp 6)] from by kernel_rfl).trans (by simp only [zH])) (by kernel_rfl))
end Go.Proofs.Ytacbgjhmkhjpoaa
namespace Go.Proofs.Ytacbgjhmkhjpoaa
open Go.Abs
abbrev zC.id:FuncId:=9
noncomputable def zC.code:Code:=(.seq (.region 0 (reg Try.f9 0) false) (.seq (.region 1 (reg Try.f9 1) false) (.seq (.seq (.region 2 (reg Try.f9 2) false) (.cond (.tmp 23) (.seq (.region 3 (reg Try.f9 3) false) Code.ret) Code.skip)) (.seq (.region 4 (reg Try.f9 4) false) (.seq (.region 5 (reg Try.f9 5) false) Code.ret)))))
theorem zC.body:Try.f9.body=some zC.code:=by kernel_rfl
variable (Y b I P Q R U V W X c d f g i k l m n o p q r s t u w x y z A B C D E F G:Value) (S:zx)
theorem zC.r0 :jd zi ⟨false,false,false⟩ (zO zi O) (reg Try.f9 0) (reg Try.f9 0).toList ([Y,b,I,P,Q,R,U,V,W,X,c,d,f,g,i,k,l,m,n,o,p,q,r,s,t,u,w,x,y,z,A,B,C,D,E,F,G]) S =
  ( some ([Value.bool false,b,I,P,Q,R,U,V,W,X,c,d,f,g,i,k,l,m,n,o,p,q,r,s,t,u,w,x,y,z,A,B,C,D,E,F,G],S)):=by
 kernel_rfl
theorem zC.r1 :jd zi ⟨false,false,false⟩ (zO zi O) (reg Try.f9 1) (reg Try.f9 1).toList ([Y,b,I,P,Q,R,U,V,W,X,c,d,f,g,i,k,l,m,n,o,p,q,r,s,t,u,w,x,y,z,A,B,C,D,E,F,G]) S =
  (zS ((zO zi O) 10 [] S) (fun v0 J=>some ([Y,v0,I,dem v0,Q,R,U,V,W,X,c,d,f,g,i,k,l,m,n,o,p,q,r,s,t,u,w,x,y,z,A,B,C,D,E,F,G],J)) ()):=by
 kernel_rfl
theorem zC.r2 :jd zi ⟨false,false,false⟩ (zO zi O) (reg Try.f9 2) (reg Try.f9 2).toList ([Y,b,I,P,Q,R,U,V,W,X,c,d,f,g,i,k,l,m,n,o,p,q,r,s,t,u,w,x,y,z,A,B,C,D,E,F,G]) S =
  (zS (wR zi BinOp.eql 24 (dem b) (Value.pointer none) S) (fun H J=>gdK (dem H) false (ret b) J (fun Z S2=>gdK (dem H) false (wW zi 30 [(0,(.int .i64 1)),(1,(.int .i64 1))]) S2 (fun L S3=>gdK (dem H) false ((zO zi O) 12 [(dem (dem Z)),(dem L)]) S3 (fun v5 S4=>gdK (dem H) false (wR zi BinOp.neq 27 v5 (.int .i64 0)) S4 (fun v6 S5=>zS (kW (dem H) (Value.bool true) v6 S5) (fun M S6=>gdK (dem M) false (ret b) S6 (fun v9 S7=>gdK (dem M) false (wW zi 30 [(0,(.int .i64 2)),(1,(.int .i64 5))]) S7 (fun N S8=>gdK (dem M) false ((zO zi O) 12 [(dem (dem v9)),(dem N)]) S8 (fun a0 S9=>gdK (dem M) false (wR zi BinOp.neq 27 a0 (.int .i64 0)) S9 (fun a1 a6=>zS (kW (dem M) (Value.bool true) a1 a6) (fun K a7=>gdK (dem K) false (ret b) a7 (fun a2 a8=>gdK (dem K) false (wW zi 30 [(0,(.int .i64 3)),(1,(.int .i64 3))]) a8 (fun a3 a9=>gdK (dem K) false ((zO zi O) 12 [(dem (dem a2)),(dem a3)]) a9 (fun a4 b0=>gdK (dem K) false (wR zi BinOp.neq 27 a4 (.int .i64 0)) b0 (fun a5 b1=>zS (kW (dem K) (Value.bool true) a5 b1) (fun b2 b3=>some ([Y,b,I,P,dem b,H,dem H,dem Z,L,v5,v6,M,dem M,dem v9,N,a0,a1,K,dem K,dem a2,a3,a4,a5,b2,t,u,w,x,y,z,A,B,C,D,E,F,G],b3)) ()) ()) ()) ()) ()) ()) ()) ()) ()) ()) ()) ()) ()) ()) ()) ()):=by
 refine sP Try.f9 2 0 (v:=b) ?_
 refine sD Try.f9 2 1 (fun H J=>?_)
 refine sP Try.f9 2 2 (v:=H) ?_
 refine sG Try.f9 2 3 (j:=2) (fun Z S2=>?_)
 refine sG Try.f9 2 4 (j:=2) (fun L S3=>?_)
 refine sG Try.f9 2 5 (j:=2) (fun v5 S4=>?_)
 refine sG Try.f9 2 6 (j:=2) (fun v6 S5=>?_)
 refine sD Try.f9 2 7 (fun M S6=>?_)
 refine sP Try.f9 2 8 (v:=M) ?_
 refine sG Try.f9 2 9 (j:=8) (fun v9 S7=>?_)
 refine sG Try.f9 2 10 (j:=8) (fun N S8=>?_)
 refine sG Try.f9 2 11 (j:=8) (fun a0 S9=>?_)
 refine sG Try.f9 2 12 (j:=8) (fun a1 a6=>?_)
 refine sD Try.f9 2 13 (fun K a7=>?_)
 refine sP Try.f9 2 14 (v:=K) ?_
 refine sG Try.f9 2 15 (j:=14) (fun a2 a8=>?_)
 refine sG Try.f9 2 16 (j:=14) (fun a3 a9=>?_)
 refine sG Try.f9 2 17 (j:=14) (fun a4 b0=>?_)
 refine sG Try.f9 2 18 (j:=14) (fun a5 b1=>?_)
 refine sD Try.f9 2 19 (fun b2 b3=>?_)
 kernel_rfl
theorem zC.r3 :jd zi ⟨false,false,false⟩ (zO zi O) (reg Try.f9 3) (reg Try.f9 3).toList ([Y,b,I,P,Q,R,U,V,W,X,c,d,f,g,i,k,l,m,n,o,p,q,r,s,t,u,w,x,y,z,A,B,C,D,E,F,G]) S =
  ( some ([Value.bool false,b,I,P,Q,R,U,V,W,X,c,d,f,g,i,k,l,m,n,o,p,q,r,s,t,u,w,x,y,z,A,B,C,D,E,F,G],S)):=by
 kernel_rfl
theorem zC.r4 :jd zi ⟨false,false,false⟩ (zO zi O) (reg Try.f9 4) (reg Try.f9 4).toList ([Y,b,I,P,Q,R,U,V,W,X,c,d,f,g,i,k,l,m,n,o,p,q,r,s,t,u,w,x,y,z,A,B,C,D,E,F,G]) S =
  (zS ((zO zi O) 16 [(dem (dem b)),(.int .i64 2),(Value.slice none 0 0)] S) (fun H J=>some ([Y,b,H,P,Q,R,U,V,W,X,c,d,f,g,i,k,l,m,n,o,p,q,r,s,dem b,dem H,w,x,y,z,A,B,C,D,E,F,G],J)) ()):=by
 kernel_rfl
theorem zC.r5 :jd zi ⟨false,false,false⟩ (zO zi O) (reg Try.f9 5) (reg Try.f9 5).toList ([Y,b,I,P,Q,R,U,V,W,X,c,d,f,g,i,k,l,m,n,o,p,q,r,s,t,u,w,x,y,z,A,B,C,D,E,F,G]) S =
  (zS (wW zi 30 [(0,(.int .i64 2)),(1,(.int .i64 5))] S) (fun H J=>zS (wW zi 30 [(0,(.int .i64 3)),(1,(.int .i64 3))] J) (fun v2 S2=>zS (jw zi 23 2 [(0,H),(1,v2)] S2) (fun Z S3=>zS ((zO zi O) 15 [(dem (dem I)),(dem Z)] S3) (fun L S4=>gdK (dem L) true (ret b) S4 (fun v6 S5=>gdK (dem L) true (wW zi 30 [(0,(.int .i64 1)),(1,(.int .i64 9))]) S5 (fun M S6=>gdK (dem L) true ((zO zi O) 12 [(dem (dem v6)),(dem M)]) S6 (fun v8 S7=>gdK (dem L) true (wR zi BinOp.eql 27 v8 (.int .i64 91)) S7 (fun v9 S8=>zS (kW (dem L) v9 (Value.bool false) S8) (fun N S9=>some ([N,b,I,P,Q,R,U,V,W,X,c,d,f,g,i,k,l,m,n,o,p,q,r,s,t,u,dem I,H,v2,Z,L,dem L,dem v6,M,v8,v9,dem N],S9)) ()) ()) ()) ()) ()) ()) ()) ()) ()):=by
 refine sP Try.f9 5 0 (v:=I) ?_
 refine sD Try.f9 5 1 (fun H J=>?_)
 refine sD Try.f9 5 2 (fun v2 S2=>?_)
 refine sD Try.f9 5 3 (fun Z S3=>?_)
 refine sD Try.f9 5 4 (fun L S4=>?_)
 refine sP Try.f9 5 5 (v:=L) ?_
 refine sG Try.f9 5 6 (j:=5) (fun v6 S5=>?_)
 refine sG Try.f9 5 7 (j:=5) (fun M S6=>?_)
 refine sG Try.f9 5 8 (j:=5) (fun v8 S7=>?_)
 refine sG Try.f9 5 9 (j:=5) (fun v9 S8=>?_)
 refine sD Try.f9 5 10 (fun N S9=>?_)
 refine sP Try.f9 5 11 (v:=N) ?_
 kernel_rfl
theorem zC.rs:type_of% (afz @zC.r0 (afz @zC.r1 (afz @zC.r2 (afz @zC.r3 (afz @zC.r4 (@zC.r5)))))):=afz @zC.r0 (afz @zC.r1 (afz @zC.r2 (afz @zC.r3 (afz @zC.r4 (@zC.r5)))))
theorem zC.runs {S J:zx} {e:AEx} {T:List Value} (h:zD zi O false zC.code ([zh,zh,zh,zh,zh,zh,zh,zh,zh,zh,zh,zh,zh,zh,zh,zh,zh,zh,zh,zh,zh,zh,zh,zh,zh,zh,zh,zh,zh,zh,zh,zh,zh,zh,zh,zh,zh]) S=some (e,T,J)) (he:e=.normal∨e=.ret):zO zi O 9 [] S=some (T.getD 0 zh,J) :=
 jA rfl rfl Try.func9 (by decide) zC.body (by exact h) he (jG (a:=T.getD 0 zh) ((show zH zi T J Try.f9.results.toList=zH zi T J [(ResultVar.tmp 0)] from by kernel_rfl).trans (by simp only [zH])) (by kernel_rfl))
end Go.Proofs.Ytacbgjhmkhjpoaa
namespace Go.Proofs.Ytacbgjhmkhjpoaa
open Go.Abs
abbrev zN.id:FuncId:=11
noncomputable def zN.code:Code:=(.seq (.region 0 (reg Try.f11 0) false) (.seq (.region 1 (reg Try.f11 1) false) Code.ret))
theorem zN.body:Try.f11.body=some zN.code:=by kernel_rfl
variable (b d l f g i j k:Value) (S:zx)
theorem zN.r0 :jd zi ⟨false,false,false⟩ (zO zi O) (reg Try.f11 0) (reg Try.f11 0).toList ([b,d,l,f,g,i,j,k]) S =
  ( some ([b,d,Value.slice none 0 0,f,g,i,j,k],S)):=by
 kernel_rfl
theorem zN.r1 :jd zi ⟨false,false,false⟩ (zO zi O) (reg Try.f11 1) (reg Try.f11 1).toList ([b,d,l,f,g,i,j,k]) S =
  (zS (jS (dem b) S) (fun m c=>zS (zQ zi 49 m 0 c) (fun n q=>zS (je zi false 23 n q) (fun o r=>zS ((zO zi O) 21 [(dem o)] r) (fun p s=>some ([b,d,p,dem b,m,n,o,dem p],s)) ()) ()) ()) ()):=by
 kernel_rfl
theorem zN.rs:type_of% (afz @zN.r0 (@zN.r1)):=afz @zN.r0 (@zN.r1)
theorem zN.runs {b:Value} {S c:zx} {e:AEx} {T:List Value} (h:zD zi O false zN.code ([b,zh,zh,zh,zh,zh,zh,zh]) S=some (e,T,c)) (he:e=.normal∨e=.ret):zO zi O 11 [b] S=some (T.getD 2 zh,c) :=
 jA rfl rfl Try.func11 (by decide) zN.body (by exact h) he (jG (a:=T.getD 2 zh) ((show zH zi T c Try.f11.results.toList=zH zi T c [(ResultVar.tmp 2)] from by kernel_rfl).trans (by simp only [zH])) (by kernel_rfl))
end Go.Proofs.Ytacbgjhmkhjpoaa
namespace Go.Proofs.Ytacbgjhmkhjpoaa
open Go.Abs
abbrev zM.id:FuncId:=17
noncomputable def zM.code:Code:=(.seq (.region 0 (reg Try.f17 0) false) (.region 1 (reg Try.f17 1) false))
theorem zM.body:Try.f17.body=some zM.code:=by kernel_rfl
variable (a b j d k l m n o p f g i:Value) (S:zx)
theorem zM.r0 :jd zi ⟨false,false,false⟩ (zO zi O) (reg Try.f17 0) (reg Try.f17 0).toList ([a,b,j,d,k,l,m,n,o,p,f,g,i]) S =
  (zS (ZQ (dem b) S) (fun w c=>some ([a,b,j,w,k,l,m,n,o,p,f,g,i],c)) ()):=by
 kernel_rfl
theorem zM.r1 :jd zi ⟨false,false,false⟩ (zO zi O) (reg Try.f17 1) (reg Try.f17 1).toList ([a,b,j,d,k,l,m,n,o,p,f,g,i]) S =
  (zS (jS (dem a) S) (fun q c=>zS (zQ zi 49 q 0 c) (fun r x=>zS (je zi false 23 r x) (fun s y=>zS ((zO zi O) 30 [(dem s),(Value.func (Fn.func 31) #[] #[(dem d)])] y) (fun t z=>zS (jS (dem a) z) (fun u A=>zS (zQ zi 49 u 0 A) (fun v B=>zS (qm zi 23 v (dem t) B) (fun D C=>some ([a,b,j,d,dem a,dem a,q,r,s,Value.func (Fn.func 31) #[] #[(dem d)],t,u,v],C)) ()) ()) ()) ()) ()) ()) ()):=by
 kernel_rfl
theorem zM.rs:type_of% (afz @zM.r0 (@zM.r1)):=afz @zM.r0 (@zM.r1)
theorem zM.runs {a b:Value} {S c:zx} {e:AEx} {T:List Value} (h:zD zi O false zM.code ([a,b,zh,zh,zh,zh,zh,zh,zh,zh,zh,zh,zh]) S=some (e,T,c)) (he:e=.normal∨e=.ret):zO zi O 17 [a,b] S=some (Value.tuple #[],c) :=
 jA rfl rfl Try.func17 (by decide) zM.body (by exact h) he rfl
end Go.Proofs.Ytacbgjhmkhjpoaa
namespace Go.Proofs.Ytacbgjhmkhjpoaa
open Go.Abs
abbrev zI.id:FuncId:=31
noncomputable def zI.code:Code:=(.seq (.region 0 (reg Try.f31 0) false) (.seq (.region 1 (reg Try.f31 1) false) Code.ret))
theorem zI.body:Try.f31.body=some zI.code:=by kernel_rfl
variable (b c f m i j k l:Value) (S:zx)
theorem zI.r0 :jd zi ⟨false,false,false⟩ (zO zi O) (reg Try.f31 0) (reg Try.f31 0).toList ([b,c,f,m,i,j,k,l]) S =
  (zS (ZQ (dem b) S) (fun g d=>some ([b,c,g,Value.bool false,i,j,k,l],d)) ()):=by
 kernel_rfl
theorem zI.r1 :jd zi ⟨false,false,false⟩ (zO zi O) (reg Try.f31 1) (reg Try.f31 1).toList ([b,c,f,m,i,j,k,l]) S =
  (zS (je zi false 38 c S) (fun g d=>zS (zQ zi 30 f 0 d) (fun n q=>zS (je zi false 3 n q) (fun o r=>zS ((zO zi O) 29 [(dem g),(dem o)] r) (fun p s=>some ([b,c,f,p,g,n,o,dem p],s)) ()) ()) ()) ()):=by
 kernel_rfl
theorem zI.rs:type_of% (afz @zI.r0 (@zI.r1)):=afz @zI.r0 (@zI.r1)
theorem zI.runs {b c:Value} {S d:zx} {e:AEx} {T:List Value} (h:zD zi O false zI.code ([b,c,zh,zh,zh,zh,zh,zh]) S=some (e,T,d)) (he:e=.normal∨e=.ret):zO zi O 31 [b,c] S=some (T.getD 3 zh,d) :=
 jA rfl rfl Try.func31 (by decide) zI.body (by exact h) he (jG (a:=T.getD 3 zh) ((show zH zi T d Try.f31.results.toList=zH zi T d [(ResultVar.tmp 3)] from by kernel_rfl).trans (by simp only [zH])) (by kernel_rfl))
end Go.Proofs.Ytacbgjhmkhjpoaa
namespace Go.Proofs.Ytacbgjhmkhjpoaa
open Go.Abs
abbrev zA.id:FuncId:=16
noncomputable def zA.jh:Code:=(.seq (.region 3 (reg Try.f16 3) false) (.seq (.cond (.tmp 16) Code.skip (.exit 0)) (.seq (.block 1 (.seq (.region 4 (reg Try.f16 4) false) (.seq (.region 5 (reg Try.f16 5) false) (.cond (.tmp 29) (.region 6 (reg Try.f16 6) false) Code.skip)))) (.region 7 (reg Try.f16 7) false))))
noncomputable def zA.code:Code:=(.seq (.region 0 (reg Try.f16 0) false) (.seq (.region 1 (reg Try.f16 1) false) (.seq (.seq (.region 2 (reg Try.f16 2) false) (.block 0 (.loop zA.jh))) (.seq (.region 8 (reg Try.f16 8) false) Code.ret))))
theorem zA.body:Try.f16.body=some zA.code:=by kernel_rfl
theorem zA.eta {T:List Value} (h:T.length=36):T=[T.getD 0 zh,T.getD 1 zh,T.getD 2 zh,T.getD 3 zh,T.getD 4 zh,T.getD 5 zh,T.getD 6 zh,T.getD 7 zh,T.getD 8 zh,T.getD 9 zh,T.getD 10 zh,T.getD 11 zh,T.getD 12 zh,T.getD 13 zh,T.getD 14 zh,T.getD 15 zh,T.getD 16 zh,T.getD 17 zh,T.getD 18 zh,T.getD 19 zh,T.getD 20 zh,T.getD 21 zh,T.getD 22 zh,T.getD 23 zh,T.getD 24 zh,T.getD 25 zh,T.getD 26 zh,T.getD 27 zh,T.getD 28 zh,T.getD 29 zh,T.getD 30 zh,T.getD 31 zh,T.getD 32 zh,T.getD 33 zh,T.getD 34 zh,T.getD 35 zh]:=(qC T 36 h).trans (by kernel_rfl)
variable (G F I K L M R H N J f g i c d b k l m n o p q r s t u w x y z A B C D E:Value) (S:zx)
theorem zA.r0 :jd zi ⟨false,false,false⟩ (zO zi O) (reg Try.f16 0) (reg Try.f16 0).toList ([G,F,I,K,L,M,R,H,N,J,f,g,i,c,d,b,k,l,m,n,o,p,q,r,s,t,u,w,x,y,z,A,B,C,D,E]) S =
  ( some ([G,F,I,K,L,M,Value.slice none 0 0,H,N,J,f,g,i,c,d,b,k,l,m,n,o,p,q,r,s,t,u,w,x,y,z,A,B,C,D,E],S)):=by
 kernel_rfl
theorem zA.r1 :jd zi ⟨false,false,false⟩ (zO zi O) (reg Try.f16 1) (reg Try.f16 1).toList ([G,F,I,K,L,M,R,H,N,J,f,g,i,c,d,b,k,l,m,n,o,p,q,r,s,t,u,w,x,y,z,A,B,C,D,E]) S =
  ( some ([G,F,I,K,L,M,R,Value.slice none 0 0,N,J,f,g,i,c,d,b,k,l,m,n,o,p,q,r,s,t,u,w,x,y,z,A,B,C,D,E],S)):=by
 kernel_rfl
theorem zA.r2 :jd zi ⟨false,false,false⟩ (zO zi O) (reg Try.f16 2) (reg Try.f16 2).toList ([G,F,I,K,L,M,R,H,N,J,f,g,i,c,d,b,k,l,m,n,o,p,q,r,s,t,u,w,x,y,z,A,B,C,D,E]) S =
  (zS (jS (dem G) S) (fun U P=>zS (zQ zi 49 U 0 P) (fun V W=>zS (je zi false 23 V W) (fun Q X=>zS (kP zi 23 Q X) (fun v4 Z=>some ([G,F,I,K,L,M,R,H,N,J,dem G,U,V,Q,v4,.int .i64 0,k,l,m,n,o,p,q,r,s,t,u,w,x,y,z,A,B,C,D,E],Z)) ()) ()) ()) ()):=by
 kernel_rfl
theorem zA.r3 :jd zi ⟨false,false,false⟩ (zO zi O) (reg Try.f16 3) (reg Try.f16 3).toList ([G,F,I,K,L,M,R,H,N,J,f,g,i,c,d,b,k,l,m,n,o,p,q,r,s,t,u,w,x,y,z,A,B,C,D,E]) S =
  (zS (wR zi BinOp.lss 3 b d S) (fun Y P=>some ([G,F,I,K,L,M,R,H,N,J,f,g,i,c,d,b,Y,l,m,n,o,p,q,r,s,t,u,w,x,y,z,A,B,C,D,E],P)) ()):=by
 kernel_rfl
theorem zA.r4 :jd zi ⟨false,false,false⟩ (zO zi O) (reg Try.f16 4) (reg Try.f16 4).toList ([G,F,I,K,L,M,R,H,N,J,f,g,i,c,d,b,k,l,m,n,o,p,q,r,s,t,u,w,x,y,z,A,B,C,D,E]) S =
  (zS (zV zi 23 c b S) (fun Y P=>zS (je zi false 30 Y P) (fun U W=>zS (qw zi 30 W) (fun V X=>zS (qm zi 30 V (dem U) X) (fun Q Z=>some ([G,F,I,K,L,M,R,H,N,V,f,g,i,c,d,b,k,Y,U,n,o,p,q,r,s,t,u,w,x,y,z,A,B,C,D,E],Z)) ()) ()) ()) ()):=by
 kernel_rfl
theorem zA.r5 :jd zi ⟨false,false,false⟩ (zO zi O) (reg Try.f16 5) (reg Try.f16 5).toList ([G,F,I,K,L,M,R,H,N,J,f,g,i,c,d,b,k,l,m,n,o,p,q,r,s,t,u,w,x,y,z,A,B,C,D,E]) S =
  (zS (kP zi 23 (dem H) S) (fun U P=>zS (wR zi BinOp.lss 3 U (dem F) P) (fun Q W=>gdK (dem Q) true (ret I) W (fun v5 X=>gdK (dem Q) true (zQ zi 30 J 0) X (fun v6 Z=>gdK (dem Q) true (je zi false 3 v6) Z (fun v7 S5=>gdK (dem Q) true ((zO zi O) 29 [(dem (dem v5)),(dem v7)]) S5 (fun v8 S6=>gdK (dem Q) true (aUn zi UnOp.not v8) S6 (fun v9 S7=>zS (kW (dem Q) v9 (Value.bool false) S7) (fun a0 S8=>some ([G,F,I,K,L,M,R,H,N,J,f,g,i,c,d,b,k,l,m,dem H,U,dem F,Q,dem Q,dem v5,v6,v7,v8,v9,a0,z,A,B,C,D,E],S8)) ()) ()) ()) ()) ()) ()) ()) ()):=by
 refine sP Try.f16 5 0 (v:=H) ?_
 refine sD Try.f16 5 1 (fun U P=>?_)
 refine sP Try.f16 5 2 (v:=F) ?_
 refine sD Try.f16 5 3 (fun Q W=>?_)
 refine sP Try.f16 5 4 (v:=Q) ?_
 refine sG Try.f16 5 5 (j:=4) (fun v5 X=>?_)
 refine sG Try.f16 5 6 (j:=4) (fun v6 Z=>?_)
 refine sG Try.f16 5 7 (j:=4) (fun v7 S5=>?_)
 refine sG Try.f16 5 8 (j:=4) (fun v8 S6=>?_)
 refine sG Try.f16 5 9 (j:=4) (fun v9 S7=>?_)
 refine sD Try.f16 5 10 (fun a0 S8=>?_)
 kernel_rfl
theorem zA.r6 :jd zi ⟨false,false,false⟩ (zO zi O) (reg Try.f16 6) (reg Try.f16 6).toList ([G,F,I,K,L,M,R,H,N,J,f,g,i,c,d,b,k,l,m,n,o,p,q,r,s,t,u,w,x,y,z,A,B,C,D,E]) S =
  (zS (je zi false 30 J S) (fun U P=>zS (jw zi 23 1 [(0,U)] P) (fun V W=>zS (qo zi 23 23 H V W) (fun Q X=>some ([G,F,I,K,L,M,R,Q,N,J,f,g,i,c,d,b,k,l,m,n,o,p,q,r,s,t,u,w,x,y,dem H,U,V,dem Q,D,E],X)) ()) ()) ()):=by
 kernel_rfl
theorem zA.r7 :jd zi ⟨false,false,false⟩ (zO zi O) (reg Try.f16 7) (reg Try.f16 7).toList ([G,F,I,K,L,M,R,H,N,J,f,g,i,c,d,b,k,l,m,n,o,p,q,r,s,t,u,w,x,y,z,A,B,C,D,E]) S =
  (zS (wR zi BinOp.add 3 b (.int .i64 1) S) (fun Y P=>some ([G,F,I,K,L,M,R,H,N,J,f,g,i,c,d,dem Y,k,l,m,n,o,p,q,r,s,t,u,w,x,y,z,A,B,C,Y,E],P)) ()):=by
 kernel_rfl
theorem zA.r8 :jd zi ⟨false,false,false⟩ (zO zi O) (reg Try.f16 8) (reg Try.f16 8).toList ([G,F,I,K,L,M,R,H,N,J,f,g,i,c,d,b,k,l,m,n,o,p,q,r,s,t,u,w,x,y,z,A,B,C,D,E]) S =
  ( some ([G,F,I,K,L,M,H,dem H,N,J,f,g,i,c,d,b,k,l,m,n,o,p,q,r,s,t,u,w,x,y,z,A,B,C,D,dem H],S)):=by
 kernel_rfl
theorem zA.rs:type_of% (afz @zA.r0 (afz @zA.r1 (afz @zA.r2 (afz @zA.r3 (afz @zA.r4 (afz @zA.r5 (afz @zA.r6 (afz @zA.r7 (@zA.r8))))))))):=afz @zA.r0 (afz @zA.r1 (afz @zA.r2 (afz @zA.r3 (afz @zA.r4 (afz @zA.r5 (afz @zA.r6 (afz @zA.r7 (@zA.r8))))))))
theorem zA.runs {G F I:Value} {S P:zx} {e:AEx} {T:List Value} (h:zD zi O false zA.code ([G,F,I,zh,zh,zh,zh,zh,zh,zh,zh,zh,zh,zh,zh,zh,zh,zh,zh,zh,zh,zh,zh,zh,zh,zh,zh,zh,zh,zh,zh,zh,zh,zh,zh,zh]) S=some (e,T,P)) (he:e=.normal∨e=.ret):zO zi O 16 [G,F,I] S=some (T.getD 6 zh,P) :=
 jA rfl rfl Try.func16 (by decide) zA.body (by exact h) he (jG (a:=T.getD 6 zh) ((show zH zi T P Try.f16.results.toList=zH zi T P [(ResultVar.tmp 6)] from by kernel_rfl).trans (by simp only [zH])) (by kernel_rfl))
end Go.Proofs.Ytacbgjhmkhjpoaa
namespace Go.Proofs.Ytacbgjhmkhjpoaa
open Go.Abs
abbrev slices_Clone.id:FuncId:=21
noncomputable def slices_Clone.code:Code:=(.seq (.region 0 (reg Try.f21 0) false) (.seq (.seq (.region 1 (reg Try.f21 1) false) (.cond (.tmp 4) (.seq (.region 2 (reg Try.f21 2) false) Code.ret) Code.skip)) (.seq (.region 3 (reg Try.f21 3) false) Code.ret)))
theorem slices_Clone.body:Try.f21.body=some slices_Clone.code:=by kernel_rfl
variable (b c l f g i j k:Value) (S:zx)
theorem slices_Clone.r0 :jd zi ⟨false,false,false⟩ (zO zi O) (reg Try.f21 0) (reg Try.f21 0).toList ([b,c,l,f,g,i,j,k]) S =
  ( some ([b,c,Value.slice none 0 0,f,g,i,j,k],S)):=by
 kernel_rfl
theorem slices_Clone.r1 :jd zi ⟨false,false,false⟩ (zO zi O) (reg Try.f21 1) (reg Try.f21 1).toList ([b,c,l,f,g,i,j,k]) S =
  (zS (wR zi BinOp.eql 23 (dem b) (Value.slice none 0 0) S) (fun o d=>some ([b,c,l,dem b,o,i,j,k],d)) ()):=by
 kernel_rfl
theorem slices_Clone.r2 :jd zi ⟨false,false,false⟩ (zO zi O) (reg Try.f21 2) (reg Try.f21 2).toList ([b,c,l,f,g,i,j,k]) S =
  ( some ([b,c,Value.slice none 0 0,f,g,i,j,k],S)):=by
 kernel_rfl
theorem slices_Clone.r3 :jd zi ⟨false,false,false⟩ (zO zi O) (reg Try.f21 3) (reg Try.f21 3).toList ([b,c,l,f,g,i,j,k]) S =
  (zS (jw zi 23 0 [] S) (fun m d=>zS (qo zi 23 23 m (dem b) d) (fun n p=>some ([b,c,n,f,g,dem m,dem b,dem n],p)) ()) ()):=by
 kernel_rfl
theorem slices_Clone.rs:type_of% (afz @slices_Clone.r0 (afz @slices_Clone.r1 (afz @slices_Clone.r2 (@slices_Clone.r3)))):=afz @slices_Clone.r0 (afz @slices_Clone.r1 (afz @slices_Clone.r2 (@slices_Clone.r3)))
theorem slices_Clone.runs {b:Value} {S d:zx} {e:AEx} {T:List Value} (h:zD zi O false slices_Clone.code ([b,zh,zh,zh,zh,zh,zh,zh]) S=some (e,T,d)) (he:e=.normal∨e=.ret):zO zi O 21 [b] S=some (T.getD 2 zh,d) :=
 jA rfl rfl Try.func21 (by decide) slices_Clone.body (by exact h) he (jG (a:=T.getD 2 zh) ((show zH zi T d Try.f21.results.toList=zH zi T d [(ResultVar.tmp 2)] from by kernel_rfl).trans (by simp only [zH])) (by kernel_rfl))
end Go.Proofs.Ytacbgjhmkhjpoaa
namespace Go.Proofs.Ytacbgjhmkhjpoaa
open Go.Abs
abbrev jf.id:FuncId:=10
noncomputable def jf.code:Code:=(.seq (.region 0 (reg Try.f10 0) false) (.seq (.region 1 (reg Try.f10 1) false) Code.ret))
theorem jf.body:Try.f10.body=some jf.code:=by kernel_rfl
variable (f c d:Value) (S:zx)
theorem jf.r0 :jd zi ⟨false,false,false⟩ (zO zi O) (reg Try.f10 0) (reg Try.f10 0).toList ([f,c,d]) S =
  ( some ([Value.pointer none,c,d],S)):=by
 kernel_rfl
theorem jf.r1 :jd zi ⟨false,false,false⟩ (zO zi O) (reg Try.f10 1) (reg Try.f10 1).toList ([f,c,d]) S =
  (zS (wW zi 49 [] S) (fun g b=>zS (ZQ (dem g) b) (fun i j=>some ([i,g,dem i],j)) ()) ()):=by
 kernel_rfl
theorem jf.rs:type_of% (afz @jf.r0 (@jf.r1)):=afz @jf.r0 (@jf.r1)
theorem jf.runs {S b:zx} {e:AEx} {T:List Value} (h:zD zi O false jf.code ([zh,zh,zh]) S=some (e,T,b)) (he:e=.normal∨e=.ret):zO zi O 10 [] S=some (T.getD 0 zh,b) :=
 jA rfl rfl Try.func10 (by decide) jf.body (by exact h) he (jG (a:=T.getD 0 zh) ((show zH zi T b Try.f10.results.toList=zH zi T b [(ResultVar.tmp 0)] from by kernel_rfl).trans (by simp only [zH])) (by kernel_rfl))
end Go.Proofs.Ytacbgjhmkhjpoaa
namespace Go.Proofs.Ytacbgjhmkhjpoaa
open Go.Abs
abbrev zB.id:FuncId:=12
noncomputable def zB.code:Code:=(.seq (.region 0 (reg Try.f12 0) false) (.seq (.seq (.region 1 (reg Try.f12 1) false) (.cond (.tmp 8) (.seq (.region 2 (reg Try.f12 2) false) Code.ret) Code.skip)) (.seq (.seq (.region 3 (reg Try.f12 3) false) (.cond (.tmp 14) (.seq (.region 4 (reg Try.f12 4) false) Code.ret) Code.skip)) (.seq (.region 5 (reg Try.f12 5) false) (.seq (.seq (.region 6 (reg Try.f12 6) false) (.cond (.tmp 22) (.region 7 (reg Try.f12 7) false) Code.skip)) (.seq (.seq (.region 8 (reg Try.f12 8) false) (.cond (.tmp 29) (.seq (.region 9 (reg Try.f12 9) false) Code.ret) Code.skip)) (.seq (.region 10 (reg Try.f12 10) true) (.seq (.region 11 (reg Try.f12 11) true) (.seq (.region 12 (reg Try.f12 12) false) Code.ret)))))))))
theorem zB.body:Try.f12.body=some zB.code:=by kernel_rfl
variable (b x1 x2 x3 x4 x5 x6 x7 x8 x9 c d f g i j k l m n o p q r s t u w x y z A B C D E F G H I J K L M N P Q R U V W X Y Z a0:Value) (S:zx)
theorem zB.r0 :jd zi ⟨true,false,false⟩ (jU O.hp true (zO zi O)) (reg Try.f12 0) (reg Try.f12 0).toList ([b,x1,x2,x3,x4,x5,x6,x7,x8,x9,c,d,f,g,i,j,k,l,m,n,o,p,q,r,s,t,u,w,x,y,z,A,B,C,D,E,F,G,H,I,J,K,L,M,N,P,Q,R,U,V,W,X,Y,Z,a0]) S =
  (zS (ZQ (dem x1) S) (fun v0 S1=>some ([b,x1,x2,v0,.int .i64 0,x5,x6,x7,x8,x9,c,d,f,g,i,j,k,l,m,n,o,p,q,r,s,t,u,w,x,y,z,A,B,C,D,E,F,G,H,I,J,K,L,M,N,P,Q,R,U,V,W,X,Y,Z,a0],S1)) ()):=by
 kernel_rfl
theorem zB.r1 :jd zi ⟨true,false,false⟩ (jU O.hp true (zO zi O)) (reg Try.f12 1) (reg Try.f12 1).toList ([b,x1,x2,x3,x4,x5,x6,x7,x8,x9,c,d,f,g,i,j,k,l,m,n,o,p,q,r,s,t,u,w,x,y,z,A,B,C,D,E,F,G,H,I,J,K,L,M,N,P,Q,R,U,V,W,X,Y,Z,a0]) S =
  (zS (je zi false 30 x3 S) (fun v0 S1=>zS (xB (zO zi O) 22 [(dem v0)] S1) (fun v1 S2=>zS (aUn zi UnOp.not v1 S2) (fun v2 S3=>some ([b,x1,x2,x3,x4,x5,v0,v1,v2,x9,c,d,f,g,i,j,k,l,m,n,o,p,q,r,s,t,u,w,x,y,z,A,B,C,D,E,F,G,H,I,J,K,L,M,N,P,Q,R,U,V,W,X,Y,Z,a0],S3)) ()) ()) ()):=by
 kernel_rfl
theorem zB.r2 :jd zi ⟨true,false,false⟩ (jU O.hp true (zO zi O)) (reg Try.f12 2) (reg Try.f12 2).toList ([b,x1,x2,x3,x4,x5,x6,x7,x8,x9,c,d,f,g,i,j,k,l,m,n,o,p,q,r,s,t,u,w,x,y,z,A,B,C,D,E,F,G,H,I,J,K,L,M,N,P,Q,R,U,V,W,X,Y,Z,a0]) S =
  ( some ([b,x1,x2,x3,.int .i64 61,x5,x6,x7,x8,x9,c,d,f,g,i,j,k,l,m,n,o,p,q,r,s,t,u,w,x,y,z,A,B,C,D,E,F,G,H,I,J,K,L,M,N,P,Q,R,U,V,W,X,Y,Z,a0],S)):=by
 kernel_rfl
theorem zB.r3 :jd zi ⟨true,false,false⟩ (jU O.hp true (zO zi O)) (reg Try.f12 3) (reg Try.f12 3).toList ([b,x1,x2,x3,x4,x5,x6,x7,x8,x9,c,d,f,g,i,j,k,l,m,n,o,p,q,r,s,t,u,w,x,y,z,A,B,C,D,E,F,G,H,I,J,K,L,M,N,P,Q,R,U,V,W,X,Y,Z,a0]) S =
  (zS (jS (dem b) S) (fun v1 S1=>zS (zQ zi 49 v1 0 S1) (fun v2 S2=>zS (je zi false 23 v2 S2) (fun v3 S3=>zS (xB (zO zi O) 23 [(dem v3),(Value.func (Fn.func 24) #[] #[(dem x3)])] S3) (fun v5 S4=>some ([b,x1,x2,x3,x4,x5,x6,x7,x8,dem b,v1,v2,v3,Value.func (Fn.func 24) #[] #[(dem x3)],v5,j,k,l,m,n,o,p,q,r,s,t,u,w,x,y,z,A,B,C,D,E,F,G,H,I,J,K,L,M,N,P,Q,R,U,V,W,X,Y,Z,a0],S4)) ()) ()) ()) ()):=by
 kernel_rfl
theorem zB.r4 :jd zi ⟨true,false,false⟩ (jU O.hp true (zO zi O)) (reg Try.f12 4) (reg Try.f12 4).toList ([b,x1,x2,x3,x4,x5,x6,x7,x8,x9,c,d,f,g,i,j,k,l,m,n,o,p,q,r,s,t,u,w,x,y,z,A,B,C,D,E,F,G,H,I,J,K,L,M,N,P,Q,R,U,V,W,X,Y,Z,a0]) S =
  ( some ([b,x1,x2,x3,.int .i64 91,x5,x6,x7,x8,x9,c,d,f,g,i,j,k,l,m,n,o,p,q,r,s,t,u,w,x,y,z,A,B,C,D,E,F,G,H,I,J,K,L,M,N,P,Q,R,U,V,W,X,Y,Z,a0],S)):=by
 kernel_rfl
theorem zB.r5 :jd zi ⟨true,false,false⟩ (jU O.hp true (zO zi O)) (reg Try.f12 5) (reg Try.f12 5).toList ([b,x1,x2,x3,x4,x5,x6,x7,x8,x9,c,d,f,g,i,j,k,l,m,n,o,p,q,r,s,t,u,w,x,y,z,A,B,C,D,E,F,G,H,I,J,K,L,M,N,P,Q,R,U,V,W,X,Y,Z,a0]) S =
  (zS (jS (dem b) S) (fun v1 S1=>zS (zQ zi 49 v1 0 S1) (fun v2 S2=>zS (je zi false 23 v2 S2) (fun v3 S3=>zS (xB (zO zi O) 25 [(dem v3),(Value.func (Fn.func 26) #[] #[(dem x3)])] S3) (fun v5 S4=>some ([b,x1,x2,x3,x4,v5,x6,x7,x8,x9,c,d,f,g,i,dem b,v1,v2,v3,Value.func (Fn.func 26) #[] #[(dem x3)],dem v5,p,q,r,s,t,u,w,x,y,z,A,B,C,D,E,F,G,H,I,J,K,L,M,N,P,Q,R,U,V,W,X,Y,Z,a0],S4)) ()) ()) ()) ()):=by
 kernel_rfl
theorem zB.r6 :jd zi ⟨true,false,false⟩ (jU O.hp true (zO zi O)) (reg Try.f12 6) (reg Try.f12 6).toList ([b,x1,x2,x3,x4,x5,x6,x7,x8,x9,c,d,f,g,i,j,k,l,m,n,o,p,q,r,s,t,u,w,x,y,z,A,B,C,D,E,F,G,H,I,J,K,L,M,N,P,Q,R,U,V,W,X,Y,Z,a0]) S =
  (zS (wR zi BinOp.lss 3 (dem x5) (.int .i64 0) S) (fun v1 S1=>some ([b,x1,x2,x3,x4,x5,x6,x7,x8,x9,c,d,f,g,i,j,k,l,m,n,o,dem x5,v1,r,s,t,u,w,x,y,z,A,B,C,D,E,F,G,H,I,J,K,L,M,N,P,Q,R,U,V,W,X,Y,Z,a0],S1)) ()):=by
 kernel_rfl
theorem zB.r7 :jd zi ⟨true,false,false⟩ (jU O.hp true (zO zi O)) (reg Try.f12 7) (reg Try.f12 7).toList ([b,x1,x2,x3,x4,x5,x6,x7,x8,x9,c,d,f,g,i,j,k,l,m,n,o,p,q,r,s,t,u,w,x,y,z,A,B,C,D,E,F,G,H,I,J,K,L,M,N,P,Q,R,U,V,W,X,Y,Z,a0]) S =
  (zS (jS (dem b) S) (fun v1 S1=>zS (zQ zi 49 v1 0 S1) (fun v2 S2=>zS (je zi false 23 v2 S2) (fun v3 S3=>zS (kP zi 23 v3 S3) (fun v4 S4=>some ([b,x1,x2,x3,x4,v4,x6,x7,x8,x9,c,d,f,g,i,j,k,l,m,n,o,p,q,dem b,v1,v2,v3,dem v4,x,y,z,A,B,C,D,E,F,G,H,I,J,K,L,M,N,P,Q,R,U,V,W,X,Y,Z,a0],S4)) ()) ()) ()) ()):=by
 kernel_rfl
theorem zB.r8 :jd zi ⟨true,false,false⟩ (jU O.hp true (zO zi O)) (reg Try.f12 8) (reg Try.f12 8).toList ([b,x1,x2,x3,x4,x5,x6,x7,x8,x9,c,d,f,g,i,j,k,l,m,n,o,p,q,r,s,t,u,w,x,y,z,A,B,C,D,E,F,G,H,I,J,K,L,M,N,P,Q,R,U,V,W,X,Y,Z,a0]) S =
  (zS (wR zi BinOp.eql 3 (dem x5) (.int .i64 16) S) (fun v1 S1=>some ([b,x1,x2,x3,x4,x5,x6,x7,x8,x9,c,d,f,g,i,j,k,l,m,n,o,p,q,r,s,t,u,w,dem x5,v1,z,A,B,C,D,E,F,G,H,I,J,K,L,M,N,P,Q,R,U,V,W,X,Y,Z,a0],S1)) ()):=by
 kernel_rfl
theorem zB.r9 :jd zi ⟨true,false,false⟩ (jU O.hp true (zO zi O)) (reg Try.f12 9) (reg Try.f12 9).toList ([b,x1,x2,x3,x4,x5,x6,x7,x8,x9,c,d,f,g,i,j,k,l,m,n,o,p,q,r,s,t,u,w,x,y,z,A,B,C,D,E,F,G,H,I,J,K,L,M,N,P,Q,R,U,V,W,X,Y,Z,a0]) S =
  ( some ([b,x1,x2,x3,.int .i64 91,x5,x6,x7,x8,x9,c,d,f,g,i,j,k,l,m,n,o,p,q,r,s,t,u,w,x,y,z,A,B,C,D,E,F,G,H,I,J,K,L,M,N,P,Q,R,U,V,W,X,Y,Z,a0],S)):=by
 kernel_rfl
theorem zB.d10:qO zi (reg Try.f12 10)=true:=by kernel_rfl
theorem zB.afw:fixed zi (reg Try.f12 10)=false:=by kernel_rfl
theorem zB.k10:checked zi (reg Try.f12 10)=[0,0,1,2,3,4,5]:=by kernel_rfl
theorem zB.g10:again zi (reg Try.f12 10)=[(4,7)]:=by kernel_rfl
theorem zB.r10 :zD zi O true (.region 10 (reg Try.f12 10) true) ([b,x1,x2,x3,x4,x5,x6,x7,x8,x9,c,d,f,g,i,j,k,l,m,n,o,p,q,r,s,t,u,w,x,y,z,A,B,C,D,E,F,G,H,I,J,K,L,M,N,P,Q,R,U,V,W,X,Y,Z,a0]) S =
  QN (okK b ( okK b ( zS (jS (dem b) S) (fun v2 S1=>okK v2 ( zS (zQ zi 49 v2 0 S1) (fun v3 S2=>okK v3 ( zS (je zi false 23 v3 S2) (fun v4 S3=>okK v4 ( okK x5 ( zS (je zi false 30 x3 S3) (fun v6 S4=>zS (jy zi 23 1 [(0,(dem v6))] S4) (fun v7 S5=>zS ((zO zi O) 28 [(dem v4),(dem (dem x5)),(dem v7)] S5) (fun v8 S6=>zS (jS (dem b) S6) (fun v9 S7=>zS (zQ zi 49 v9 0 S7) (fun a1 S8=>zS (qm zi 23 a1 (dem v8) S8) (fun a2 S9=>ckK (yC v3 S2 S5 && (true)) (some ([b,x1,x2,x3,x4,x5,x6,x7,x8,x9,c,d,f,g,i,j,k,l,m,n,o,p,q,r,s,t,u,w,x,y,dem b,dem b,v2,v3,v4,dem x5,v6,v7,v8,v9,a1,K,L,M,N,P,Q,R,U,V,W,X,Y,Z,a0],S9)) ()) ()) ()) ()) ()) ()) ()) ()) ()) ()) ()) ()) ()) ()) ()) ()):=by
 rw [vG zB.d10 zB.afw zB.k10 zB.g10]
 refine congrArg QN ?_
 refine uPC Try.f12 10 0 (v:=b) (pe:=zh) ?_
 refine uPC Try.f12 10 1 (v:=b) (pe:=zh) ?_
 refine uDC Try.f12 10 2 (pe:=zh) (fun v2 S1=>?_)
 refine uDC Try.f12 10 3 (pe:=zh) (fun v3 S2=>?_)
 refine uDC Try.f12 10 4 (pe:=v3) (fun v4 S3=>?_)
 refine uPC Try.f12 10 5 (v:=x5) (pe:=zh) ?_
 refine uD Try.f12 10 6 (pe:=x3) (fun v6 S4=>?_)
 refine uD Try.f12 10 7 (pe:=zh) (fun v7 S5=>?_)
 refine uD Try.f12 10 8 (pe:=zh) (fun v8 S6=>?_)
 refine uD Try.f12 10 9 (pe:=zh) (fun v9 S7=>?_)
 refine uD Try.f12 10 10 (pe:=zh) (fun a1 S8=>?_)
 refine uD Try.f12 10 11 (pe:=zh) (fun a2 S9=>?_)
 kernel_rfl
theorem zB.d11:qO zi (reg Try.f12 11)=true:=by kernel_rfl
theorem zB.afy:fixed zi (reg Try.f12 11)=false:=by kernel_rfl
theorem zB.k11:checked zi (reg Try.f12 11)=[]:=by kernel_rfl
theorem zB.g11:again zi (reg Try.f12 11)=[]:=by kernel_rfl
theorem zB.r11 :zD zi O true (.region 11 (reg Try.f12 11) true) ([b,x1,x2,x3,x4,x5,x6,x7,x8,x9,c,d,f,g,i,j,k,l,m,n,o,p,q,r,s,t,u,w,x,y,z,A,B,C,D,E,F,G,H,I,J,K,L,M,N,P,Q,R,U,V,W,X,Y,Z,a0]) S =
  QN (zS (jS (dem b) S) (fun v2 S1=>zS (zQ zi 49 v2 0 S1) (fun v3 S2=>zS (je zi false 23 v3 S2) (fun v4 S3=>zS (jS (dem b) S3) (fun v6 S4=>zS (zQ zi 49 v6 0 S4) (fun v7 S5=>zS (je zi false 23 v7 S5) (fun v8 S6=>zS (kP zi 23 v8 S6) (fun v9 S7=>zS (kE zi true Builtin.min #[3,3] 3 [v9,(.int .i64 16)] S7) (fun a1 S8=>zS (wV zi false 23 v4 none (some a1) S8) (fun a2 S9=>zS (jS (dem b) S9) (fun a3 a5=>zS (zQ zi 49 a3 0 a5) (fun a4 a6=>zS (qm zi 23 a4 (dem a2) a6) (fun a8 a7=>some ([b,x1,x2,x3,x4,x5,x6,x7,x8,x9,c,d,f,g,i,j,k,l,m,n,o,p,q,r,s,t,u,w,x,y,z,A,B,C,D,E,F,G,H,I,J,dem b,dem b,v2,v3,v4,dem b,v6,v7,v8,v9,a1,a2,a3,a4],a7)) ()) ()) ()) ()) ()) ()) ()) ()) ()) ()) ()) ()):=by
 rw [vG zB.d11 zB.afy zB.k11 zB.g11]
 refine congrArg QN ?_
 refine tP Try.f12 11 0 (v:=b) ?_
 refine tP Try.f12 11 1 (v:=b) ?_
 refine tD Try.f12 11 2 (fun v2 S1=>?_)
 refine tD Try.f12 11 3 (fun v3 S2=>?_)
 refine tD Try.f12 11 4 (fun v4 S3=>?_)
 refine tP Try.f12 11 5 (v:=b) ?_
 refine tD Try.f12 11 6 (fun v6 S4=>?_)
 refine tD Try.f12 11 7 (fun v7 S5=>?_)
 refine tD Try.f12 11 8 (fun v8 S6=>?_)
 refine tD Try.f12 11 9 (fun v9 S7=>?_)
 refine tD Try.f12 11 10 (fun a1 S8=>?_)
 refine tD Try.f12 11 11 (fun a2 S9=>?_)
 refine tD Try.f12 11 12 (fun a3 a5=>?_)
 refine tD Try.f12 11 13 (fun a4 a6=>?_)
 refine tD Try.f12 11 14 (fun a8 a7=>?_)
 kernel_rfl
theorem zB.r12 :jd zi ⟨true,false,false⟩ (jU O.hp true (zO zi O)) (reg Try.f12 12) (reg Try.f12 12).toList ([b,x1,x2,x3,x4,x5,x6,x7,x8,x9,c,d,f,g,i,j,k,l,m,n,o,p,q,r,s,t,u,w,x,y,z,A,B,C,D,E,F,G,H,I,J,K,L,M,N,P,Q,R,U,V,W,X,Y,Z,a0]) S =
  ( some ([b,x1,x2,x3,.int .i64 0,x5,x6,x7,x8,x9,c,d,f,g,i,j,k,l,m,n,o,p,q,r,s,t,u,w,x,y,z,A,B,C,D,E,F,G,H,I,J,K,L,M,N,P,Q,R,U,V,W,X,Y,Z,a0],S)):=by
 kernel_rfl
theorem zB.rs:type_of% (afz @zB.r0 (afz @zB.r1 (afz @zB.r2 (afz @zB.r3 (afz @zB.r4 (afz @zB.r5 (afz @zB.r6 (afz @zB.r7 (afz @zB.r8 (afz @zB.r9 (afz @zB.r10 (afz @zB.r11 (@zB.r12))))))))))))):=afz @zB.r0 (afz @zB.r1 (afz @zB.r2 (afz @zB.r3 (afz @zB.r4 (afz @zB.r5 (afz @zB.r6 (afz @zB.r7 (afz @zB.r8 (afz @zB.r9 (afz @zB.r10 (afz @zB.r11 (@zB.r12))))))))))))
theorem zB.runs {b x1:Value} {S S1:zx} {e:AEx} {T:List Value} (h:zD zi O true zB.code ([b,x1,zh,zh,zh,zh,zh,zh,zh,zh,zh,zh,zh,zh,zh,zh,zh,zh,zh,zh,zh,zh,zh,zh,zh,zh,zh,zh,zh,zh,zh,zh,zh,zh,zh,zh,zh,zh,zh,zh,zh,zh,zh,zh,zh,zh,zh,zh,zh,zh,zh,zh,zh,zh,zh]) S=some (e,T,S1)) (he:e=.normal∨e=.ret):zO zi O 12 [b,x1] S=some (T.getD 4 zh,S1) :=
 jA rfl rfl Try.func12 (by decide) zB.body (by exact h) he (jG (a:=T.getD 4 zh) ((show zH zi T S1 Try.f12.results.toList=zH zi T S1 [(ResultVar.tmp 4)] from by kernel_rfl).trans (by simp only [zH])) (by kernel_rfl))
end Go.Proofs.Ytacbgjhmkhjpoaa
namespace Go.Proofs.Ytacbgjhmkhjpoaa
open Go.Abs
abbrev zK.id:FuncId:=24
noncomputable def zK.code:Code:=(.seq (.region 0 (reg Try.f24 0) false) (.seq (.region 1 (reg Try.f24 1) false) Code.ret))
theorem zK.body:Try.f24.body=some zK.code:=by kernel_rfl
variable (b c f n i j k l m:Value) (S:zx)
theorem zK.r0 :jd zi ⟨false,false,false⟩ (zO zi O) (reg Try.f24 0) (reg Try.f24 0).toList ([b,c,f,n,i,j,k,l,m]) S =
  (zS (ZQ (dem b) S) (fun g d=>some ([b,c,g,Value.bool false,i,j,k,l,m],d)) ()):=by
 kernel_rfl
theorem zK.r1 :jd zi ⟨false,false,false⟩ (zO zi O) (reg Try.f24 1) (reg Try.f24 1).toList ([b,c,f,n,i,j,k,l,m]) S =
  (zS (zQ zi 30 f 0 S) (fun g d=>zS (je zi false 3 g d) (fun o s=>zS (zQ zi 30 c 0 s) (fun p t=>zS (je zi false 3 p t) (fun q u=>zS (wR zi BinOp.eql 3 o q u) (fun r v=>some ([b,c,f,r,g,o,p,q,dem r],v)) ()) ()) ()) ()) ()):=by
 kernel_rfl
theorem zK.rs:type_of% (afz @zK.r0 (@zK.r1)):=afz @zK.r0 (@zK.r1)
theorem zK.runs {b c:Value} {S d:zx} {e:AEx} {T:List Value} (h:zD zi O false zK.code ([b,c,zh,zh,zh,zh,zh,zh,zh]) S=some (e,T,d)) (he:e=.normal∨e=.ret):zO zi O 24 [b,c] S=some (T.getD 3 zh,d) :=
 jA rfl rfl Try.func24 (by decide) zK.body (by exact h) he (jG (a:=T.getD 3 zh) ((show zH zi T d Try.f24.results.toList=zH zi T d [(ResultVar.tmp 3)] from by kernel_rfl).trans (by simp only [zH])) (by kernel_rfl))
end Go.Proofs.Ytacbgjhmkhjpoaa
namespace Go.Proofs.Ytacbgjhmkhjpoaa
open Go.Abs
abbrev zL.id:FuncId:=26
noncomputable def zL.code:Code:=(.seq (.region 0 (reg Try.f26 0) false) (.seq (.region 1 (reg Try.f26 1) false) Code.ret))
theorem zL.body:Try.f26.body=some zL.code:=by kernel_rfl
variable (b c f l i j k:Value) (S:zx)
theorem zL.r0 :jd zi ⟨false,false,false⟩ (zO zi O) (reg Try.f26 0) (reg Try.f26 0).toList ([b,c,f,l,i,j,k]) S =
  (zS (ZQ (dem b) S) (fun g d=>some ([b,c,g,Value.bool false,i,j,k],d)) ()):=by
 kernel_rfl
theorem zL.r1 :jd zi ⟨false,false,false⟩ (zO zi O) (reg Try.f26 1) (reg Try.f26 1).toList ([b,c,f,l,i,j,k]) S =
  (zS (je zi false 30 c S) (fun g d=>zS (je zi false 30 f d) (fun m o=>zS ((zO zi O) 27 [(dem g),(dem m)] o) (fun n p=>some ([b,c,f,n,g,m,dem n],p)) ()) ()) ()):=by
 kernel_rfl
theorem zL.rs:type_of% (afz @zL.r0 (@zL.r1)):=afz @zL.r0 (@zL.r1)
theorem zL.runs {b c:Value} {S d:zx} {e:AEx} {T:List Value} (h:zD zi O false zL.code ([b,c,zh,zh,zh,zh,zh]) S=some (e,T,d)) (he:e=.normal∨e=.ret):zO zi O 26 [b,c] S=some (T.getD 3 zh,d) :=
 jA rfl rfl Try.func26 (by decide) zL.body (by exact h) he (jG (a:=T.getD 3 zh) ((show zH zi T d Try.f26.results.toList=zH zi T d [(ResultVar.tmp 3)] from by kernel_rfl).trans (by simp only [zH])) (by kernel_rfl))
end Go.Proofs.Ytacbgjhmkhjpoaa
namespace Go.Proofs.Ytacbgjhmkhjpoaa
open Go.Abs
abbrev slices_ContainsFunc.id:FuncId:=23
noncomputable def slices_ContainsFunc.code:Code:=(.seq (.region 0 (reg Try.f23 0) false) (.seq (.region 1 (reg Try.f23 1) false) Code.ret))
theorem slices_ContainsFunc.body:Try.f23.body=some slices_ContainsFunc.code:=by kernel_rfl
variable (b c f g m i j k l:Value) (S:zx)
theorem slices_ContainsFunc.r0 :jd zi ⟨false,false,false⟩ (zO zi O) (reg Try.f23 0) (reg Try.f23 0).toList ([b,c,f,g,m,i,j,k,l]) S =
  ( some ([b,c,f,g,Value.bool false,i,j,k,l],S)):=by
 kernel_rfl
theorem slices_ContainsFunc.r1 :jd zi ⟨false,false,false⟩ (zO zi O) (reg Try.f23 1) (reg Try.f23 1).toList ([b,c,f,g,m,i,j,k,l]) S =
  (zS ((zO zi O) 25 [(dem (dem b)),(dem (dem c))] S) (fun n d=>zS (wR zi BinOp.geq 3 n (.int .i64 0) d) (fun o p=>some ([b,c,f,g,o,dem b,dem c,n,dem o],p)) ()) ()):=by
 kernel_rfl
theorem slices_ContainsFunc.rs:type_of% (afz @slices_ContainsFunc.r0 (@slices_ContainsFunc.r1)):=afz @slices_ContainsFunc.r0 (@slices_ContainsFunc.r1)
theorem slices_ContainsFunc.runs {b c:Value} {S d:zx} {e:AEx} {T:List Value} (h:zD zi O false slices_ContainsFunc.code ([b,c,zh,zh,zh,zh,zh,zh,zh]) S=some (e,T,d)) (he:e=.normal∨e=.ret):zO zi O 23 [b,c] S=some (T.getD 4 zh,d) :=
 jA rfl rfl Try.func23 (by decide) slices_ContainsFunc.body (by exact h) he (jG (a:=T.getD 4 zh) ((show zH zi T d Try.f23.results.toList=zH zi T d [(ResultVar.tmp 4)] from by kernel_rfl).trans (by simp only [zH])) (by kernel_rfl))
end Go.Proofs.Ytacbgjhmkhjpoaa
namespace Go.Proofs.Ytacbgjhmkhjpoaa
open Go.Abs
abbrev zy.id:FuncId:=15
noncomputable def zy.jh:Code:=(.seq (.region 4 (reg Try.f15 4) false) (.seq (.cond (.tmp 14) Code.skip (.exit 0)) (.seq (.block 1 (.seq (.region 5 (reg Try.f15 5) false) (.seq (.region 6 (reg Try.f15 6) true) (.cond (.tmp 24) (.seq (.region 7 (reg Try.f15 7) false) Code.ret) Code.skip)))) (.region 8 (reg Try.f15 8) false))))
noncomputable def zy.code:Code:=(.seq (.region 0 (reg Try.f15 0) false) (.seq (.seq (.region 1 (reg Try.f15 1) false) (.cond (.tmp 10) (.seq (.region 2 (reg Try.f15 2) false) Code.ret) Code.skip)) (.seq (.seq (.region 3 (reg Try.f15 3) false) (.block 0 (.loop zy.jh))) (.seq (.region 9 (reg Try.f15 9) false) Code.ret))))
theorem zy.body:Try.f15.body=some zy.code:=by kernel_rfl
theorem zy.eta {T:List Value} (h:T.length=26):T=[T.getD 0 zh,T.getD 1 zh,T.getD 2 zh,T.getD 3 zh,T.getD 4 zh,T.getD 5 zh,T.getD 6 zh,T.getD 7 zh,T.getD 8 zh,T.getD 9 zh,T.getD 10 zh,T.getD 11 zh,T.getD 12 zh,T.getD 13 zh,T.getD 14 zh,T.getD 15 zh,T.getD 16 zh,T.getD 17 zh,T.getD 18 zh,T.getD 19 zh,T.getD 20 zh,T.getD 21 zh,T.getD 22 zh,T.getD 23 zh,T.getD 24 zh,T.getD 25 zh]:=(qC T 26 h).trans (by kernel_rfl)
variable (d u x y D w z A B C f g c b i j k l m n o p q r s t:Value) (S:zx)
theorem zy.r0 :jd zi ⟨false,false,false⟩ (zO zi O) (reg Try.f15 0) (reg Try.f15 0).toList ([d,u,x,y,D,w,z,A,B,C,f,g,c,b,i,j,k,l,m,n,o,p,q,r,s,t]) S =
  ( some ([d,u,x,y,Value.bool false,w,z,A,B,C,f,g,c,b,i,j,k,l,m,n,o,p,q,r,s,t],S)):=by
 kernel_rfl
theorem zy.r1 :jd zi ⟨false,false,false⟩ (zO zi O) (reg Try.f15 1) (reg Try.f15 1).toList ([d,u,x,y,D,w,z,A,B,C,f,g,c,b,i,j,k,l,m,n,o,p,q,r,s,t]) S =
  (zS (kP zi 23 (dem d) S) (fun G E=>zS (kP zi 23 (dem u) E) (fun F H=>zS (wR zi BinOp.neq 3 G F H) (fun R I=>some ([d,u,x,y,D,w,dem d,G,dem u,F,R,g,c,b,i,j,k,l,m,n,o,p,q,r,s,t],I)) ()) ()) ()):=by
 kernel_rfl
theorem zy.r2 :jd zi ⟨false,false,false⟩ (zO zi O) (reg Try.f15 2) (reg Try.f15 2).toList ([d,u,x,y,D,w,z,A,B,C,f,g,c,b,i,j,k,l,m,n,o,p,q,r,s,t]) S =
  ( some ([d,u,x,y,Value.bool false,w,z,A,B,C,f,g,c,b,i,j,k,l,m,n,o,p,q,r,s,t],S)):=by
 kernel_rfl
theorem zy.r3 :jd zi ⟨false,false,false⟩ (zO zi O) (reg Try.f15 3) (reg Try.f15 3).toList ([d,u,x,y,D,w,z,A,B,C,f,g,c,b,i,j,k,l,m,n,o,p,q,r,s,t]) S =
  (zS (kP zi 23 (dem d) S) (fun G E=>some ([d,u,x,y,D,w,z,A,B,C,f,dem d,G,.int .i64 0,i,j,k,l,m,n,o,p,q,r,s,t],E)) ()):=by
 kernel_rfl
theorem zy.r4 :jd zi ⟨false,false,false⟩ (zO zi O) (reg Try.f15 4) (reg Try.f15 4).toList ([d,u,x,y,D,w,z,A,B,C,f,g,c,b,i,j,k,l,m,n,o,p,q,r,s,t]) S =
  (zS (wR zi BinOp.lss 3 b c S) (fun J E=>some ([d,u,x,y,D,w,z,A,B,C,f,g,c,b,J,j,k,l,m,n,o,p,q,r,s,t],E)) ()):=by
 kernel_rfl
theorem zy.r5 :jd zi ⟨false,false,false⟩ (zO zi O) (reg Try.f15 5) (reg Try.f15 5).toList ([d,u,x,y,D,w,z,A,B,C,f,g,c,b,i,j,k,l,m,n,o,p,q,r,s,t]) S =
  ( some ([d,u,x,y,D,b,z,A,B,C,f,g,c,dem b,i,dem b,k,l,m,n,o,p,q,r,s,t],S)):=by
 kernel_rfl
theorem zy.d6:qO zi (reg Try.f15 6)=true:=by kernel_rfl
theorem zy.ff6:fixed zi (reg Try.f15 6)=false:=by kernel_rfl
theorem zy.k6:checked zi (reg Try.f15 6)=[]:=by kernel_rfl
theorem zy.g6:again zi (reg Try.f15 6)=[]:=by kernel_rfl
theorem zy.r6 :zD zi O false (.region 6 (reg Try.f15 6) true) ([d,u,x,y,D,w,z,A,B,C,f,g,c,b,i,j,k,l,m,n,o,p,q,r,s,t]) S =
  QN (zS (zV zi 23 (dem d) (dem w) S) (fun K E=>zS (je zi false 30 K E) (fun F H=>zS (zV zi 23 (dem u) (dem w) H) (fun L I=>zS (je zi false 30 L I) (fun M N=>zS (wR zi BinOp.neq 30 F M N) (fun P Q=>some ([d,u,x,y,D,w,z,A,B,C,f,g,c,b,i,j,dem d,dem w,K,F,dem u,dem w,L,M,P,t],Q)) ()) ()) ()) ()) ()):=by
 rw [Zy zy.d6 zy.ff6 zy.k6 zy.g6]
 refine congrArg QN ?_
 refine tP Try.f15 6 0 (v:=d) ?_
 refine tP Try.f15 6 1 (v:=w) ?_
 refine tD Try.f15 6 2 (fun K E=>?_)
 refine tD Try.f15 6 3 (fun F H=>?_)
 refine tP Try.f15 6 4 (v:=u) ?_
 refine tP Try.f15 6 5 (v:=w) ?_
 refine tD Try.f15 6 6 (fun L I=>?_)
 refine tD Try.f15 6 7 (fun M N=>?_)
 refine tD Try.f15 6 8 (fun P Q=>?_)
 kernel_rfl
theorem zy.r7 :jd zi ⟨false,false,false⟩ (zO zi O) (reg Try.f15 7) (reg Try.f15 7).toList ([d,u,x,y,D,w,z,A,B,C,f,g,c,b,i,j,k,l,m,n,o,p,q,r,s,t]) S =
  ( some ([d,u,x,y,Value.bool false,w,z,A,B,C,f,g,c,b,i,j,k,l,m,n,o,p,q,r,s,t],S)):=by
 kernel_rfl
theorem zy.r8 :jd zi ⟨false,false,false⟩ (zO zi O) (reg Try.f15 8) (reg Try.f15 8).toList ([d,u,x,y,D,w,z,A,B,C,f,g,c,b,i,j,k,l,m,n,o,p,q,r,s,t]) S =
  (zS (wR zi BinOp.add 3 b (.int .i64 1) S) (fun J E=>some ([d,u,x,y,D,w,z,A,B,C,f,g,c,dem J,i,j,k,l,m,n,o,p,q,r,s,J],E)) ()):=by
 kernel_rfl
theorem zy.r9 :jd zi ⟨false,false,false⟩ (zO zi O) (reg Try.f15 9) (reg Try.f15 9).toList ([d,u,x,y,D,w,z,A,B,C,f,g,c,b,i,j,k,l,m,n,o,p,q,r,s,t]) S =
  ( some ([d,u,x,y,Value.bool true,w,z,A,B,C,f,g,c,b,i,j,k,l,m,n,o,p,q,r,s,t],S)):=by
 kernel_rfl
theorem zy.rs:type_of% (afz @zy.r0 (afz @zy.r1 (afz @zy.r2 (afz @zy.r3 (afz @zy.r4 (afz @zy.r5 (afz @zy.r6 (afz @zy.r7 (afz @zy.r8 (@zy.r9)))))))))):=afz @zy.r0 (afz @zy.r1 (afz @zy.r2 (afz @zy.r3 (afz @zy.r4 (afz @zy.r5 (afz @zy.r6 (afz @zy.r7 (afz @zy.r8 (@zy.r9)))))))))
theorem zy.runs {d u:Value} {S E:zx} {e:AEx} {T:List Value} (h:zD zi O false zy.code ([d,u,zh,zh,zh,zh,zh,zh,zh,zh,zh,zh,zh,zh,zh,zh,zh,zh,zh,zh,zh,zh,zh,zh,zh,zh]) S=some (e,T,E)) (he:e=.normal∨e=.ret):zO zi O 15 [d,u] S=some (T.getD 4 zh,E) :=
 jA rfl rfl Try.func15 (by decide) zy.body (by exact h) he (jG (a:=T.getD 4 zh) ((show zH zi T E Try.f15.results.toList=zH zi T E [(ResultVar.tmp 4)] from by kernel_rfl).trans (by simp only [zH])) (by kernel_rfl))
end Go.Proofs.Ytacbgjhmkhjpoaa
namespace Go.Proofs.Ytacbgjhmkhjpoaa
open Go.Abs
abbrev slices_IndexFunc.id:FuncId:=25
noncomputable def slices_IndexFunc.jh:Code:=(.seq (.region 2 (reg Try.f25 2) false) (.seq (.cond (.tmp 9) Code.skip (.exit 0)) (.seq (.block 1 (.seq (.region 3 (reg Try.f25 3) false) (.seq (.region 4 (reg Try.f25 4) false) (.cond (.tmp 16) (.seq (.region 5 (reg Try.f25 5) false) Code.ret) Code.skip)))) (.region 6 (reg Try.f25 6) false))))
noncomputable def slices_IndexFunc.code:Code:=(.seq (.region 0 (reg Try.f25 0) false) (.seq (.seq (.region 1 (reg Try.f25 1) false) (.block 0 (.loop slices_IndexFunc.jh))) (.seq (.region 7 (reg Try.f25 7) false) Code.ret)))
theorem slices_IndexFunc.body:Try.f25.body=some slices_IndexFunc.code:=by kernel_rfl
theorem slices_IndexFunc.eta {T:List Value} (h:T.length=19):T=[T.getD 0 zh,T.getD 1 zh,T.getD 2 zh,T.getD 3 zh,T.getD 4 zh,T.getD 5 zh,T.getD 6 zh,T.getD 7 zh,T.getD 8 zh,T.getD 9 zh,T.getD 10 zh,T.getD 11 zh,T.getD 12 zh,T.getD 13 zh,T.getD 14 zh,T.getD 15 zh,T.getD 16 zh,T.getD 17 zh,T.getD 18 zh]:=(qC T 19 h).trans (by kernel_rfl)
variable (b n q r v o t s p u c d f g i j k l m:Value) (S:zx)
theorem slices_IndexFunc.r0 :jd zi ⟨false,false,false⟩ (zO zi O) (reg Try.f25 0) (reg Try.f25 0).toList ([b,n,q,r,v,o,t,s,p,u,c,d,f,g,i,j,k,l,m]) S =
  ( some ([b,n,q,r,.int .i64 0,o,t,s,p,u,c,d,f,g,i,j,k,l,m],S)):=by
 kernel_rfl
theorem slices_IndexFunc.r1 :jd zi ⟨false,false,false⟩ (zO zi O) (reg Try.f25 1) (reg Try.f25 1).toList ([b,n,q,r,v,o,t,s,p,u,c,d,f,g,i,j,k,l,m]) S =
  (zS (kP zi 23 (dem b) S) (fun A w=>some ([b,n,q,r,v,o,dem b,A,.int .i64 0,u,c,d,f,g,i,j,k,l,m],w)) ()):=by
 kernel_rfl
theorem slices_IndexFunc.r2 :jd zi ⟨false,false,false⟩ (zO zi O) (reg Try.f25 2) (reg Try.f25 2).toList ([b,n,q,r,v,o,t,s,p,u,c,d,f,g,i,j,k,l,m]) S =
  (zS (wR zi BinOp.lss 3 p s S) (fun x w=>some ([b,n,q,r,v,o,t,s,p,x,c,d,f,g,i,j,k,l,m],w)) ()):=by
 kernel_rfl
theorem slices_IndexFunc.r3 :jd zi ⟨false,false,false⟩ (zO zi O) (reg Try.f25 3) (reg Try.f25 3).toList ([b,n,q,r,v,o,t,s,p,u,c,d,f,g,i,j,k,l,m]) S =
  ( some ([b,n,q,r,v,p,t,s,dem p,u,dem p,d,f,g,i,j,k,l,m],S)):=by
 kernel_rfl
theorem slices_IndexFunc.r4 :jd zi ⟨false,false,false⟩ (zO zi O) (reg Try.f25 4) (reg Try.f25 4).toList ([b,n,q,r,v,o,t,s,p,u,c,d,f,g,i,j,k,l,m]) S =
  (zS (zV zi 23 (dem b) (dem o) S) (fun y w=>zS (je zi false 30 y w) (fun z B=>zS (ae1 (zO zi O) (dem n) [(dem z)] B) (fun C D=>some ([b,n,q,r,v,o,t,s,p,u,c,dem n,dem b,dem o,y,z,C,l,m],D)) ()) ()) ()):=by
 kernel_rfl
theorem slices_IndexFunc.r5 :jd zi ⟨false,false,false⟩ (zO zi O) (reg Try.f25 5) (reg Try.f25 5).toList ([b,n,q,r,v,o,t,s,p,u,c,d,f,g,i,j,k,l,m]) S =
  ( some ([b,n,q,r,o,dem o,t,s,p,u,c,d,f,g,i,j,k,dem o,m],S)):=by
 kernel_rfl
theorem slices_IndexFunc.r6 :jd zi ⟨false,false,false⟩ (zO zi O) (reg Try.f25 6) (reg Try.f25 6).toList ([b,n,q,r,v,o,t,s,p,u,c,d,f,g,i,j,k,l,m]) S =
  (zS (wR zi BinOp.add 3 p (.int .i64 1) S) (fun x w=>some ([b,n,q,r,v,o,t,s,dem x,u,c,d,f,g,i,j,k,l,x],w)) ()):=by
 kernel_rfl
theorem slices_IndexFunc.r7 :jd zi ⟨false,false,false⟩ (zO zi O) (reg Try.f25 7) (reg Try.f25 7).toList ([b,n,q,r,v,o,t,s,p,u,c,d,f,g,i,j,k,l,m]) S =
  ( some ([b,n,q,r,.int .i64 (-1),o,t,s,p,u,c,d,f,g,i,j,k,l,m],S)):=by
 kernel_rfl
theorem slices_IndexFunc.rs:type_of% (afz @slices_IndexFunc.r0 (afz @slices_IndexFunc.r1 (afz @slices_IndexFunc.r2 (afz @slices_IndexFunc.r3 (afz @slices_IndexFunc.r4 (afz @slices_IndexFunc.r5 (afz @slices_IndexFunc.r6 (@slices_IndexFunc.r7)))))))):=afz @slices_IndexFunc.r0 (afz @slices_IndexFunc.r1 (afz @slices_IndexFunc.r2 (afz @slices_IndexFunc.r3 (afz @slices_IndexFunc.r4 (afz @slices_IndexFunc.r5 (afz @slices_IndexFunc.r6 (@slices_IndexFunc.r7)))))))
theorem slices_IndexFunc.runs {b n:Value} {S w:zx} {e:AEx} {T:List Value} (h:zD zi O false slices_IndexFunc.code ([b,n,zh,zh,zh,zh,zh,zh,zh,zh,zh,zh,zh,zh,zh,zh,zh,zh,zh]) S=some (e,T,w)) (he:e=.normal∨e=.ret):zO zi O 25 [b,n] S=some (T.getD 4 zh,w) :=
 jA rfl rfl Try.func25 (by decide) slices_IndexFunc.body (by exact h) he (jG (a:=T.getD 4 zh) ((show zH zi T w Try.f25.results.toList=zH zi T w [(ResultVar.tmp 4)] from by kernel_rfl).trans (by simp only [zH])) (by kernel_rfl))
end Go.Proofs.Ytacbgjhmkhjpoaa
namespace Go.Proofs.Ytacbgjhmkhjpoaa
open Go.Abs
abbrev slices_DeleteFunc.id:FuncId:=30
noncomputable def slices_DeleteFunc.jh:Code:=(.seq (.seq (.region 5 (reg Try.f30 5) false) (.cond (.tmp 19) Code.skip (.exit 0))) (.seq (.block 1 (.seq (.region 7 (reg Try.f30 7) false) (.seq (.region 8 (reg Try.f30 8) false) (.cond (.tmp 29) (.seq (.region 9 (reg Try.f30 9) false) (.region 10 (reg Try.f30 10) false)) Code.skip)))) (.region 6 (reg Try.f30 6) false)))
noncomputable def slices_DeleteFunc.code:Code:=(.seq (.region 0 (reg Try.f30 0) false) (.seq (.region 1 (reg Try.f30 1) false) (.seq (.seq (.region 2 (reg Try.f30 2) false) (.cond (.tmp 12) (.seq (.region 3 (reg Try.f30 3) false) Code.ret) Code.skip)) (.seq (.seq (.region 4 (reg Try.f30 4) false) (.block 0 (.loop slices_DeleteFunc.jh))) (.seq (.region 11 (reg Try.f30 11) false) (.seq (.region 12 (reg Try.f30 12) false) Code.ret))))))
theorem slices_DeleteFunc.body:Try.f30.body=some slices_DeleteFunc.code:=by kernel_rfl
theorem slices_DeleteFunc.eta {T:List Value} (h:T.length=42):T=[T.getD 0 zh,T.getD 1 zh,T.getD 2 zh,T.getD 3 zh,T.getD 4 zh,T.getD 5 zh,T.getD 6 zh,T.getD 7 zh,T.getD 8 zh,T.getD 9 zh,T.getD 10 zh,T.getD 11 zh,T.getD 12 zh,T.getD 13 zh,T.getD 14 zh,T.getD 15 zh,T.getD 16 zh,T.getD 17 zh,T.getD 18 zh,T.getD 19 zh,T.getD 20 zh,T.getD 21 zh,T.getD 22 zh,T.getD 23 zh,T.getD 24 zh,T.getD 25 zh,T.getD 26 zh,T.getD 27 zh,T.getD 28 zh,T.getD 29 zh,T.getD 30 zh,T.getD 31 zh,T.getD 32 zh,T.getD 33 zh,T.getD 34 zh,T.getD 35 zh,T.getD 36 zh,T.getD 37 zh,T.getD 38 zh,T.getD 39 zh,T.getD 40 zh,T.getD 41 zh]:=(qC T 42 h).trans (by kernel_rfl)
variable (b L P Q W K M N U V c d f g i j k l m n o p q r s t u v w x y z A B C D E F G H I J:Value) (S:zx)
theorem slices_DeleteFunc.r0 :jd zi ⟨true,false,false⟩ (jU O.hp true (zO zi O)) (reg Try.f30 0) (reg Try.f30 0).toList ([b,L,P,Q,W,K,M,N,U,V,c,d,f,g,i,j,k,l,m,n,o,p,q,r,s,t,u,v,w,x,y,z,A,B,C,D,E,F,G,H,I,J]) S =
  ( some ([b,L,P,Q,Value.slice none 0 0,K,M,N,U,V,c,d,f,g,i,j,k,l,m,n,o,p,q,r,s,t,u,v,w,x,y,z,A,B,C,D,E,F,G,H,I,J],S)):=by
 kernel_rfl
theorem slices_DeleteFunc.r1 :jd zi ⟨true,false,false⟩ (jU O.hp true (zO zi O)) (reg Try.f30 1) (reg Try.f30 1).toList ([b,L,P,Q,W,K,M,N,U,V,c,d,f,g,i,j,k,l,m,n,o,p,q,r,s,t,u,v,w,x,y,z,A,B,C,D,E,F,G,H,I,J]) S =
  (zS (xB (zO zi O) 25 [(dem (dem b)),(dem (dem L))] S) (fun X R=>some ([b,L,P,Q,W,X,M,N,dem b,dem L,dem X,d,f,g,i,j,k,l,m,n,o,p,q,r,s,t,u,v,w,x,y,z,A,B,C,D,E,F,G,H,I,J],R)) ()):=by
 kernel_rfl
theorem slices_DeleteFunc.r2 :jd zi ⟨true,false,false⟩ (jU O.hp true (zO zi O)) (reg Try.f30 2) (reg Try.f30 2).toList ([b,L,P,Q,W,K,M,N,U,V,c,d,f,g,i,j,k,l,m,n,o,p,q,r,s,t,u,v,w,x,y,z,A,B,C,D,E,F,G,H,I,J]) S =
  (zS (wR zi BinOp.eql 3 (dem K) (.int .i64 (-1)) S) (fun Y R=>some ([b,L,P,Q,W,K,M,N,U,V,c,dem K,Y,g,i,j,k,l,m,n,o,p,q,r,s,t,u,v,w,x,y,z,A,B,C,D,E,F,G,H,I,J],R)) ()):=by
 kernel_rfl
theorem slices_DeleteFunc.r3 :jd zi ⟨true,false,false⟩ (jU O.hp true (zO zi O)) (reg Try.f30 3) (reg Try.f30 3).toList ([b,L,P,Q,W,K,M,N,U,V,c,d,f,g,i,j,k,l,m,n,o,p,q,r,s,t,u,v,w,x,y,z,A,B,C,D,E,F,G,H,I,J]) S =
  ( some ([dem b,L,P,Q,b,K,M,N,U,V,c,d,f,dem b,i,j,k,l,m,n,o,p,q,r,s,t,u,v,w,x,y,z,A,B,C,D,E,F,G,H,I,J],S)):=by
 kernel_rfl
theorem slices_DeleteFunc.r4 :jd zi ⟨true,false,false⟩ (jU O.hp true (zO zi O)) (reg Try.f30 4) (reg Try.f30 4).toList ([b,L,P,Q,W,K,M,N,U,V,c,d,f,g,i,j,k,l,m,n,o,p,q,r,s,t,u,v,w,x,y,z,A,B,C,D,E,F,G,H,I,J]) S =
  (zS (wR zi BinOp.add 3 (dem K) (.int .i64 1) S) (fun Y R=>some ([b,L,P,Q,W,K,Y,N,U,V,c,d,f,g,dem K,dem Y,k,l,m,n,o,p,q,r,s,t,u,v,w,x,y,z,A,B,C,D,E,F,G,H,I,J],R)) ()):=by
 kernel_rfl
theorem slices_DeleteFunc.r5 :jd zi ⟨true,false,false⟩ (jU O.hp true (zO zi O)) (reg Try.f30 5) (reg Try.f30 5).toList ([b,L,P,Q,W,K,M,N,U,V,c,d,f,g,i,j,k,l,m,n,o,p,q,r,s,t,u,v,w,x,y,z,A,B,C,D,E,F,G,H,I,J]) S =
  (zS (kP zi 23 (dem b) S) (fun X R=>zS (wR zi BinOp.lss 3 (dem M) X R) (fun Z S2=>some ([b,L,P,Q,W,K,M,N,U,V,c,d,f,g,i,j,dem M,dem b,X,Z,o,p,q,r,s,t,u,v,w,x,y,z,A,B,C,D,E,F,G,H,I,J],S2)) ()) ()):=by
 kernel_rfl
theorem slices_DeleteFunc.r7 :jd zi ⟨true,false,false⟩ (jU O.hp true (zO zi O)) (reg Try.f30 7) (reg Try.f30 7).toList ([b,L,P,Q,W,K,M,N,U,V,c,d,f,g,i,j,k,l,m,n,o,p,q,r,s,t,u,v,w,x,y,z,A,B,C,D,E,F,G,H,I,J]) S =
  (zS (zV zi 23 (dem b) (dem M) S) (fun X R=>zS (je zi false 30 X R) (fun Z S2=>zS (qw zi 30 S2) (fun v4 S3=>zS (qm zi 30 v4 (dem Z) S3) (fun v5 S4=>some ([b,L,P,Q,W,K,M,v4,U,V,c,d,f,g,i,j,k,l,m,n,o,p,dem b,dem M,X,Z,u,v,w,x,y,z,A,B,C,D,E,F,G,H,I,J],S4)) ()) ()) ()) ()):=by
 kernel_rfl
theorem slices_DeleteFunc.r8 :jd zi ⟨true,false,false⟩ (jU O.hp true (zO zi O)) (reg Try.f30 8) (reg Try.f30 8).toList ([b,L,P,Q,W,K,M,N,U,V,c,d,f,g,i,j,k,l,m,n,o,p,q,r,s,t,u,v,w,x,y,z,A,B,C,D,E,F,G,H,I,J]) S =
  (zS (je zi false 30 N S) (fun Y R=>zS (ae1 (jU O.hp true (zO zi O)) (dem L) [(dem Y)] R) (fun X S2=>zS (aUn zi UnOp.not X S2) (fun Z S3=>some ([b,L,P,Q,W,K,M,N,U,V,c,d,f,g,i,j,k,l,m,n,o,p,q,r,s,t,dem L,Y,X,Z,y,z,A,B,C,D,E,F,G,H,I,J],S3)) ()) ()) ()):=by
 kernel_rfl
theorem slices_DeleteFunc.r9 :jd zi ⟨true,false,false⟩ (jU O.hp true (zO zi O)) (reg Try.f30 9) (reg Try.f30 9).toList ([b,L,P,Q,W,K,M,N,U,V,c,d,f,g,i,j,k,l,m,n,o,p,q,r,s,t,u,v,w,x,y,z,A,B,C,D,E,F,G,H,I,J]) S =
  (zS (je zi false 30 N S) (fun X R=>zS (zV zi 23 (dem b) (dem K) R) (fun Z S2=>zS (qm zi 30 Z (dem X) S2) (fun v4 S3=>some ([b,L,P,Q,W,K,M,N,U,V,c,d,f,g,i,j,k,l,m,n,o,p,q,r,s,t,u,v,w,x,dem b,dem K,X,Z,C,D,E,F,G,H,I,J],S3)) ()) ()) ()):=by
 kernel_rfl
theorem slices_DeleteFunc.r10 :jd zi ⟨true,false,false⟩ (jU O.hp true (zO zi O)) (reg Try.f30 10) (reg Try.f30 10).toList ([b,L,P,Q,W,K,M,N,U,V,c,d,f,g,i,j,k,l,m,n,o,p,q,r,s,t,u,v,w,x,y,z,A,B,C,D,E,F,G,H,I,J]) S =
  (zS (wR zi BinOp.add 3 (dem K) (.int .i64 1) S) (fun Y R=>some ([b,L,P,Q,W,Y,M,N,U,V,c,d,f,g,i,j,k,l,m,n,o,p,q,r,s,t,u,v,w,x,y,z,A,B,dem K,dem Y,E,F,G,H,I,J],R)) ()):=by
 kernel_rfl
theorem slices_DeleteFunc.r6 :jd zi ⟨true,false,false⟩ (jU O.hp true (zO zi O)) (reg Try.f30 6) (reg Try.f30 6).toList ([b,L,P,Q,W,K,M,N,U,V,c,d,f,g,i,j,k,l,m,n,o,p,q,r,s,t,u,v,w,x,y,z,A,B,C,D,E,F,G,H,I,J]) S =
  (zS (wR zi BinOp.add 3 (dem M) (.int .i64 1) S) (fun Y R=>some ([b,L,P,Q,W,K,Y,N,U,V,c,d,f,g,i,j,k,l,m,n,dem M,dem Y,q,r,s,t,u,v,w,x,y,z,A,B,C,D,E,F,G,H,I,J],R)) ()):=by
 kernel_rfl
theorem slices_DeleteFunc.r11 :jd zi ⟨true,false,false⟩ (jU O.hp true (zO zi O)) (reg Try.f30 11) (reg Try.f30 11).toList ([b,L,P,Q,W,K,M,N,U,V,c,d,f,g,i,j,k,l,m,n,o,p,q,r,s,t,u,v,w,x,y,z,A,B,C,D,E,F,G,H,I,J]) S =
  (zS (wV zi false 23 (dem b) (some (dem K)) none S) (fun X R=>zS (Wl zi 23 X R) (fun Z S2=>some ([b,L,P,Q,W,K,M,N,U,V,c,d,f,g,i,j,k,l,m,n,o,p,q,r,s,t,u,v,w,x,y,z,A,B,C,D,dem b,dem K,X,H,I,J],S2)) ()) ()):=by
 kernel_rfl
theorem slices_DeleteFunc.r12 :jd zi ⟨true,false,false⟩ (jU O.hp true (zO zi O)) (reg Try.f30 12) (reg Try.f30 12).toList ([b,L,P,Q,W,K,M,N,U,V,c,d,f,g,i,j,k,l,m,n,o,p,q,r,s,t,u,v,w,x,y,z,A,B,C,D,E,F,G,H,I,J]) S =
  (zS (wV zi false 23 (dem b) none (some (dem K)) S) (fun X R=>some ([b,L,P,Q,X,K,M,N,U,V,c,d,f,g,i,j,k,l,m,n,o,p,q,r,s,t,u,v,w,x,y,z,A,B,C,D,E,F,G,dem b,dem K,dem X],R)) ()):=by
 kernel_rfl
theorem slices_DeleteFunc.rs:type_of% (afz @slices_DeleteFunc.r0 (afz @slices_DeleteFunc.r1 (afz @slices_DeleteFunc.r2 (afz @slices_DeleteFunc.r3 (afz @slices_DeleteFunc.r4 (afz @slices_DeleteFunc.r5 (afz @slices_DeleteFunc.r7 (afz @slices_DeleteFunc.r8 (afz @slices_DeleteFunc.r9 (afz @slices_DeleteFunc.r10 (afz @slices_DeleteFunc.r6 (afz @slices_DeleteFunc.r11 (@slices_DeleteFunc.r12))))))))))))):=afz @slices_DeleteFunc.r0 (afz @slices_DeleteFunc.r1 (afz @slices_DeleteFunc.r2 (afz @slices_DeleteFunc.r3 (afz @slices_DeleteFunc.r4 (afz @slices_DeleteFunc.r5 (afz @slices_DeleteFunc.r7 (afz @slices_DeleteFunc.r8 (afz @slices_DeleteFunc.r9 (afz @slices_DeleteFunc.r10 (afz @slices_DeleteFunc.r6 (afz @slices_DeleteFunc.r11 (@slices_DeleteFunc.r12))))))))))))
theorem slices_DeleteFunc.runs {b L:Value} {S R:zx} {e:AEx} {T:List Value} (h:zD zi O true slices_DeleteFunc.code ([b,L,zh,zh,zh,zh,zh,zh,zh,zh,zh,zh,zh,zh,zh,zh,zh,zh,zh,zh,zh,zh,zh,zh,zh,zh,zh,zh,zh,zh,zh,zh,zh,zh,zh,zh,zh,zh,zh,zh,zh,zh]) S=some (e,T,R)) (he:e=.normal∨e=.ret):zO zi O 30 [b,L] S=some (T.getD 4 zh,R) :=
 jA rfl rfl Try.func30 (by decide) slices_DeleteFunc.body (by exact h) he (jG (a:=T.getD 4 zh) ((show zH zi T R Try.f30.results.toList=zH zi T R [(ResultVar.tmp 4)] from by kernel_rfl).trans (by simp only [zH])) (by kernel_rfl))
end Go.Proofs.Ytacbgjhmkhjpoaa
namespace Go.Abs
open Go.RowKit
theorem aej {b:Nat} {e:Ty} {α:Type} (f:α→List Value) (Q:α→Prop) (h:∀ x,e.Good x→∃ y,e.ZW x=f y∧Q y) (hf:∀ y,(f y).length=e.sz) (x:(Ty.slc b e).Val) (hg:(Ty.slc b e).Good x) :
  ∃ k l,Okl k l∧k≠2∧(Ty.slc b e).ZW x=[vs f e.sz k l]∧l.length * b≤140737488351232∧∀ y ∈ l,Q y:=by
 match x,hg with
 | none,_=>exact ⟨0,[],Okl.none,by decide,rfl,by simp,fun y hy=>by cases hy⟩
 | some xs,hg =>
  obtain ⟨h1,h2,h3⟩:=hg
  have key:∀ xs:List e.Val,(∀ n ∈ xs,e.Good n)→∃ l:List α,xs.flatMap e.ZW=l.flatMap f∧l.length=xs.length∧∀ y ∈ l,Q y:=by
   intro xs
   induction xs with
   | nil=>intro _;exact ⟨[],rfl,rfl,fun y hy=>by cases hy⟩
   | cons n xs ih =>
    intro hn
    obtain ⟨y,hy,hq⟩:=h n (hn n (by simp))
    obtain ⟨l,k1,k2,k3⟩:=ih (fun m hm=>hn m (by simp [hm]))
    refine ⟨y::l,by rw [List.flatMap_cons,List.flatMap_cons,hy,k1],by simp [k2],fun z hz=>?_⟩
    rcases List.mem_cons.1 hz with rfl | hz
    ·
     exact hq
    ·
     exact k3 z hz
  obtain ⟨l,k1,k2,k3⟩:=key xs h3
  refine ⟨1,l,Okl.read,by decide,?_,by rw [k2];exact h1,k3⟩
  show [SL 1 e.sz (List.length xs) (List.flatMap e.ZW xs)]=[_]
  unfold vs
  rw [sv1,k1,k2]
theorem XC {cs xs:List Value} (h:cs.length=xs.length):splice cs 0 xs=xs:=by
 unfold splice
 rw [List.take_zero,List.nil_append,Nat.zero_add,← h,List.drop_length,List.append_nil]
theorem Y1 {P:Program} {t:TypeId} {z xs:List Value} {x:Value} (S:zx) (hx:x.cells.toList=xs) (hs:qp P t=some z.length) (hl:xs.length=z.length) (h1:xs.all (·.oneCell')=true) :
  ∃ S2,qm P t (.pointer (some ⟨S.next,0,none⟩)) x (S.push (.cells z (.own []) 0))=some (zh,S2)∧S2.get S.next=some (.cells xs (.own []) 0)∧Ext S S2∧S.next < S2.next:=by
 have hg:(S.push (.cells z (.own []) 0)).get S.next=some (.cells z (.own []) 0):=by rw [zx.zU,if_pos rfl]
 refine ⟨_,kS hg hs (by rw [← Array.length_toList,hx,hl]) (by rw [hx];exact h1) (by simp),?_,(Ext.push S _).set (Nat.le_refl _) _,by simp [zx.kills]⟩
 rw [zx.jg,if_pos rfl,hx,XC hl.symm]
theorem V4 (x:Value) (S:zx):∃ S2,ZQ x S=some (.pointer (some ⟨S.next,0,none⟩),S2)∧S2.get S.next=some (.cells x.cells.toList (.own []) 0)∧Ext S S2∧S.next < S2.next :=
 ⟨_,rfl,by rw [zx.zU,if_pos rfl],Ext.push _ _,by simp⟩
end Go.Abs
namespace Go.Abs
open Go.RowKit
abbrev ms (q n:Nat):Value:=.slice (some ⟨q,0,none⟩) n n
theorem adD {P:Program} {O:Ora} {g:FuncId} {args:List Value} {S:zx} {r:Option (Value×zx)} (h:zO P O g args S=r) (ha:args.all (fun x=>!Zw x)=true):xB (zO P O) g args S=r:=(Xq ha).trans h
theorem JH {α:Type} {f:α→List Value} {e q:Nat} {l:List α} {rest:List Value} {anc:List Nat} {S:zx} (hf:∀ x,(f x).length=e) (hg:S.get q=some (.cells (l.flatMap f++rest) (.own anc) e)) :
  kV (ms q l.length) S=some (vs f e 1 l,S.set q .dead):=by
 have hl:=jI hf l
 have e0:kV (ms q l.length) S=qQ (ms q l.length) S:=rfl
 rw [e0,Vh hg (by rw [List.length_append,hl];omega),List.drop_zero,← hl,List.take_left]
 rfl
theorem Jg {x y:Value} {args:List Value} {S S1:zx} (h:kV x S=some (y,S1)) (ha:args.all (fun x=>!Zw x)=true):yM (x::args) S=some (y::args,S1):=by
 simp only [yM,h,xW ha]
section
variable {P:Program} {O:Ora} {α:Type} {f:α→List Value} {e q:Nat} {l:List α} {rest:List Value} {anc:List Nat} {S:zx}
end
end Go.Abs
namespace Go.Abs
open Go.RowKit
def Fr (fp:List Nat) (S S1:zx):Prop:=S.next≤S1.next∧∀ p,p < S.next→p ∉ fp→S1.get p=S.get p
theorem Fr.refl (fp:List Nat) (S:zx):Fr fp S S:=⟨Nat.le_refl _,fun _ _ _=>rfl⟩
theorem Fr.ext {fp:List Nat} {S S1:zx} (h:Ext S S1):Fr fp S S1:=⟨h.next,fun p hp _=>h.get p hp⟩
theorem Fr.trans {fp fp2:List Nat} {S S1 S2:zx} (h:Fr fp S S1) (k:Fr fp2 S1 S2) (hs:∀ x ∈ fp2,x ∈ fp∨S.next≤x):Fr fp S S2:=⟨Nat.le_trans h.1 k.1,fun p hp hn=>by
 rw [k.2 p (Nat.lt_of_lt_of_le hp h.1) (fun hx=>(hs p hx).elim hn (fun h=>by omega)),h.2 p hp hn]⟩
theorem Fr.set {fp:List Nat} {S S1:zx} (h:Fr fp S S1) {r:Nat} (hr:r ∈ fp∨S.next≤r) (o:wC):Fr fp S (S1.set r o):=⟨h.1,fun p hp hn=>by
 rw [zx.jg,if_neg (fun e=>by subst e;exact hr.elim hn (fun h=>by omega))];exact h.2 p hp hn⟩
theorem Fr.kills {fp:List Nat} {S S1:zx} (h:Fr fp S S1) {l:List Nat} (hl:∀ x ∈ l,x ∈ fp∨S.next≤x):Fr fp S (S1.kills l):=⟨by rw [zx.qA];exact h.1,fun p hp hn=>by
 rw [zx.wY,if_neg (fun e=>(hl p e).elim hn (fun h=>by omega))];exact h.2 p hp hn⟩
theorem Fr.push {fp:List Nat} {S S1:zx} (h:Fr fp S S1) (o:wC):Fr fp S (S1.push o):=⟨by simp;have:=h.1;omega,fun p hp hn=>by
 rw [zx.zU,if_neg (by have:=h.1;omega)];exact h.2 p hp hn⟩
theorem Fr.more {fp fp2:List Nat} {S S1:zx} (h:Fr fp S S1) (hs:∀ x ∈ fp,x ∈ fp2∨S.next≤x):Fr fp2 S S1:=⟨h.1,fun p hp hn=>h.2 p hp (fun hx=>(hs p hx).elim hn (fun h=>by omega))⟩
def Many (S:zx) (x:Nat):Prop:=∀ cs own,S.get x≠some (.cells cs own 0)
def qL {α:Type} (f:α→List Value) (e:Nat) (S:zx) (a:Option Addr) (l:List α) (fp:List Nat):Prop :=
 (a=none∧l=[]∧fp=[])∨∃ r anc rest,a=some ⟨r,0,none⟩∧fp=r::anc∧S.get r=some (.cells (l.flatMap f++rest) (.own anc) e)∧∀ x ∈ fp,x < S.next∧Many S x
theorem WM {A B C D:List Value} {o:Nat} (h:o=A.length) (hl:B.length=C.length):splice (A++(B++D)) o C=A++(C++D):=by
 subst h
 unfold splice
 rw [List.take_left,← hl,List.drop_append,List.drop_eq_nil_of_le (by omega),List.nil_append,show A.length+B.length - A.length=B.length by omega,List.drop_left,List.append_assoc]
section
variable {α:Type} {f:α→List Value} {e:Nat} {S S1:zx} {a:Option Addr} {l:List α} {fp:List Nat}
theorem qL.keep (h:qL f e S a l fp) (hn:S.next≤S1.next) (hk:∀ x ∈ fp,S1.get x=S.get x):qL f e S1 a l fp:=by
 rcases h with h | ⟨r,anc,rest,h1,h2,h3,h4⟩
 ·
  exact .inl h
 ·
  refine .inr ⟨r,anc,rest,h1,h2,by rw [hk r (by rw [h2];simp)];exact h3,fun x hx=>⟨Nat.lt_of_lt_of_le (h4 x hx).1 hn,fun cs own=>by rw [hk x hx];exact (h4 x hx).2 cs own⟩⟩
theorem qL.lt (h:qL f e S a l fp):∀ x ∈ fp,x < S.next:=by
 rcases h with ⟨_,_,rfl⟩ | ⟨r,anc,rest,h1,h2,h3,h4⟩
 ·
  intro x hx;cases hx
 ·
  exact fun x hx=>(h4 x hx).1
theorem qL.many (h:qL f e S a l fp):∀ x ∈ fp,Many S x:=by
 rcases h with ⟨_,_,rfl⟩ | ⟨r,anc,rest,h1,h2,h3,h4⟩
 ·
  intro x hx;cases hx
 ·
  exact fun x hx=>(h4 x hx).2
theorem qL.ext (h:qL f e S a l fp) (k:Ext S S1):qL f e S1 a l fp:=h.keep k.next fun x hx=>k.get x (h.lt x hx)
theorem qL.fr {fp2:List Nat} (h:qL f e S a l fp) (k:Fr fp2 S S1) (hd:∀ x ∈ fp,x ∉ fp2):qL f e S1 a l fp:=h.keep k.1 fun x hx=>k.2 x (h.lt x hx) (hd x hx)
theorem qL.aaB (h:qL f e S a l fp) {p:Nat} {cs:List Value} {own:Own} (hp:S.get p=some (.cells cs own 0)):p ∉ fp:=fun hx=>h.many p hx cs own hp
theorem qL.take (h:qL f e S a l fp) (n:Nat):qL f e S a (l.take n) fp:=by
 rcases h with ⟨h1,h2,h3⟩ | ⟨r,anc,rest,h1,h2,h3,h4⟩
 ·
  exact .inl ⟨h1,by rw [h2,List.take_nil],h3⟩
 ·
  refine .inr ⟨r,anc,(l.drop n).flatMap f++rest,h1,h2,?_,h4⟩
  rw [h3,← List.append_assoc,← List.flatMap_append,List.take_append_drop]
theorem WY {x r:Nat} {cs:List Value} {own:Own} (he:e≠0) (h:Many S x):Many (S.set r (.cells cs own e)) x:=fun cs' own'=>by
 rw [zx.jg]
 split
 ·
  intro hx;simp only [Option.some.injEq,wC.cells.injEq] at hx;exact he hx.2.2
 ·
  exact h cs' own'
theorem JU {x:Nat} {l:List Nat} (h:Many S x):Many (S.kills l) x:=fun cs' own'=>by
 rw [zx.wY]
 split
 ·
  intro hx;simp at hx
 ·
  exact h cs' own'
theorem V3 {x:Nat} {cs:List Value} {own:Own} (he:e≠0) (h:Many S x):Many (S.push (.cells cs own e)) x:=fun cs' own'=>by
 rw [zx.zU]
 split
 ·
  intro hx;simp only [Option.some.injEq,wC.cells.injEq] at hx;exact he hx.2.2
 ·
  exact h cs' own'
variable {P:Program} {t te tx:TypeId} {z:Value} {bytes:Nat}
theorem qL.append (u:P.underlying t=some (.slice te)) (us:qp P te=some e) (hz:zeroOf P te=some z) (hzs:z.cells.size=e) (hb:bytesOf P te=some bytes) (hpos:0 < e) (hf:∀ x,(f x).length=e) (h1:∀ x,(f x).all (·.oneCell')=true)
  (hd:qL f e S a l fp) {x:Value} {b:List α} (hsrc:ZY P tx e x S=some (b.length,b.flatMap f)) (hm:(l.length+b.length) * bytes≤140737488355328) (hm2:l.length+b.length≤4611686018427387903) :
  ∃ a' S1 fp',yh P true t tx (.slice a l.length l.length) x S=some (.slice a' (l++b).length (l++b).length,S1)∧qL f e S1 a' (l++b) fp'∧(∀ x ∈ fp',x ∈ fp∨S.next≤x)∧Fr fp S S1:=by
 have hone:∀ l:List α,(l.flatMap f).all (·.oneCell')=true:=by
  intro l
  rw [List.all_flatMap,List.all_eq_true]
  exact fun x _=>h1 x
 have he:e≠0:=by omega
 rcases hd with ⟨rfl,rfl,rfl⟩ | ⟨r,anc,rest,rfl,rfl,k2,k3⟩
 ·
  have e1:=X7 (t:=t) (tx:=tx) (S:=S) u us hz hzs hb hpos hsrc (by simpa using hm) (by simpa using hm2)
  by_cases h0:b.length=0
  ·
   have hb:b=[]:=List.length_eq_zero_iff.1 h0
   subst hb
   exact ⟨none,S,[],e1,.inl ⟨rfl,rfl,rfl⟩,(fun x hx=>by cases hx),Fr.refl _ _⟩
  ·
   rw [if_neg h0,if_neg h0] at e1
   refine ⟨some ⟨S.next,0,none⟩,_,[S.next],e1,.inr ⟨S.next,[],[],rfl,rfl,?_,fun x hx=>?_⟩,(fun x hx=>by simp at hx;omega),(Fr.refl _ _).push _⟩
   ·
    rw [zx.zU,if_pos rfl,List.append_nil,List.nil_append]
   ·
    simp only [List.mem_singleton] at hx
    subst hx
    refine ⟨by simp,fun cs own=>?_⟩
    rw [zx.zU,if_pos rfl]
    intro hx;simp only [Option.some.injEq,wC.cells.injEq] at hx;exact he hx.2.2
 ·
  have hlen:(l.flatMap f).length=l.length * e:=jI hf l
  have htk:((l.flatMap f++rest).drop 0).take (l.length * e)=l.flatMap f:=by rw [List.drop_zero,← hlen,List.take_left]
  have e1:=XU (hp:=true) (t:=t) (tx:=tx) (o:=0) (n:=l.length) (c:=l.length) u us hz hzs hb hpos hsrc k2 (by rw [List.length_append,hlen];omega) hm hm2 (by rw [htk];exact hone l)
  rw [htk,← List.length_append] at e1
  have hnew:∀ {S2:zx} {cs:List Value} {own:Own},Many (S2.push (.cells cs own e)) S2.next:=fun {S2 cs own} cs' own'=>by
   rw [zx.zU,if_pos rfl]
   intro hx;simp only [Option.some.injEq,wC.cells.injEq] at hx;exact he hx.2.2
  by_cases h0:0+l.length * e=(l.flatMap f++rest).length
  ·
   rw [if_pos h0] at e1
   refine ⟨some ⟨S.next,0,none⟩,_,_,e1,.inr ⟨S.next,_,[],rfl,rfl,by rw [zx.zU,zx.kF,if_pos rfl,List.append_nil,List.flatMap_append],fun x hx=>?_⟩,fun x hx=>?_,((Fr.refl _ _).set (.inl (by simp)) _).push _⟩
   ·
    rcases List.mem_cons.1 hx with rfl | hx
    ·
     exact ⟨by simp,hnew (S2:=S.set r (.cells (l.flatMap f++rest) .ro e))⟩
    ·
     have hx:x ∈ r::anc:=by
      split at hx
      ·
       cases hx
      ·
       exact hx
     exact ⟨by have:=(k3 x hx).1;simp;omega,V3 he (WY he (k3 x hx).2)⟩
   ·
    rcases List.mem_cons.1 hx with rfl | hx
    ·
     exact .inr (Nat.le_refl _)
    ·
     left
     split at hx
     ·
      cases hx
     ·
      exact hx
  ·
   rw [if_neg h0] at e1
   refine ⟨some ⟨S.next,0,none⟩,_,[S.next],e1,.inr ⟨S.next,[],[],rfl,rfl,by rw [zx.zU,zx.kF,zx.qA,if_pos rfl,List.append_nil,List.flatMap_append],fun x hx=>?_⟩,fun x hx=>?_,(((Fr.refl _ _).kills (l:=anc) (fun x hx=>.inl (by simp [hx]))).set (.inl (by simp)) _).push _⟩
   ·
    simp only [List.mem_singleton] at hx
    subst hx
    exact ⟨by simp,by have:=hnew (S2:=(S.kills anc).set r .dead) (cs:=l.flatMap f++b.flatMap f) (own:=.own []);rwa [zx.kF,zx.qA] at this⟩
   ·
    simp only [List.mem_singleton] at hx
    exact .inr (by omega)
theorem qL.aeN (hf:∀ x,(f x).length=e) {x:α} {pre suf:List α} {rest:List Value}:(((pre++x::suf).flatMap f++rest).drop (0+pre.length * e)).take e=f x:=by
 rw [List.flatMap_append,List.flatMap_cons,List.append_assoc,List.append_assoc,Nat.zero_add,← jI hf pre,List.drop_left,← hf x,List.take_left]
theorem qL.load (g:yS P te=some true) (us:qp P te=some e) (hf:∀ x,(f x).length=e) (hdm:∀ x,(f x).map qI=f x) {r:Nat} {own:Own} {x:α} {pre suf:List α} {rest:List Value} (hg:S.get r=some (.cells ((pre++x::suf).flatMap f++rest) own e)) :
  je P false te (.pointer (some ⟨r,0+pre.length * e,none⟩)) S=some (.agg (f x).toArray,S):=by
 have hle:0+pre.length * e+e≤((pre++x::suf).flatMap f++rest).length:=by
  rw [List.length_append,jI hf,List.length_append,List.length_cons,Nat.add_mul,Nat.add_mul];omega
 rw [Xy hg g us hle,aeN hf]
 simp only [List.map_toArray,hdm]
theorem qL.put (us:qp P te=some e) (hf:∀ x,(f x).length=e) (h1:∀ x,(f x).all (·.oneCell')=true) (he:e≠0) {r:Nat} {anc:List Nat} {x y:α} {pre suf:List α} {rest:List Value} (hg:S.get r=some (.cells ((pre++x::suf).flatMap f++rest) (.own anc) e))
  (hx:∀ k ∈ r::anc,k < S.next∧Many S k) :
  ∃ S1,qm P te (.pointer (some ⟨r,0+pre.length * e,none⟩)) (.agg (f y).toArray) S=some (zh,S1)∧S1.get r=some (.cells ((pre++y::suf).flatMap f++rest) (.own []) e)∧S1.next=S.next∧Fr (r::anc) S S1∧Many S1 r:=by
 have hle:0+pre.length * e+e≤((pre++x::suf).flatMap f++rest).length:=by
  rw [List.length_append,jI hf,List.length_append,List.length_cons,Nat.add_mul,Nat.add_mul];omega
 have hs:splice ((pre++x::suf).flatMap f++rest) (0+pre.length * e) (f y)=(pre++y::suf).flatMap f++rest:=by
  rw [List.flatMap_append,List.flatMap_cons,List.append_assoc,List.append_assoc,WM (by rw [jI hf,Nat.zero_add]) (by rw [hf,hf]),List.flatMap_append,List.flatMap_cons,List.append_assoc,List.append_assoc]
 have:=kS (P:=P) (t:=te) (o:=0+pre.length * e) (n:=e) (x:=.agg (f y).toArray) hg us (by rw [vZ,List.size_toArray,hf]) (by rw [vZ];exact h1 y) hle
 refine ⟨_,this,?_,by simp,((Fr.refl _ _).kills (fun k hk=>.inl (by simp [hk]))).set (.inl (by simp)) _,?_⟩
 ·
  rw [zx.jg,if_pos rfl,vZ]
  show some (wC.cells (splice _ _ (f y)) _ _)=_
  rw [hs]
 ·
  refine WY he (JU (hx r (by simp)).2)
theorem qL.clear (u:P.underlying t=some (.slice te)) (us:qp P te=some e) (hz:zeroOf P te=some z) (hgz:ground z=true) (hzs:z.cells.size=e) (hz1:z.cells.toList.all (·.oneCell')=true) (hpos:0 < e) (hf:∀ x,(f x).length=e)
  {r:Nat} {anc:List Nat} {pre suf:List α} {rest:List Value} (hg:S.get r=some (.cells ((pre++suf).flatMap f++rest) (.own anc) e)) (hn:suf.length≠0) (hx:∀ k ∈ r::anc,k < S.next∧Many S k) (c:Nat) :
  ∃ S1 rest1,Wl P t (.slice (some ⟨r,0+pre.length * e,none⟩) suf.length c) S=some (zh,S1)∧S1.get r=some (.cells (pre.flatMap f++rest1) (.own []) e)∧S1.next=S.next∧Fr (r::anc) S S1∧Many S1 r:=by
 have hel:wM P t=some te:=by simp only [wM,u]
 have hle:0+pre.length * e+suf.length * e≤((pre++suf).flatMap f++rest).length:=by
  rw [List.length_append,jI hf,List.length_append,Nat.add_mul];omega
 have hs:splice ((pre++suf).flatMap f++rest) (0+pre.length * e) (zl z.cells.toList suf.length)=pre.flatMap f++(zl z.cells.toList suf.length++rest):=by
  rw [List.flatMap_append,List.append_assoc,WM (by rw [jI hf,Nat.zero_add]) (by rw [aaV,jI hf,show z.cells.toList.length=e from hzs])]
 refine ⟨(S.kills anc).set r (.cells (splice ((pre++suf).flatMap f++rest) (0+pre.length * e) (zl z.cells.toList suf.length)) (.own []) e),zl z.cells.toList suf.length++rest,?_,by rw [zx.jg,if_pos rfl,hs],by simp,((Fr.refl _ _).kills (fun k hk=>.inl (by simp [hk]))).set (.inl (by simp)) _,WY (by omega) (JU (hx r (by simp)).2)⟩
 simp only [Wl,qX,hel,us,hz,hg]
 rw [if_neg hn,if_pos hgz,if_pos hzs,if_pos hz1,if_pos hpos,if_pos hle]
end
end Go.Abs
namespace Go.Proofs.Ytacbgjhmkhjpoaa
open Go.Abs
abbrev slices_Index.id:FuncId:=36
noncomputable def slices_Index.jh:Code:=(.seq (.region 2 (reg Try.f36 2) false) (.seq (.cond (.tmp 9) Code.skip (.exit 0)) (.seq (.block 1 (.seq (.region 3 (reg Try.f36 3) false) (.seq (.region 4 (reg Try.f36 4) false) (.cond (.tmp 16) (.seq (.region 5 (reg Try.f36 5) false) Code.ret) Code.skip)))) (.region 6 (reg Try.f36 6) false))))
noncomputable def slices_Index.code:Code:=(.seq (.region 0 (reg Try.f36 0) false) (.seq (.seq (.region 1 (reg Try.f36 1) false) (.block 0 (.loop slices_Index.jh))) (.seq (.region 7 (reg Try.f36 7) false) Code.ret)))
theorem slices_Index.body:Try.f36.body=some slices_Index.code:=by kernel_rfl
theorem slices_Index.eta {T:List Value} (h:T.length=19):T=[T.getD 0 zh,T.getD 1 zh,T.getD 2 zh,T.getD 3 zh,T.getD 4 zh,T.getD 5 zh,T.getD 6 zh,T.getD 7 zh,T.getD 8 zh,T.getD 9 zh,T.getD 10 zh,T.getD 11 zh,T.getD 12 zh,T.getD 13 zh,T.getD 14 zh,T.getD 15 zh,T.getD 16 zh,T.getD 17 zh,T.getD 18 zh]:=(qC T 19 h).trans (by kernel_rfl)
variable (b n q r v o t s p u c d f g i j k l m:Value) (S:zx)
theorem slices_Index.r0 :jd zi ⟨false,false,false⟩ (zO zi O) (reg Try.f36 0) (reg Try.f36 0).toList ([b,n,q,r,v,o,t,s,p,u,c,d,f,g,i,j,k,l,m]) S =
  ( some ([b,n,q,r,.int .i64 0,o,t,s,p,u,c,d,f,g,i,j,k,l,m],S)):=by
 kernel_rfl
theorem slices_Index.r1 :jd zi ⟨false,false,false⟩ (zO zi O) (reg Try.f36 1) (reg Try.f36 1).toList ([b,n,q,r,v,o,t,s,p,u,c,d,f,g,i,j,k,l,m]) S =
  (zS (kP zi 38 (dem b) S) (fun A w=>some ([b,n,q,r,v,o,dem b,A,.int .i64 0,u,c,d,f,g,i,j,k,l,m],w)) ()):=by
 kernel_rfl
theorem slices_Index.r2 :jd zi ⟨false,false,false⟩ (zO zi O) (reg Try.f36 2) (reg Try.f36 2).toList ([b,n,q,r,v,o,t,s,p,u,c,d,f,g,i,j,k,l,m]) S =
  (zS (wR zi BinOp.lss 3 p s S) (fun x w=>some ([b,n,q,r,v,o,t,s,p,x,c,d,f,g,i,j,k,l,m],w)) ()):=by
 kernel_rfl
theorem slices_Index.r3 :jd zi ⟨false,false,false⟩ (zO zi O) (reg Try.f36 3) (reg Try.f36 3).toList ([b,n,q,r,v,o,t,s,p,u,c,d,f,g,i,j,k,l,m]) S =
  ( some ([b,n,q,r,v,p,t,s,dem p,u,dem p,d,f,g,i,j,k,l,m],S)):=by
 kernel_rfl
theorem slices_Index.r4 :jd zi ⟨false,false,false⟩ (zO zi O) (reg Try.f36 4) (reg Try.f36 4).toList ([b,n,q,r,v,o,t,s,p,u,c,d,f,g,i,j,k,l,m]) S =
  (zS (zV zi 38 (dem b) (dem o) S) (fun y w=>zS (je zi false 3 y w) (fun z B=>zS (wR zi BinOp.eql 3 (dem n) z B) (fun C D=>some ([b,n,q,r,v,o,t,s,p,u,c,dem n,dem b,dem o,y,z,C,l,m],D)) ()) ()) ()):=by
 kernel_rfl
theorem slices_Index.r5 :jd zi ⟨false,false,false⟩ (zO zi O) (reg Try.f36 5) (reg Try.f36 5).toList ([b,n,q,r,v,o,t,s,p,u,c,d,f,g,i,j,k,l,m]) S =
  ( some ([b,n,q,r,o,dem o,t,s,p,u,c,d,f,g,i,j,k,dem o,m],S)):=by
 kernel_rfl
theorem slices_Index.r6 :jd zi ⟨false,false,false⟩ (zO zi O) (reg Try.f36 6) (reg Try.f36 6).toList ([b,n,q,r,v,o,t,s,p,u,c,d,f,g,i,j,k,l,m]) S =
  (zS (wR zi BinOp.add 3 p (.int .i64 1) S) (fun x w=>some ([b,n,q,r,v,o,t,s,dem x,u,c,d,f,g,i,j,k,l,x],w)) ()):=by
 kernel_rfl
theorem slices_Index.r7 :jd zi ⟨false,false,false⟩ (zO zi O) (reg Try.f36 7) (reg Try.f36 7).toList ([b,n,q,r,v,o,t,s,p,u,c,d,f,g,i,j,k,l,m]) S =
  ( some ([b,n,q,r,.int .i64 (-1),o,t,s,p,u,c,d,f,g,i,j,k,l,m],S)):=by
 kernel_rfl
theorem slices_Index.rs:type_of% (afz @slices_Index.r0 (afz @slices_Index.r1 (afz @slices_Index.r2 (afz @slices_Index.r3 (afz @slices_Index.r4 (afz @slices_Index.r5 (afz @slices_Index.r6 (@slices_Index.r7)))))))):=afz @slices_Index.r0 (afz @slices_Index.r1 (afz @slices_Index.r2 (afz @slices_Index.r3 (afz @slices_Index.r4 (afz @slices_Index.r5 (afz @slices_Index.r6 (@slices_Index.r7)))))))
theorem slices_Index.runs {b n:Value} {S w:zx} {e:AEx} {T:List Value} (h:zD zi O false slices_Index.code ([b,n,zh,zh,zh,zh,zh,zh,zh,zh,zh,zh,zh,zh,zh,zh,zh,zh,zh]) S=some (e,T,w)) (he:e=.normal∨e=.ret):zO zi O 36 [b,n] S=some (T.getD 4 zh,w) :=
 jA rfl rfl Try.func36 (by decide) slices_Index.body (by exact h) he (jG (a:=T.getD 4 zh) ((show zH zi T w Try.f36.results.toList=zH zi T w [(ResultVar.tmp 4)] from by kernel_rfl).trans (by simp only [zH])) (by kernel_rfl))
end Go.Proofs.Ytacbgjhmkhjpoaa
namespace Go.Proofs.Ytacbgjhmkhjpoaa
open Go.Abs
abbrev slices_Contains.id:FuncId:=29
noncomputable def slices_Contains.code:Code:=(.seq (.region 0 (reg Try.f29 0) false) (.seq (.region 1 (reg Try.f29 1) false) Code.ret))
theorem slices_Contains.body:Try.f29.body=some slices_Contains.code:=by kernel_rfl
variable (b c f g m i j k l:Value) (S:zx)
theorem slices_Contains.r0 :jd zi ⟨false,false,false⟩ (zO zi O) (reg Try.f29 0) (reg Try.f29 0).toList ([b,c,f,g,m,i,j,k,l]) S =
  ( some ([b,c,f,g,Value.bool false,i,j,k,l],S)):=by
 kernel_rfl
theorem slices_Contains.r1 :jd zi ⟨false,false,false⟩ (zO zi O) (reg Try.f29 1) (reg Try.f29 1).toList ([b,c,f,g,m,i,j,k,l]) S =
  (zS ((zO zi O) 36 [(dem (dem b)),(dem (dem c))] S) (fun n d=>zS (wR zi BinOp.geq 3 n (.int .i64 0) d) (fun o p=>some ([b,c,f,g,o,dem b,dem c,n,dem o],p)) ()) ()):=by
 kernel_rfl
theorem slices_Contains.rs:type_of% (afz @slices_Contains.r0 (@slices_Contains.r1)):=afz @slices_Contains.r0 (@slices_Contains.r1)
theorem slices_Contains.runs {b c:Value} {S d:zx} {e:AEx} {T:List Value} (h:zD zi O false slices_Contains.code ([b,c,zh,zh,zh,zh,zh,zh,zh]) S=some (e,T,d)) (he:e=.normal∨e=.ret):zO zi O 29 [b,c] S=some (T.getD 4 zh,d) :=
 jA rfl rfl Try.func29 (by decide) slices_Contains.body (by exact h) he (jG (a:=T.getD 4 zh) ((show zH zi T d Try.f29.results.toList=zH zi T d [(ResultVar.tmp 4)] from by kernel_rfl).trans (by simp only [zH])) (by kernel_rfl))
end Go.Proofs.Ytacbgjhmkhjpoaa
namespace Go.Proofs.Ytacbgjhmkhjpoaa
open Go.Abs
theorem afa (x:Int):sv 2 1 1 [.int .i64 x]=iz 2 [x]:=rfl
theorem adR {k:Nat} {l:List Int} {x:Int} {S:zx} (h:Okl k l) (hk:k≠1) (hl:l.length≤17592186044000):qo zi 38 38 (iz k l) (iz 2 [x]) S=some (iz 2 (l++[x]),S):=by
 rw [aag h hk Okl.own (by simp;omega),if_neg (fun h=>by have:=h.2;simp at this)]
end Go.Proofs.Ytacbgjhmkhjpoaa
namespace Go.Proofs.Ytacbgjhmkhjpoaa
open Go.Abs
def idxFrom {α:Type} (p:α→Bool):Int→List α→Int
 | _,[]=>-1
 | i,x::r=>if p x then i else idxFrom p (i+1) r
theorem vY {α:Type} {p:α→Bool}:∀ {l:List α} {i:Int},l.any p=false→idxFrom p i l=-1
 | [],_,_=>rfl
 | x::r,i,h=>by
  rw [List.any_cons,Bool.or_eq_false_iff] at h
  rw [idxFrom,h.1]
  exact vY h.2
theorem Xe {α:Type} {p:α→Bool}:∀ {l:List α} {i:Int},l.any p=true→i≤idxFrom p i l
 | [],_,h=>by cases h
 | x::r,i,h=>by
  rw [idxFrom]
  split
  ·
   omega
  ·
   rename_i hx
   rw [List.any_cons,Bool.or_eq_true] at h
   have:=Xe (i:=i+1) (h.resolve_left hx)
   omega
theorem ac4 {α:Type} {p:α→Bool} {l:List α}:decide (0≤idxFrom p 0 l)=l.any p:=by
 cases h:l.any p with
 | false=>rw [vY h];decide
 | true=>rw [decide_eq_true_eq];exact Xe h
section
variable {k:Nat} {l:List Int}
theorem slices_Index.round (hv:Okl k l) (hk:k≠2) (hlen:l.length≤17592186044416) {v:Int} {S:zx}:∀ (suf pre:List Int) {T:List Value} {r:St},wP (zD zi O false slices_Index.jh) T S=r→T.length=19 →
  T.getD 0 zh=iz k l→T.getD 1 zh=.int .i64 v→T.getD 7 zh=.int .i64 l.length→T.getD 8 zh=.int .i64 pre.length→l=pre++suf →
  ∃ e T',r=some (e,T',S)∧if suf.any (fun x=>decide (v=x)) then e=.ret∧T'.getD 4 zh=.int .i64 (idxFrom (fun x=>decide (v=x)) pre.length suf) else e=.exit 0∧T'.length=19:=by
 intro suf
 induction suf with
 | nil =>
  intro pre T r hL hT h0 h1 h7 h8 hl
  have hTe:=slices_Index.eta hT
  rw [h0,h1,h7,h8] at hTe
  have hr:zD zi O false slices_Index.jh T S=zD zi O false slices_Index.jh T S:=rfl
  have hd:¬ (pre.length:Int) < (l.length:Int):=by rw [hl];simp
  conv at hr =>
   rhs
   rw [hTe]
   simp only [slices_Index.jh,slices_Index.code,slices_Index.rs,zSs,reduceIte,zk,zn,zo,zq,hd]
  exact ⟨_,_,hL.symm.trans (jr hr (by simp)),rfl,rfl⟩
 | cons x suf ih =>
  intro pre T r hL hT h0 h1 h7 h8 hl
  have hTe:=slices_Index.eta hT
  rw [h0,h1,h7,h8] at hTe
  have hr:zD zi O false slices_Index.jh T S=zD zi O false slices_Index.jh T S:=rfl
  have hd:(pre.length:Int) < (l.length:Int):=by rw [hl];simp;omega
  have e1:∀ S,zV zi 38 (iz k l) (.int .i64 pre.length) S=some (EP [.int .i64 x],S):=fun S=>by
   rw [adq hv (by omega) hd];rw [JG hl]
  have wi:IntKind.i64.wrap ((pre.length:Int)+1)=((pre++[x]).length:Int):=by rw [wrap_i64 (by omega) (by omega)];simp
  rw [List.any_cons,idxFrom]
  by_cases hx:v=x
  ·
   have hx2:=decide_eq_true hx
   conv at hr =>
    rhs
    rw [hTe]
    simp only [slices_Index.jh,slices_Index.code,slices_Index.rs,zSs,reduceIte,zk,zn,zo,zq,if_neg hk,hd,e1,xQ,hx2]
   refine ⟨_,_,hL.symm.trans (jr hr (by simp)),?_⟩
   rw [hx2,Bool.true_or]
   exact ⟨rfl,rfl⟩
  ·
   have hx2:=decide_eq_false hx
   conv at hr =>
    rhs
    rw [hTe]
    simp only [slices_Index.jh,slices_Index.code,slices_Index.rs,zSs,reduceIte,zk,zn,zo,zq,if_neg hk,hd,e1,xQ,hx2,wi]
   obtain ⟨e,T',g1,g2⟩:=ih (pre++[x]) ((jo hr).symm.trans hL) rfl rfl rfl rfl rfl (by simp [hl])
   refine ⟨e,T',g1,?_⟩
   rw [hx2,Bool.false_or]
   rw [show (((pre++[x]).length:Nat):Int)=(pre.length:Int)+1 by simp] at g2
   exact g2
theorem slices_Index.v (hv:Okl k l) (hk:k≠2) (hlen:l.length≤17592186044416) {v:Int} (S:zx):zO zi O slices_Index.id [iz k l,.int .i64 v] S=some (.int .i64 (idxFrom (fun x=>decide (v=x)) 0 l),S):=by
 obtain ⟨T,hTe⟩:∃ T,T=(iz k l::.int .i64 v::zh::zh::zh::zh::zh::zh::zh::zh::zh::zh::zh::zh::zh::zh::zh::zh::zh::[]):=⟨_,rfl⟩
 have hr:zD zi O false slices_Index.code T S=zD zi O false slices_Index.code T S:=rfl
 conv at hr =>
  rhs
  rw [hTe]
  simp only [slices_Index.code,slices_Index.rs,zSs,reduceIte,zk,zn,zo,zq,if_neg hk,Xj hv,goInt]
 generalize hL:wP (zD zi O false slices_Index.jh) _ _=r at hr
 obtain ⟨e,T',rfl,g⟩:=slices_Index.round hv hk hlen l [] hL rfl rfl rfl rfl rfl rfl
 cases h:l.any (fun x=>decide (v=x)) with
 | true =>
  rw [h] at g
  obtain ⟨rfl,g2⟩:=g
  conv at hr =>
   rhs
   simp only [zSs,reduceIte,zk,zn,zo,zq]
  rw [hTe] at hr
  have hrun:=slices_Index.runs hr (.inr rfl)
  rw [g2] at hrun
  exact hrun
 | false =>
  rw [h] at g
  obtain ⟨rfl,g2⟩:=g
  have hTe':=slices_Index.eta g2
  conv at hr =>
   rhs
   rw [hTe']
   simp only [slices_Index.code,slices_Index.rs,zSs,reduceIte,zk,zn,zo,zq]
  rw [hTe] at hr
  rw [vY h]
  exact slices_Index.runs hr (.inr rfl)
theorem slices_Contains.v (hv:Okl k l) (hk:k≠2) (hlen:l.length≤17592186044416) {v:Int} (S:zx):zO zi O slices_Contains.id [iz k l,.int .i64 v] S=some (.bool (l.any fun x=>decide (v=x)),S):=by
 obtain ⟨T,hTe⟩:∃ T,T=(iz k l::.int .i64 v::zh::zh::zh::zh::zh::zh::zh::[]):=⟨_,rfl⟩
 have hr:zD zi O false slices_Contains.code T S=zD zi O false slices_Contains.code T S:=rfl
 have c1:=fun S=>slices_Index.v hv hk hlen (v:=v) S
 conv at hr =>
  rhs
  rw [hTe]
  simp only [slices_Contains.code,slices_Contains.rs,zSs,reduceIte,zk,zn,zo,zq,if_neg hk,c1,ac4]
 rw [hTe] at hr
 exact slices_Contains.runs hr (.inr rfl)
end
end Go.Proofs.Ytacbgjhmkhjpoaa
namespace Go.Proofs.Ytacbgjhmkhjpoaa
open Go.Abs
abbrev jM.id:FuncId:=22
noncomputable def jM.code:Code:=(.seq (.region 0 (reg Try.f22 0) false) (.seq (.region 1 (reg Try.f22 1) false) Code.ret))
theorem jM.body:Try.f22.body=some jM.code:=by kernel_rfl
variable (c i Y J K L M N P Q l m n o p q r s t u w:Value) (S:zx)
theorem jM.r0 :jd zi ⟨false,false,false⟩ (zO zi O) (reg Try.f22 0) (reg Try.f22 0).toList ([c,i,Y,J,K,L,M,N,P,Q,l,m,n,o,p,q,r,s,t,u,w]) S =
  (zS (ZQ (dem c) S) (fun x d=>some ([c,x,Value.bool false,J,K,L,M,N,P,Q,l,m,n,o,p,q,r,s,t,u,w],d)) ()):=by
 kernel_rfl
theorem jM.r1 :jd zi ⟨false,false,false⟩ (zO zi O) (reg Try.f22 1) (reg Try.f22 1).toList ([c,i,Y,J,K,L,M,N,P,Q,l,m,n,o,p,q,r,s,t,u,w]) S =
  (zS (zQ zi 30 i 0 S) (fun x d=>zS (je zi false 3 x d) (fun R Z=>zS (wR zi BinOp.geq 3 R (.int .i64 1) Z) (fun f S3=>gdK (dem f) true (zQ zi 30 i 0) S3 (fun U S4=>gdK (dem f) true (je zi false 3 U) S4 (fun V S5=>gdK (dem f) true (wR zi BinOp.leq 3 V (.int .i64 1000000)) S5 (fun W S6=>zS (kW (dem f) W (Value.bool false) S6) (fun g S7=>gdK (dem g) true (zQ zi 30 i 1) S7 (fun X S8=>gdK (dem g) true (je zi false 3 X) S8 (fun y S9=>gdK (dem g) true (wR zi BinOp.geq 3 y (.int .i64 0)) S9 (fun z D=>zS (kW (dem g) z (Value.bool false) D) (fun b E=>gdK (dem b) true (zQ zi 30 i 1) E (fun A F=>gdK (dem b) true (je zi false 3 A) F (fun B G=>gdK (dem b) true (wR zi BinOp.leq 3 B (.int .i64 1000)) G (fun C H=>zS (kW (dem b) C (Value.bool false) H) (fun k I=>some ([c,i,k,x,R,f,dem f,U,V,W,g,dem g,X,y,z,b,dem b,A,B,C,dem k],I)) ()) ()) ()) ()) ()) ()) ()) ()) ()) ()) ()) ()) ()) ()) ()):=by
 refine sD Try.f22 1 0 (fun x d=>?_)
 refine sD Try.f22 1 1 (fun R Z=>?_)
 refine sD Try.f22 1 2 (fun f S3=>?_)
 refine sP Try.f22 1 3 (v:=f) ?_
 refine sG Try.f22 1 4 (j:=3) (fun U S4=>?_)
 refine sG Try.f22 1 5 (j:=3) (fun V S5=>?_)
 refine sG Try.f22 1 6 (j:=3) (fun W S6=>?_)
 refine sD Try.f22 1 7 (fun g S7=>?_)
 refine sP Try.f22 1 8 (v:=g) ?_
 refine sG Try.f22 1 9 (j:=8) (fun X S8=>?_)
 refine sG Try.f22 1 10 (j:=8) (fun y S9=>?_)
 refine sG Try.f22 1 11 (j:=8) (fun z D=>?_)
 refine sD Try.f22 1 12 (fun b E=>?_)
 refine sP Try.f22 1 13 (v:=b) ?_
 refine sG Try.f22 1 14 (j:=13) (fun A F=>?_)
 refine sG Try.f22 1 15 (j:=13) (fun B G=>?_)
 refine sG Try.f22 1 16 (j:=13) (fun C H=>?_)
 refine sD Try.f22 1 17 (fun k I=>?_)
 refine sP Try.f22 1 18 (v:=k) ?_
 kernel_rfl
theorem jM.rs:type_of% (afz @jM.r0 (@jM.r1)):=afz @jM.r0 (@jM.r1)
theorem jM.runs {c:Value} {S d:zx} {e:AEx} {T:List Value} (h:zD zi O false jM.code ([c,zh,zh,zh,zh,zh,zh,zh,zh,zh,zh,zh,zh,zh,zh,zh,zh,zh,zh,zh,zh]) zx.empty=some (e,T,d)) (he:e=.normal∨e=.ret) (hca:[c].all (ji 16)=true) (hcv:ji 16 (T.getD 2 zh)=true):zO zi O 22 [c] S=some (T.getD 2 zh,S) :=
 Jk rfl rfl Try.func22 (by decide) jM.body (by exact h) he (jG (a:=T.getD 2 zh) ((show zH zi T d Try.f22.results.toList=zH zi T d [(ResultVar.tmp 2)] from by kernel_rfl).trans (by simp only [zH])) (by kernel_rfl)) hca hcv
end Go.Proofs.Ytacbgjhmkhjpoaa
namespace Go.Proofs.Ytacbgjhmkhjpoaa
open Go.Abs
abbrev jE.id:FuncId:=27
noncomputable def jE.code:Code:=(.seq (.region 0 (reg Try.f27 0) false) (.seq (.region 1 (reg Try.f27 1) true) Code.ret))
theorem jE.body:Try.f27.body=some jE.code:=by kernel_rfl
variable (b c k l U H I J K L m n o p q r s t:Value) (S:zx)
theorem jE.r0 :jd zi ⟨false,false,false⟩ (zO zi O) (reg Try.f27 0) (reg Try.f27 0).toList ([b,c,k,l,U,H,I,J,K,L,m,n,o,p,q,r,s,t]) S =
  (zS (ZQ (dem b) S) (fun g d=>zS (ZQ (dem c) d) (fun u y=>some ([b,c,g,u,Value.bool false,H,I,J,K,L,m,n,o,p,q,r,s,t],y)) ()) ()):=by
 kernel_rfl
theorem jE.d1:qO zi (reg Try.f27 1)=true:=by kernel_rfl
theorem jE.ff1:fixed zi (reg Try.f27 1)=false:=by kernel_rfl
theorem jE.k1:checked zi (reg Try.f27 1)=[5,6,7,8]:=by kernel_rfl
theorem jE.g1:again zi (reg Try.f27 1)=[(6,4),(8,4)]:=by kernel_rfl
theorem jE.r1 :zD zi O false (.region 1 (reg Try.f27 1) true) ([b,c,k,l,U,H,I,J,K,L,m,n,o,p,q,r,s,t]) S =
  QN (zS (zQ zi 30 l 1 S) (fun g d=>zS (je zi false 3 g d) (fun u y=>zS (zQ zi 30 k 1 y) (fun z V=>zS (je zi false 3 z V) (fun M A=>zS ((zO zi O) 33 [(dem u),(dem M)] A) (fun N W=>zS (zQ zi 30 k 0 W) (fun i P=>okK i ( zS (je zi false 3 i P) (fun B X=>okK B ( zS (zQ zi 30 l 0 X) (fun j Q=>okK j ( zS (je zi false 3 j Q) (fun C Y=>okK C ( zS ((zO zi O) 33 [(dem B),(dem C)] Y) (fun R D=>zS (jw zi 38 2 [(0,N),(1,R)] D) (fun w E=>zS ((zO zi O) 32 [(dem w)] E) (fun x F=>zS (wR zi BinOp.lss 3 x (.int .i64 0) F) (fun f G=>ckK (yC i A P && (yC j A Q && (true))) (some ([b,c,k,l,f,g,u,z,M,N,i,B,j,C,R,w,x,dem f],G)) ()) ()) ()) ()) ()) ()) ()) ()) ()) ()) ()) ()) ()) ()) ()) ()) ()) ()):=by
 rw [Zy jE.d1 jE.ff1 jE.k1 jE.g1]
 refine congrArg QN ?_
 refine uD Try.f27 1 0 (pe:=zh) (fun g d=>?_)
 refine uD Try.f27 1 1 (pe:=g) (fun u y=>?_)
 refine uD Try.f27 1 2 (pe:=zh) (fun z V=>?_)
 refine uD Try.f27 1 3 (pe:=z) (fun M A=>?_)
 refine uD Try.f27 1 4 (pe:=zh) (fun N W=>?_)
 refine uDC Try.f27 1 5 (pe:=zh) (fun i P=>?_)
 refine uDC Try.f27 1 6 (pe:=i) (fun B X=>?_)
 refine uDC Try.f27 1 7 (pe:=zh) (fun j Q=>?_)
 refine uDC Try.f27 1 8 (pe:=j) (fun C Y=>?_)
 refine uD Try.f27 1 9 (pe:=zh) (fun R D=>?_)
 refine uD Try.f27 1 10 (pe:=zh) (fun w E=>?_)
 refine uD Try.f27 1 11 (pe:=zh) (fun x F=>?_)
 refine uD Try.f27 1 12 (pe:=zh) (fun f G=>?_)
 refine uP Try.f27 1 13 (v:=f) (pe:=zh) ?_
 kernel_rfl
theorem jE.rs:type_of% (afz @jE.r0 (@jE.r1)):=afz @jE.r0 (@jE.r1)
theorem jE.runs {b c:Value} {S d:zx} {e:AEx} {T:List Value} (h:zD zi O false jE.code ([b,c,zh,zh,zh,zh,zh,zh,zh,zh,zh,zh,zh,zh,zh,zh,zh,zh]) zx.empty=some (e,T,d)) (he:e=.normal∨e=.ret) (hca:[b,c].all (ji 16)=true) (hcv:ji 16 (T.getD 4 zh)=true):zO zi O 27 [b,c] S=some (T.getD 4 zh,S) :=
 Jk rfl rfl Try.func27 (by decide) jE.body (by exact h) he (jG (a:=T.getD 4 zh) ((show zH zi T d Try.f27.results.toList=zH zi T d [(ResultVar.tmp 4)] from by kernel_rfl).trans (by simp only [zH])) (by kernel_rfl)) hca hcv
end Go.Proofs.Ytacbgjhmkhjpoaa
namespace Go.Proofs.Ytacbgjhmkhjpoaa
open Go.Abs
abbrev zF.id:FuncId:=13
noncomputable def zF.code:Code:=(.seq (.region 0 (reg Try.f13 0) false) (.seq (.seq (.region 1 (reg Try.f13 1) false) (.cond (.tmp 9) (.seq (.region 2 (reg Try.f13 2) false) Code.ret) Code.skip)) (.seq (.region 3 (reg Try.f13 3) false) Code.ret)))
theorem zF.body:Try.f13.body=some zF.code:=by kernel_rfl
variable (b c q r D w x y z A d f g i j k l m n o:Value) (S:zx)
theorem zF.r0 :jd zi ⟨false,false,false⟩ (zO zi O) (reg Try.f13 0) (reg Try.f13 0).toList ([b,c,q,r,D,w,x,y,z,A,d,f,g,i,j,k,l,m,n,o]) S =
  (zS (ZQ (dem b) S) (fun s p=>zS (ZQ (dem c) p) (fun t B=>some ([b,c,s,t,Value.bool false,w,x,y,z,A,d,f,g,i,j,k,l,m,n,o],B)) ()) ()):=by
 kernel_rfl
theorem zF.r1 :jd zi ⟨false,false,false⟩ (zO zi O) (reg Try.f13 1) (reg Try.f13 1).toList ([b,c,q,r,D,w,x,y,z,A,d,f,g,i,j,k,l,m,n,o]) S =
  (zS (zQ zi 30 q 1 S) (fun s p=>zS (je zi false 3 s p) (fun t B=>zS (zQ zi 30 r 1 B) (fun u E=>zS (je zi false 3 u E) (fun v F=>zS (wR zi BinOp.neq 3 t v F) (fun C G=>some ([b,c,q,r,D,s,t,u,v,C,d,f,g,i,j,k,l,m,n,o],G)) ()) ()) ()) ()) ()):=by
 kernel_rfl
theorem zF.r2 :jd zi ⟨false,false,false⟩ (zO zi O) (reg Try.f13 2) (reg Try.f13 2).toList ([b,c,q,r,D,w,x,y,z,A,d,f,g,i,j,k,l,m,n,o]) S =
  (zS (zQ zi 30 q 1 S) (fun s p=>zS (je zi false 3 s p) (fun t B=>zS (zQ zi 30 r 1 B) (fun u E=>zS (je zi false 3 u E) (fun v F=>zS (wR zi BinOp.gtr 3 t v F) (fun C G=>some ([b,c,q,r,C,w,x,y,z,A,s,t,u,v,dem C,k,l,m,n,o],G)) ()) ()) ()) ()) ()):=by
 kernel_rfl
theorem zF.r3 :jd zi ⟨false,false,false⟩ (zO zi O) (reg Try.f13 3) (reg Try.f13 3).toList ([b,c,q,r,D,w,x,y,z,A,d,f,g,i,j,k,l,m,n,o]) S =
  (zS (zQ zi 30 q 0 S) (fun s p=>zS (je zi false 3 s p) (fun t B=>zS (zQ zi 30 r 0 B) (fun u E=>zS (je zi false 3 u E) (fun v F=>zS (wR zi BinOp.lss 3 t v F) (fun C G=>some ([b,c,q,r,C,w,x,y,z,A,d,f,g,i,j,s,t,u,v,dem C],G)) ()) ()) ()) ()) ()):=by
 kernel_rfl
theorem zF.rs:type_of% (afz @zF.r0 (afz @zF.r1 (afz @zF.r2 (@zF.r3)))):=afz @zF.r0 (afz @zF.r1 (afz @zF.r2 (@zF.r3)))
theorem zF.runs {b c:Value} {S p:zx} {e:AEx} {T:List Value} (h:zD zi O false zF.code ([b,c,zh,zh,zh,zh,zh,zh,zh,zh,zh,zh,zh,zh,zh,zh,zh,zh,zh,zh]) zx.empty=some (e,T,p)) (he:e=.normal∨e=.ret) (hca:[b,c].all (ji 16)=true) (hcv:ji 16 (T.getD 4 zh)=true):zO zi O 13 [b,c] S=some (T.getD 4 zh,S) :=
 Jk rfl rfl Try.func13 (by decide) zF.body (by exact h) he (jG (a:=T.getD 4 zh) ((show zH zi T p Try.f13.results.toList=zH zi T p [(ResultVar.tmp 4)] from by kernel_rfl).trans (by simp only [zH])) (by kernel_rfl)) hca hcv
end Go.Proofs.Ytacbgjhmkhjpoaa
namespace Go.Proofs.Ytacbgjhmkhjpoaa
open Go.Abs
abbrev zG.id:FuncId:=33
noncomputable def zG.code:Code:=(.seq (.region 0 (reg Try.f33 0) false) (.seq (.region 1 (reg Try.f33 1) false) (.seq (.region 2 (reg Try.f33 2) false) (.seq (.seq (.region 3 (reg Try.f33 3) false) (.cond (.tmp 11) (.seq (.seq (.region 4 (reg Try.f33 4) false) (.cond (.tmp 12) (.seq (.region 5 (reg Try.f33 5) false) Code.ret) Code.skip)) (.seq (.region 6 (reg Try.f33 6) false) Code.ret)) Code.skip)) (.seq (.seq (.region 7 (reg Try.f33 7) false) (.cond (.tmp 13) (.seq (.region 8 (reg Try.f33 8) false) Code.ret) Code.skip)) (.seq (.seq (.region 9 (reg Try.f33 9) false) (.cond (.tmp 16) (.seq (.region 10 (reg Try.f33 10) false) Code.ret) Code.skip)) (.seq (.seq (.region 11 (reg Try.f33 11) false) (.cond (.tmp 19) (.seq (.region 12 (reg Try.f33 12) false) Code.ret) Code.skip)) (.seq (.region 13 (reg Try.f33 13) false) Code.ret))))))))
theorem zG.body:Try.f33.body=some zG.code:=by kernel_rfl
variable (n o q r w s p t u v b c d f g i j k l m:Value) (S:zx)
theorem zG.r0 :jd zi ⟨false,false,false⟩ (zO zi O) (reg Try.f33 0) (reg Try.f33 0).toList ([n,o,q,r,w,s,p,t,u,v,b,c,d,f,g,i,j,k,l,m]) S =
  ( some ([n,o,q,r,.int .i64 0,s,p,t,u,v,b,c,d,f,g,i,j,k,l,m],S)):=by
 kernel_rfl
theorem zG.r1 :jd zi ⟨false,false,false⟩ (zO zi O) (reg Try.f33 1) (reg Try.f33 1).toList ([n,o,q,r,w,s,p,t,u,v,b,c,d,f,g,i,j,k,l,m]) S =
  (zS ((zO zi O) 37 [(dem (dem n))] S) (fun y x=>some ([n,o,q,r,w,y,p,dem n,dem y,v,b,c,d,f,g,i,j,k,l,m],x)) ()):=by
 kernel_rfl
theorem zG.r2 :jd zi ⟨false,false,false⟩ (zO zi O) (reg Try.f33 2) (reg Try.f33 2).toList ([n,o,q,r,w,s,p,t,u,v,b,c,d,f,g,i,j,k,l,m]) S =
  (zS ((zO zi O) 37 [(dem (dem o))] S) (fun y x=>some ([n,o,q,r,w,s,y,t,u,dem o,dem y,c,d,f,g,i,j,k,l,m],x)) ()):=by
 kernel_rfl
theorem zG.r3 :jd zi ⟨false,false,false⟩ (zO zi O) (reg Try.f33 3) (reg Try.f33 3).toList ([n,o,q,r,w,s,p,t,u,v,b,c,d,f,g,i,j,k,l,m]) S =
  ( some ([n,o,q,r,w,s,p,t,u,v,b,dem s,d,f,g,i,j,k,l,m],S)):=by
 kernel_rfl
theorem zG.r4 :jd zi ⟨false,false,false⟩ (zO zi O) (reg Try.f33 4) (reg Try.f33 4).toList ([n,o,q,r,w,s,p,t,u,v,b,c,d,f,g,i,j,k,l,m]) S =
  ( some ([n,o,q,r,w,s,p,t,u,v,b,c,dem p,f,g,i,j,k,l,m],S)):=by
 kernel_rfl
theorem zG.r5 :jd zi ⟨false,false,false⟩ (zO zi O) (reg Try.f33 5) (reg Try.f33 5).toList ([n,o,q,r,w,s,p,t,u,v,b,c,d,f,g,i,j,k,l,m]) S =
  ( some ([n,o,q,r,.int .i64 0,s,p,t,u,v,b,c,d,f,g,i,j,k,l,m],S)):=by
 kernel_rfl
theorem zG.r6 :jd zi ⟨false,false,false⟩ (zO zi O) (reg Try.f33 6) (reg Try.f33 6).toList ([n,o,q,r,w,s,p,t,u,v,b,c,d,f,g,i,j,k,l,m]) S =
  ( some ([n,o,q,r,.int .i64 (-1),s,p,t,u,v,b,c,d,f,g,i,j,k,l,m],S)):=by
 kernel_rfl
theorem zG.r7 :jd zi ⟨false,false,false⟩ (zO zi O) (reg Try.f33 7) (reg Try.f33 7).toList ([n,o,q,r,w,s,p,t,u,v,b,c,d,f,g,i,j,k,l,m]) S =
  ( some ([n,o,q,r,w,s,p,t,u,v,b,c,d,dem p,g,i,j,k,l,m],S)):=by
 kernel_rfl
theorem zG.r8 :jd zi ⟨false,false,false⟩ (zO zi O) (reg Try.f33 8) (reg Try.f33 8).toList ([n,o,q,r,w,s,p,t,u,v,b,c,d,f,g,i,j,k,l,m]) S =
  ( some ([n,o,q,r,.int .i64 1,s,p,t,u,v,b,c,d,f,g,i,j,k,l,m],S)):=by
 kernel_rfl
theorem zG.r9 :jd zi ⟨false,false,false⟩ (zO zi O) (reg Try.f33 9) (reg Try.f33 9).toList ([n,o,q,r,w,s,p,t,u,v,b,c,d,f,g,i,j,k,l,m]) S =
  (zS (wR zi BinOp.lss 3 (dem n) (dem o) S) (fun z x=>some ([n,o,q,r,w,s,p,t,u,v,b,c,d,f,dem n,dem o,z,k,l,m],x)) ()):=by
 kernel_rfl
theorem zG.r10 :jd zi ⟨false,false,false⟩ (zO zi O) (reg Try.f33 10) (reg Try.f33 10).toList ([n,o,q,r,w,s,p,t,u,v,b,c,d,f,g,i,j,k,l,m]) S =
  ( some ([n,o,q,r,.int .i64 (-1),s,p,t,u,v,b,c,d,f,g,i,j,k,l,m],S)):=by
 kernel_rfl
theorem zG.r11 :jd zi ⟨false,false,false⟩ (zO zi O) (reg Try.f33 11) (reg Try.f33 11).toList ([n,o,q,r,w,s,p,t,u,v,b,c,d,f,g,i,j,k,l,m]) S =
  (zS (wR zi BinOp.gtr 3 (dem n) (dem o) S) (fun z x=>some ([n,o,q,r,w,s,p,t,u,v,b,c,d,f,g,i,j,dem n,dem o,z],x)) ()):=by
 kernel_rfl
theorem zG.r12 :jd zi ⟨false,false,false⟩ (zO zi O) (reg Try.f33 12) (reg Try.f33 12).toList ([n,o,q,r,w,s,p,t,u,v,b,c,d,f,g,i,j,k,l,m]) S =
  ( some ([n,o,q,r,.int .i64 1,s,p,t,u,v,b,c,d,f,g,i,j,k,l,m],S)):=by
 kernel_rfl
theorem zG.r13 :jd zi ⟨false,false,false⟩ (zO zi O) (reg Try.f33 13) (reg Try.f33 13).toList ([n,o,q,r,w,s,p,t,u,v,b,c,d,f,g,i,j,k,l,m]) S =
  ( some ([n,o,q,r,.int .i64 0,s,p,t,u,v,b,c,d,f,g,i,j,k,l,m],S)):=by
 kernel_rfl
theorem zG.rs:type_of% (afz @zG.r0 (afz @zG.r1 (afz @zG.r2 (afz @zG.r3 (afz @zG.r4 (afz @zG.r5 (afz @zG.r6 (afz @zG.r7 (afz @zG.r8 (afz @zG.r9 (afz @zG.r10 (afz @zG.r11 (afz @zG.r12 (@zG.r13)))))))))))))):=afz @zG.r0 (afz @zG.r1 (afz @zG.r2 (afz @zG.r3 (afz @zG.r4 (afz @zG.r5 (afz @zG.r6 (afz @zG.r7 (afz @zG.r8 (afz @zG.r9 (afz @zG.r10 (afz @zG.r11 (afz @zG.r12 (@zG.r13)))))))))))))
theorem zG.runs {n o:Value} {S x:zx} {e:AEx} {T:List Value} (h:zD zi O false zG.code ([n,o,zh,zh,zh,zh,zh,zh,zh,zh,zh,zh,zh,zh,zh,zh,zh,zh,zh,zh]) S=some (e,T,x)) (he:e=.normal∨e=.ret):zO zi O 33 [n,o] S=some (T.getD 4 zh,x) :=
 jA rfl rfl Try.func33 (by decide) zG.body (by exact h) he (jG (a:=T.getD 4 zh) ((show zH zi T x Try.f33.results.toList=zH zi T x [(ResultVar.tmp 4)] from by kernel_rfl).trans (by simp only [zH])) (by kernel_rfl))
end Go.Proofs.Ytacbgjhmkhjpoaa
namespace Go.Proofs.Ytacbgjhmkhjpoaa
open Go.Abs
abbrev zZ.id:FuncId:=32
noncomputable def zZ.jh:Code:=(.seq (.region 3 (reg Try.f32 3) false) (.seq (.cond (.tmp 9) Code.skip (.exit 0)) (.seq (.block 1 (.seq (.region 4 (reg Try.f32 4) false) (.seq (.region 5 (reg Try.f32 5) false) (.cond (.tmp 14) (.seq (.region 6 (reg Try.f32 6) false) Code.ret) Code.skip)))) (.region 7 (reg Try.f32 7) false))))
noncomputable def zZ.code:Code:=(.seq (.region 0 (reg Try.f32 0) false) (.seq (.region 1 (reg Try.f32 1) false) (.seq (.seq (.region 2 (reg Try.f32 2) false) (.block 0 (.loop zZ.jh))) (.seq (.region 8 (reg Try.f32 8) false) Code.ret))))
theorem zZ.body:Try.f32.body=some zZ.code:=by kernel_rfl
theorem zZ.eta {T:List Value} (h:T.length=18):T=[T.getD 0 zh,T.getD 1 zh,T.getD 2 zh,T.getD 3 zh,T.getD 4 zh,T.getD 5 zh,T.getD 6 zh,T.getD 7 zh,T.getD 8 zh,T.getD 9 zh,T.getD 10 zh,T.getD 11 zh,T.getD 12 zh,T.getD 13 zh,T.getD 14 zh,T.getD 15 zh,T.getD 16 zh,T.getD 17 zh]:=(qC T 18 h).trans (by kernel_rfl)
variable (l p u m q n r s o t b c d f g i j k:Value) (S:zx)
theorem zZ.r0 :jd zi ⟨false,false,false⟩ (zO zi O) (reg Try.f32 0) (reg Try.f32 0).toList ([l,p,u,m,q,n,r,s,o,t,b,c,d,f,g,i,j,k]) S =
  ( some ([l,p,.int .i64 0,m,q,n,r,s,o,t,b,c,d,f,g,i,j,k],S)):=by
 kernel_rfl
theorem zZ.r1 :jd zi ⟨false,false,false⟩ (zO zi O) (reg Try.f32 1) (reg Try.f32 1).toList ([l,p,u,m,q,n,r,s,o,t,b,c,d,f,g,i,j,k]) S =
  ( some ([l,p,u,.int .i64 0,q,n,r,s,o,t,b,c,d,f,g,i,j,k],S)):=by
 kernel_rfl
theorem zZ.r2 :jd zi ⟨false,false,false⟩ (zO zi O) (reg Try.f32 2) (reg Try.f32 2).toList ([l,p,u,m,q,n,r,s,o,t,b,c,d,f,g,i,j,k]) S =
  (zS (kP zi 38 (dem l) S) (fun x v=>some ([l,p,u,m,q,n,dem l,x,.int .i64 0,t,b,c,d,f,g,i,j,k],v)) ()):=by
 kernel_rfl
theorem zZ.r3 :jd zi ⟨false,false,false⟩ (zO zi O) (reg Try.f32 3) (reg Try.f32 3).toList ([l,p,u,m,q,n,r,s,o,t,b,c,d,f,g,i,j,k]) S =
  (zS (wR zi BinOp.lss 3 o s S) (fun w v=>some ([l,p,u,m,q,n,r,s,o,w,b,c,d,f,g,i,j,k],v)) ()):=by
 kernel_rfl
theorem zZ.r4 :jd zi ⟨false,false,false⟩ (zO zi O) (reg Try.f32 4) (reg Try.f32 4).toList ([l,p,u,m,q,n,r,s,o,t,b,c,d,f,g,i,j,k]) S =
  (zS (zV zi 38 r o S) (fun w v=>zS (je zi false 3 w v) (fun x y=>some ([l,p,u,m,q,x,r,s,o,t,w,dem x,d,f,g,i,j,k],y)) ()) ()):=by
 kernel_rfl
theorem zZ.r5 :jd zi ⟨false,false,false⟩ (zO zi O) (reg Try.f32 5) (reg Try.f32 5).toList ([l,p,u,m,q,n,r,s,o,t,b,c,d,f,g,i,j,k]) S =
  (zS (wR zi BinOp.neq 3 (dem n) (dem m) S) (fun z v=>some ([l,p,u,m,q,n,r,s,o,t,b,c,dem n,dem m,z,i,j,k],v)) ()):=by
 kernel_rfl
theorem zZ.r6 :jd zi ⟨false,false,false⟩ (zO zi O) (reg Try.f32 6) (reg Try.f32 6).toList ([l,p,u,m,q,n,r,s,o,t,b,c,d,f,g,i,j,k]) S =
  ( some ([l,p,n,m,q,dem n,r,s,o,t,b,c,d,f,g,dem n,j,k],S)):=by
 kernel_rfl
theorem zZ.r7 :jd zi ⟨false,false,false⟩ (zO zi O) (reg Try.f32 7) (reg Try.f32 7).toList ([l,p,u,m,q,n,r,s,o,t,b,c,d,f,g,i,j,k]) S =
  (zS (wR zi BinOp.add 3 o (.int .i64 1) S) (fun w v=>some ([l,p,u,m,q,n,r,s,dem w,t,b,c,d,f,g,i,w,k],v)) ()):=by
 kernel_rfl
theorem zZ.r8 :jd zi ⟨false,false,false⟩ (zO zi O) (reg Try.f32 8) (reg Try.f32 8).toList ([l,p,u,m,q,n,r,s,o,t,b,c,d,f,g,i,j,k]) S =
  ( some ([l,p,m,dem m,q,n,r,s,o,t,b,c,d,f,g,i,j,dem m],S)):=by
 kernel_rfl
theorem zZ.rs:type_of% (afz @zZ.r0 (afz @zZ.r1 (afz @zZ.r2 (afz @zZ.r3 (afz @zZ.r4 (afz @zZ.r5 (afz @zZ.r6 (afz @zZ.r7 (@zZ.r8))))))))):=afz @zZ.r0 (afz @zZ.r1 (afz @zZ.r2 (afz @zZ.r3 (afz @zZ.r4 (afz @zZ.r5 (afz @zZ.r6 (afz @zZ.r7 (@zZ.r8))))))))
theorem zZ.runs {l:Value} {S v:zx} {e:AEx} {T:List Value} (h:zD zi O false zZ.code ([l,zh,zh,zh,zh,zh,zh,zh,zh,zh,zh,zh,zh,zh,zh,zh,zh,zh]) S=some (e,T,v)) (he:e=.normal∨e=.ret):zO zi O 32 [l] S=some (T.getD 2 zh,v) :=
 jA rfl rfl Try.func32 (by decide) zZ.body (by exact h) he (jG (a:=T.getD 2 zh) ((show zH zi T v Try.f32.results.toList=zH zi T v [(ResultVar.tmp 2)] from by kernel_rfl).trans (by simp only [zH])) (by kernel_rfl))
end Go.Proofs.Ytacbgjhmkhjpoaa
namespace Go.Proofs.Ytacbgjhmkhjpoaa
open Go.Abs
abbrev jv.id:FuncId:=37
noncomputable def jv.code:Code:=(.seq (.region 0 (reg Try.f37 0) false) (.seq (.region 1 (reg Try.f37 1) false) Code.ret))
theorem jv.body:Try.f37.body=some jv.code:=by kernel_rfl
variable (b d j f g i:Value) (S:zx)
theorem jv.r0 :jd zi ⟨false,false,false⟩ (zO zi O) (reg Try.f37 0) (reg Try.f37 0).toList ([b,d,j,f,g,i]) S =
  ( some ([b,d,Value.bool false,f,g,i],S)):=by
 kernel_rfl
theorem jv.r1 :jd zi ⟨false,false,false⟩ (zO zi O) (reg Try.f37 1) (reg Try.f37 1).toList ([b,d,j,f,g,i]) S =
  (zS (wR zi BinOp.neq 3 (dem b) (dem b) S) (fun k c=>some ([b,d,k,dem b,dem b,dem k],c)) ()):=by
 kernel_rfl
theorem jv.rs:type_of% (afz @jv.r0 (@jv.r1)):=afz @jv.r0 (@jv.r1)
theorem jv.runs {b:Value} {S c:zx} {e:AEx} {T:List Value} (h:zD zi O false jv.code ([b,zh,zh,zh,zh,zh]) S=some (e,T,c)) (he:e=.normal∨e=.ret):zO zi O 37 [b] S=some (T.getD 2 zh,c) :=
 jA rfl rfl Try.func37 (by decide) jv.body (by exact h) he (jG (a:=T.getD 2 zh) ((show zH zi T c Try.f37.results.toList=zH zi T c [(ResultVar.tmp 2)] from by kernel_rfl).trans (by simp only [zH])) (by kernel_rfl))
end Go.Proofs.Ytacbgjhmkhjpoaa
namespace Go.Proofs.Ytacbgjhmkhjpoaa
open Go.Abs
structure TxV where
 id:Int
 fee:Int
 deriving DecidableEq
def fT (t:TxV):List Value:=[.int .i64 t.id,.int .i64 t.fee]
abbrev tv (t:TxV):Value:=.agg [Value.int .i64 t.id,.int .i64 t.fee].toArray
structure TxV.Ok (t:TxV):Prop where
 id:-9223372036854775808≤t.id∧t.id < 9223372036854775808
 fee:-9223372036854775808≤t.fee∧t.fee < 9223372036854775808
abbrev tTx:Ty:=.pair (.int .i64) (.pair (.int .i64) .unit)
def WL (t:TxV):Bool:=decide (1≤t.id) && decide (t.id≤1000000) && decide (0≤t.fee) && decide (t.fee≤1000)
def wZ (a b:TxV):Bool:=if a.fee=b.fee then decide (a.id < b.id) else decide (b.fee < a.fee)
abbrev mem1 (t:TxV):zx:=zx.empty.push (.cells [Value.int .i64 t.id,.int .i64 t.fee] (.own []) 0)
theorem box1 (t:TxV):ZQ (tv t) zx.empty=some (.pointer (some ⟨0,0,none⟩),mem1 t):=rfl
theorem Xa (t:TxV):(mem1 t).get 0=some (.cells [Value.int .i64 t.id,.int .i64 t.fee] (.own []) 0):=rfl
theorem jM.v (t:TxV) (S:zx):zO zi O jM.id [tv t] S=some (.bool (WL t),S):=by
 obtain ⟨T,hTe⟩:∃ T,T=(tv t::zh::zh::zh::zh::zh::zh::zh::zh::zh::zh::zh::zh::zh::zh::zh::zh::zh::zh::zh::zh::[]):=⟨_,rfl⟩
 have hr:zD zi O false jM.code T zx.empty=zD zi O false jM.code T zx.empty:=rfl
 have l0:=yN (t:=3) (o:=0+0) (Xa t) ZP rfl
 have l1:=yN (t:=3) (o:=0+1) (Xa t) ZP rfl
 by_cases h1:1≤t.id <;> by_cases h2:t.id≤1000000 <;> by_cases h3:0≤t.fee <;> by_cases h4:t.fee≤1000
 all_goals
  conv at hr =>
   rhs
   rw [hTe]
   simp only [jM.code,jM.rs,zSs,reduceIte,zk,zn,zo,zq,box1,jJ,kG,l0,l1,h1,h2,h3,h4]
  rw [hTe] at hr
  simp only [WL,h1,h2,h3,h4,decide_true,decide_false,Bool.and_true,Bool.and_false,Bool.false_and]
  exact jM.runs hr (.inr rfl) rfl rfl
def adS (a b:Int):Int:=if a < b then -1 else if b < a then 1 else 0
theorem jv.v (a:Int) (S:zx):zO zi O jv.id [.int .i64 a] S=some (.bool false,S):=by
 obtain ⟨T,hTe⟩:∃ T,T=(.int .i64 a::zh::zh::zh::zh::zh::[]):=⟨_,rfl⟩
 have hr:zD zi O false jv.code T S=zD zi O false jv.code T S:=rfl
 conv at hr =>
  rhs
  rw [hTe]
  simp only [jv.code,jv.rs,zSs,reduceIte,zk,zn,zo,zq,bne_self_eq_false,ne_eq,not_true_eq_false,Bool.not_true]
 rw [hTe] at hr
 exact jv.runs hr (.inr rfl)
theorem zG.v (a b:Int) (S:zx):zO zi O zG.id [.int .i64 a,.int .i64 b] S=some (.int .i64 (adS a b),S):=by
 obtain ⟨T,hTe⟩:∃ T,T=(.int .i64 a::.int .i64 b::zh::zh::zh::zh::zh::zh::zh::zh::zh::zh::zh::zh::zh::zh::zh::zh::zh::zh::[]):=⟨_,rfl⟩
 have hr:zD zi O false zG.code T S=zD zi O false zG.code T S:=rfl
 by_cases h1:a < b <;> by_cases h2:b < a
 all_goals
  conv at hr =>
   rhs
   rw [hTe]
   simp only [zG.code,zG.rs,zSs,reduceIte,zk,zn,zo,zq,jv.v,h1,h2]
  rw [hTe] at hr
  simp only [adS,h1,h2,if_true,if_false]
  exact zG.runs hr (.inr rfl)
def acT:List Int→Int
 | []=>0
 | x::l=>if x=0 then acT l else x
theorem zZ.round {k:Nat} {l:List Int} (hk:Okl k l) (hl:l.length≤17592186044416) {S:zx}:∀ (suf pre:List Int) {T:List Value} {r:St},wP (zD zi O false zZ.jh) T S=r→T.length=18→T.getD 3 zh=.int .i64 0 →
  T.getD 6 zh=iz k l→T.getD 7 zh=.int .i64 l.length→T.getD 8 zh=.int .i64 pre.length→l=pre++suf →
  ∃ e T',r=some (e,T',S)∧if acT suf=0 then e=.exit 0∧T'.length=18∧T'.getD 3 zh=.int .i64 0 else e=.ret∧T'.getD 2 zh=.int .i64 (acT suf):=by
 intro suf
 induction suf with
 | nil =>
  intro pre T r hL hT h3 h6 h7 h8 hpre
  have hTe:=zZ.eta hT
  rw [h3,h6,h7,h8] at hTe
  have hr:zD zi O false zZ.jh T S=zD zi O false zZ.jh T S:=rfl
  have d1:¬ (pre.length:Int) < (l.length:Int):=by rw [hpre];simp
  conv at hr =>
   rhs
   rw [hTe]
   simp only [zZ.jh,zZ.code,zZ.rs,zSs,reduceIte,zk,zn,zo,zq,d1]
  exact ⟨_,_,hL.symm.trans (jr hr (by simp)),rfl,rfl,rfl⟩
 | cons x suf ih =>
  intro pre T r hL hT h3 h6 h7 h8 hpre
  have hTe:=zZ.eta hT
  rw [h3,h6,h7,h8] at hTe
  have hr:zD zi O false zZ.jh T S=zD zi O false zZ.jh T S:=rfl
  have d1:(pre.length:Int) < (l.length:Int):=by rw [hpre];simp;omega
  have e1:∀ S,zV zi 38 (iz k l) (.int .i64 pre.length) S=some (EP [.int .i64 x],S):=fun S=>by
   rw [adq hk (by omega) d1];rw [JG hpre]
  have wi:IntKind.i64.wrap ((pre.length:Int)+1)=((pre++[x]).length:Int):=by rw [wrap_i64 (by omega) (by omega)];simp
  by_cases h1:x=0
  ·
   conv at hr =>
    rhs
    rw [hTe]
    simp only [zZ.jh,zZ.code,zZ.rs,zSs,reduceIte,zk,zn,zo,zq,d1,e1,xQ,h1,wi,not_true_eq_false,ne_eq]
   subst h1
   obtain ⟨e,T',g1,g2⟩:=ih (pre++[0]) ((jo hr).symm.trans hL) rfl rfl rfl rfl rfl (by simp [hpre])
   exact ⟨e,T',g1,g2⟩
  ·
   conv at hr =>
    rhs
    rw [hTe]
    simp only [zZ.jh,zZ.code,zZ.rs,zSs,reduceIte,zk,zn,zo,zq,d1,e1,xQ,h1,wi,not_false_eq_true,ne_eq]
   refine ⟨_,_,hL.symm.trans (jr hr (by simp)),?_⟩
   have ho:acT (x::suf)=x:=if_neg h1
   rw [ho,if_neg h1]
   exact ⟨rfl,rfl⟩
theorem zZ.v {k:Nat} {l:List Int} (hk:Okl k l) (k2:k≠2) (hl:l.length≤17592186044416) (S:zx):zO zi O zZ.id [iz k l] S=some (.int .i64 (acT l),S):=by
 obtain ⟨T,hTe⟩:∃ T,T=(iz k l::zh::zh::zh::zh::zh::zh::zh::zh::zh::zh::zh::zh::zh::zh::zh::zh::zh::[]):=⟨_,rfl⟩
 have hr:zD zi O false zZ.code T S=zD zi O false zZ.code T S:=rfl
 conv at hr =>
  rhs
  rw [hTe]
  simp only [zZ.code,zZ.rs,zSs,reduceIte,zk,zn,zo,zq,if_neg k2,Xj hk,goInt]
 generalize hL:wP (zD zi O false zZ.jh) _ _=r at hr
 obtain ⟨e,T',rfl,g⟩:=zZ.round hk hl l [] hL rfl rfl rfl rfl rfl rfl
 by_cases h:acT l=0
 ·
  rw [if_pos h] at g
  obtain ⟨rfl,g2,g3⟩:=g
  have hTe':=zZ.eta g2
  rw [g3] at hTe'
  conv at hr =>
   rhs
   rw [hTe']
   simp only [zZ.code,zZ.rs,zSs,reduceIte,zk,zn,zo,zq]
  rw [hTe] at hr
  rw [h]
  exact zZ.runs hr (.inr rfl)
 ·
  rw [if_neg h] at g
  obtain ⟨rfl,g2⟩:=g
  conv at hr =>
   rhs
   simp only [zSs,reduceIte,zk,zn,zo,zq]
  rw [hTe] at hr
  have hrun:=zZ.runs hr (.inr rfl)
  rw [g2] at hrun
  exact hrun
theorem afi (x y:Int):sv 2 1 2 [.int .i64 x,.int .i64 y]=iz 2 [x,y]:=rfl
abbrev mem2 (a b:TxV):zx:=(mem1 a).push (.cells [Value.int .i64 b.id,.int .i64 b.fee] (.own []) 0)
theorem ae9 (a b:TxV):ZQ (tv b) (mem1 a)=some (.pointer (some ⟨1,0,none⟩),mem2 a b):=by kernel_rfl
theorem YV (a b:TxV):(mem2 a b).get 0=some (.cells [Value.int .i64 a.id,.int .i64 a.fee] (.own []) 0):=by kernel_rfl
theorem Qs (a b:TxV):(mem2 a b).get 1=some (.cells [Value.int .i64 b.id,.int .i64 b.fee] (.own []) 0):=by kernel_rfl
theorem adV (a b:TxV):decide (acT [adS b.fee a.fee,adS a.id b.id] < 0)=wZ a b:=by
 unfold wZ
 simp only [acT,adS]
 by_cases h1:b.fee < a.fee
 ·
  rw [if_neg (show ¬ a.fee=b.fee by omega)];simp [h1]
 ·
  by_cases h2:a.fee < b.fee
  ·
   rw [if_neg (show ¬ a.fee=b.fee by omega)];simp [h1,h2]
  ·
   rw [if_pos (show a.fee=b.fee by omega)]
   simp only [h1,h2,if_false,if_true]
   by_cases h3:a.id < b.id
   ·
    simp [h3]
   ·
    by_cases h4:b.id < a.id
    ·
     simp [h3,h4]
    ·
     simp [h3,h4]
theorem jE.v (a b:TxV) (S:zx):zO zi O jE.id [tv a,tv b] S=some (.bool (wZ a b),S):=by
 obtain ⟨T,hTe⟩:∃ T,T=(tv a::tv b::zh::zh::zh::zh::zh::zh::zh::zh::zh::zh::zh::zh::zh::zh::zh::zh::[]):=⟨_,rfl⟩
 have hr:zD zi O false jE.code T zx.empty=zD zi O false jE.code T zx.empty:=rfl
 have l00:=yN (t:=3) (o:=0+0) (YV a b) ZP rfl
 have l01:=yN (t:=3) (o:=0+1) (YV a b) ZP rfl
 have l10:=yN (t:=3) (o:=0+0) (Qs a b) ZP rfl
 have l11:=yN (t:=3) (o:=0+1) (Qs a b) ZP rfl
 have q0:=Jm (o:=0+0) (YV a b)
 have q1:=Jm (o:=0+0) (Qs a b)
 have c1:=fun S=>zZ.v (l:=[adS b.fee a.fee,adS a.id b.id]) Okl.read (by decide) (by simp) S
 conv at hr =>
  rhs
  rw [hTe]
  simp only [jE.code,jE.rs,zSs,reduceIte,zk,zn,zo,zq,box1,ae9,jJ,kG,l00,l01,l10,l11,zG.v,XI,afi,c1,adV,q0,q1]
 rw [hTe] at hr
 exact jE.runs hr (.inr rfl) rfl rfl
theorem zF.v (a b:TxV) (S:zx):zO zi O zF.id [tv a,tv b] S=some (.bool (wZ a b),S):=by
 obtain ⟨T,hTe⟩:∃ T,T=(tv a::tv b::zh::zh::zh::zh::zh::zh::zh::zh::zh::zh::zh::zh::zh::zh::zh::zh::zh::zh::[]):=⟨_,rfl⟩
 have hr:zD zi O false zF.code T zx.empty=zD zi O false zF.code T zx.empty:=rfl
 have l00:=yN (t:=3) (o:=0+0) (YV a b) ZP rfl
 have l01:=yN (t:=3) (o:=0+1) (YV a b) ZP rfl
 have l10:=yN (t:=3) (o:=0+0) (Qs a b) ZP rfl
 have l11:=yN (t:=3) (o:=0+1) (Qs a b) ZP rfl
 unfold wZ
 by_cases h:a.fee=b.fee
 ·
  conv at hr =>
   rhs
   rw [hTe]
   simp only [zF.code,zF.rs,zSs,reduceIte,zk,zn,zo,zq,box1,ae9,jJ,kG,l00,l01,l10,l11,decide_eq_true h,bne_iff_ne,ne_eq,not_true_eq_false,Bool.not_true]
  rw [if_pos h]
  rw [hTe] at hr
  exact zF.runs hr (.inr rfl) rfl rfl
 ·
  conv at hr =>
   rhs
   rw [hTe]
   simp only [zF.code,zF.rs,zSs,reduceIte,zk,zn,zo,zq,box1,ae9,jJ,kG,l00,l01,l10,l11,decide_eq_false h,Bool.not_false]
  rw [if_neg h]
  rw [hTe] at hr
  exact zF.runs hr (.inr rfl) rfl rfl
theorem afb (x:tTx.Val) (hg:tTx.Good x):∃ t:TxV,tTx.ZW x=fT t∧t.Ok:=by
 obtain ⟨a,b,u⟩:=x
 obtain ⟨h1,h2,_⟩:=hg
 exact ⟨⟨a,b⟩,rfl,acJ h1,acJ h2⟩
end Go.Proofs.Ytacbgjhmkhjpoaa
namespace Go.Proofs.Ytacbgjhmkhjpoaa
open Go.Abs
theorem JW {g:FuncId} {v c:Value} {S:zx}:ae1 (zO zi O) (.func (Fn.func g) #[] #[c]) [v] S=zO zi O g [v,c] S:=rfl
theorem QG {hps:FuncId→Bool} {g:FuncId} {v c:Value} {S:zx} (hv:Zw v=false) (hc:Zw c=false):ae1 (jU hps true (zO zi O)) (.func (Fn.func g) #[] #[c]) [v] S=zO zi O g [v,c] S:=by
 show jU hps true (zO zi O) g [v,c] S=_
 unfold jU
 dsimp only
 split
 ·
  rfl
 ·
  exact Xq (call:=zO zi O) (g:=g) (args:=[v,c]) (by simp [hv,hc])
theorem qE (t:TxV):(fT t).length=2:=rfl
theorem Xw (t:TxV):(fT t).all (·.oneCell')=true:=rfl
theorem acA (w:TxV):(fT w).map qI=fT w:=rfl
theorem Y5 {α:Type} {p:α→Bool}:∀ {l:List α} {i:Int},l.any p=true→∃ pre x suf,l=pre++x::suf∧pre.any p=false∧p x=true∧idxFrom p i l=i+pre.length
 | [],_,h=>by cases h
 | x::r,i,h=>by
  cases hx:p x with
  | true=>exact ⟨[],x,r,rfl,rfl,hx,by rw [idxFrom,hx];simp⟩
  | false =>
   rw [List.any_cons,hx,Bool.false_or] at h
   obtain ⟨pre,y,suf,h1,h2,h3,h4⟩:=Y5 (i:=i+1) h
   refine ⟨x::pre,y,suf,by rw [h1];rfl,by rw [List.any_cons,hx,h2];rfl,h3,?_⟩
   rw [idxFrom,hx,if_neg (by decide),h4,List.length_cons]
   omega
theorem filter_none {α:Type} {p:α→Bool} {l:List α} (h:l.any p=false):l.filter (fun x=>!p x)=l:=by
 rw [List.filter_eq_self]
 intro x hx
 rw [List.any_eq_false] at h
 have:=h x hx
 simpa using this
section
variable {l:List TxV} {p:TxV→Bool} {g:FuncId} {c:Value} {K:zx→Prop}
theorem slices_IndexFunc.aef {k:Nat} (hv:Okl k l) (hk:k≠2) (hlen:l.length≤17592186044416) (hp:∀ S x,K S→x ∈ l→∃ S1,zO zi O g [tv x,c] S=some (.bool (p x),S1)∧Ext S S1∧S1.log=S.log) (hK:∀ S S1,K S→Ext S S1→K S1):∀ (suf pre:List TxV) {T:List Value} {r:St} {S:zx},wP (zD zi O false slices_IndexFunc.jh) T S=r→T.length=19→K S →
  T.getD 0 zh=vs fT 2 k l→T.getD 1 zh=.func (Fn.func g) #[] #[c]→T.getD 7 zh=.int .i64 l.length→T.getD 8 zh=.int .i64 pre.length→l=pre++suf →
  ∃ e T' S',r=some (e,T',S')∧Ext S S'∧S'.log=S.log∧if suf.any p then e=.ret∧T'.getD 4 zh=.int .i64 (idxFrom p pre.length suf) else e=.exit 0∧T'.length=19:=by
 intro suf
 induction suf with
 | nil =>
  intro pre T r S hL hT hS h0 h1 h7 h8 hl
  have hTe:=slices_IndexFunc.eta hT
  rw [h0,h1,h7,h8] at hTe
  have hr:zD zi O false slices_IndexFunc.jh T S=zD zi O false slices_IndexFunc.jh T S:=rfl
  have hd:¬ (pre.length:Int) < (l.length:Int):=by rw [hl];simp
  conv at hr =>
   rhs
   rw [hTe]
   simp only [slices_IndexFunc.jh,slices_IndexFunc.code,slices_IndexFunc.rs,zSs,reduceIte,zk,zn,zo,zq,hd]
  exact ⟨_,_,_,hL.symm.trans (jr hr (by simp)),Ext.refl _,rfl,rfl,rfl⟩
 | cons x suf ih =>
  intro pre T r S hL hT hS h0 h1 h7 h8 hl
  have hTe:=slices_IndexFunc.eta hT
  rw [h0,h1,h7,h8] at hTe
  have hr:zD zi O false slices_IndexFunc.jh T S=zD zi O false slices_IndexFunc.jh T S:=rfl
  have hd:(pre.length:Int) < (l.length:Int):=by rw [hl];simp;omega
  have e1:∀ S,zV zi 23 (vs fT 2 k l) (.int .i64 pre.length) S=some (EP (fT x),S):=fun S=>by
   rw [adz jc jq qE hv (by omega) hd,acZ hl]
  have l1:∀ S,je zi false 30 (EP (fT x)) S=some (tv x,S):=fun S=>Qx vF jq rfl
  have wi:IntKind.i64.wrap ((pre.length:Int)+1)=((pre++[x]).length:Int):=by rw [wrap_i64 (by omega) (by omega)];simp
  obtain ⟨S1,p1,x1,g1⟩:=hp S x hS (by rw [hl];simp)
  rw [List.any_cons,idxFrom]
  cases hx:p x with
  | true =>
   rw [hx] at p1
   conv at hr =>
    rhs
    rw [hTe]
    simp only [slices_IndexFunc.jh,slices_IndexFunc.code,slices_IndexFunc.rs,zSs,reduceIte,zk,zn,zo,zq,yc,JW,if_neg hk,hd,e1,l1,p1]
   refine ⟨_,_,_,hL.symm.trans (jr hr (by simp)),x1,g1,?_⟩
   rw [Bool.true_or]
   exact ⟨rfl,rfl⟩
  | false =>
   rw [hx] at p1
   conv at hr =>
    rhs
    rw [hTe]
    simp only [slices_IndexFunc.jh,slices_IndexFunc.code,slices_IndexFunc.rs,zSs,reduceIte,zk,zn,zo,zq,yc,JW,if_neg hk,hd,e1,l1,p1,wi]
   obtain ⟨e,T',S',q1,q2,q3,q4⟩:=ih (pre++[x]) ((jo hr).symm.trans hL) rfl (hK _ _ hS x1) rfl rfl rfl rfl (by simp [hl])
   refine ⟨e,T',S',q1,x1.trans q2,q3.trans g1,?_⟩
   rw [Bool.false_or]
   rw [show (((pre++[x]).length:Nat):Int)=(pre.length:Int)+1 by simp] at q4
   exact q4
theorem slices_IndexFunc.vC {k:Nat} (hv:Okl k l) (hk:k≠2) (hlen:l.length≤17592186044416) (hp:∀ S x,K S→x ∈ l→∃ S1,zO zi O g [tv x,c] S=some (.bool (p x),S1)∧Ext S S1∧S1.log=S.log) (hK:∀ S S1,K S→Ext S S1→K S1) {S:zx} (hS:K S) :
  ∃ S1,zO zi O slices_IndexFunc.id [vs fT 2 k l,.func (Fn.func g) #[] #[c]] S=some (.int .i64 (idxFrom p 0 l),S1)∧Ext S S1∧S1.log=S.log:=by
 obtain ⟨T,hTe⟩:∃ T,T=(vs fT 2 k l::.func (Fn.func g) #[] #[c]::zh::zh::zh::zh::zh::zh::zh::zh::zh::zh::zh::zh::zh::zh::zh::zh::zh::[]):=⟨_,rfl⟩
 have hr:zD zi O false slices_IndexFunc.code T S=zD zi O false slices_IndexFunc.code T S:=rfl
 have ln:=fun S=>aaD (P:=zi) (t:=23) (f:=fT) (e:=2) (S:=S) jc hv
 conv at hr =>
  rhs
  rw [hTe]
  simp only [slices_IndexFunc.code,slices_IndexFunc.rs,zSs,reduceIte,zk,zn,zo,zq,yc,if_neg hk,ln,goInt]
 generalize hL:wP (zD zi O false slices_IndexFunc.jh) _ _=r at hr
 obtain ⟨e,T',S',rfl,x1,g1,q⟩:=slices_IndexFunc.aef hv hk hlen hp hK l [] hL rfl hS rfl rfl rfl rfl rfl
 cases h:l.any p with
 | true =>
  rw [h] at q
  obtain ⟨rfl,g2⟩:=q
  conv at hr =>
   rhs
   simp only [zSs,reduceIte,zk,zn,zo,zq]
  rw [hTe] at hr
  have hrun:=slices_IndexFunc.runs hr (.inr rfl)
  rw [g2] at hrun
  exact ⟨_,hrun,x1,g1⟩
 | false =>
  rw [h] at q
  obtain ⟨rfl,g2⟩:=q
  have hTe':=slices_IndexFunc.eta g2
  conv at hr =>
   rhs
   rw [hTe']
   simp only [slices_IndexFunc.code,slices_IndexFunc.rs,zSs,reduceIte,zk,zn,zo,zq]
  rw [hTe] at hr
  rw [vY h]
  exact ⟨_,slices_IndexFunc.runs hr (.inr rfl),x1,g1⟩
theorem VT (S:zx):qw zi 30 S=some (.pointer (some ⟨S.next,0,none⟩),S.push (.cells [.int .i64 0,.int .i64 0] (.own []) 0)):=by kernel_rfl
theorem slices_DeleteFunc.round {r n:Nat} (hlen:n≤17592186044416) {fp0:List Nat} {S0:zx} (hp:∀ S x,K S→x ∈ l→∃ S1,zO zi O g [tv x,c] S=some (.bool (p x),S1)∧Ext S S1∧S1.log=S.log) (hc:Zw c=false) (hK:∀ S S1,K S→Fr fp0 S S1→K S1) :
  ∀ (suf kept mid:List TxV) {T:List Value} {rr:St} {S:zx} {fp:List Nat},wP (zD zi O true slices_DeleteFunc.jh) T S=rr→T.length=42→K S→Fr fp0 S0 S→(∀ x ∈ suf,x ∈ l) →
  T.getD 0 zh=.slice (some ⟨r,0,none⟩) n n→T.getD 1 zh=.func (Fn.func g) #[] #[c]→T.getD 5 zh=.int .i64 kept.length→T.getD 6 zh=.int .i64 (kept++mid).length→n=(kept++mid++suf).length→mid.length≠0 →
  qL fT 2 S (some ⟨r,0,none⟩) (kept++mid++suf) fp→(∀ x ∈ fp,x ∈ fp0) →
  ∃ T' S' mid' fp',rr=some (.exit 0,T',S')∧T'.length=42∧T'.getD 0 zh=.slice (some ⟨r,0,none⟩) n n∧T'.getD 5 zh=.int .i64 (kept++suf.filter fun x=>!p x).length∧n=((kept++suf.filter fun x=>!p x)++mid').length∧mid'.length≠0 ∧
   qL fT 2 S' (some ⟨r,0,none⟩) ((kept++suf.filter fun x=>!p x)++mid') fp'∧(∀ x ∈ fp',x ∈ fp0)∧Fr fp0 S0 S':=by
 intro suf
 induction suf with
 | nil =>
  intro kept mid T rr S fp hL hT hS hF hsl h0 h1 h5 h6 hn hm hA hfp
  have hTe:=slices_DeleteFunc.eta hT
  rw [h0,h1,h5,h6] at hTe
  have hr:zD zi O true slices_DeleteFunc.jh T S=zD zi O true slices_DeleteFunc.jh T S:=rfl
  have ln:=fun S=>Jr jc (some ⟨r,0,none⟩) n n S
  have hd:¬ ((kept++mid).length:Int) < (n:Int):=by rw [hn];simp
  conv at hr =>
   rhs
   rw [hTe]
   simp only [slices_DeleteFunc.jh,slices_DeleteFunc.code,slices_DeleteFunc.rs,zSs,reduceIte,zk,zn,zo,zq,yc,ln,goInt,hd]
  rw [List.append_nil] at hn hA
  refine ⟨_,_,mid,fp,hL.symm.trans (jr hr (by simp)),rfl,rfl,?_,?_,hm,?_,hfp,hF⟩
  ·
   rw [List.filter_nil,List.append_nil];rfl
  ·
   rw [List.filter_nil,List.append_nil];exact hn
  ·
   rw [List.filter_nil,List.append_nil];exact hA
 | cons x suf ih =>
  intro kept mid T rr S fp hL hT hS hF hsl h0 h1 h5 h6 hn hm hA hfp
  have hTe:=slices_DeleteFunc.eta hT
  rw [h0,h1,h5,h6] at hTe
  have hr:zD zi O true slices_DeleteFunc.jh T S=zD zi O true slices_DeleteFunc.jh T S:=rfl
  have ln:=fun S=>Jr jc (some ⟨r,0,none⟩) n n S
  have hd:((kept++mid).length:Int) < (n:Int):=by rw [hn];simp;omega
  have hnl:(kept++mid).length+1≤n:=by omega
  have ix:∀ S,zV zi 23 (.slice (some ⟨r,0,none⟩) n n) (.int .i64 (kept++mid).length) S=some (.pointer (some ⟨r,0+(kept++mid).length * 2,none⟩),S):=fun S=>by
   rw [QT (o:=0) (n:=n) (c:=n) (q:=r) jc jq (by omega) hd,Int.toNat_natCast]
  have hA0:=hA
  rcases hA0 with ⟨h,_⟩ | ⟨r',anc,rest,ha,hfa,hg,hx⟩
  ·
   cases h
  simp only [Option.some.injEq,Addr.mk.injEq,and_true] at ha
  subst ha
  have l1:je zi false 30 (.pointer (some ⟨r,0+(kept++mid).length * 2,none⟩)) S=some (tv x,S):=qL.load (P:=zi) (te:=30) (S:=S) vF jq qE acA (x:=x) (pre:=kept++mid) (suf:=suf) hg
  obtain ⟨S1,n1,n2,n3,n4⟩:=Y1 (P:=zi) (t:=30) (z:=[.int .i64 0,.int .i64 0]) (xs:=fT x) (x:=tv x) S rfl jq rfl rfl
  have al:=VT S
  have l2:je zi false 30 (.pointer (some ⟨S.next,0,none⟩)) S1=some (tv x,S1):=by
   have:=Jq n2
   exact this
  have hS1:K S1:=hK _ _ hS (Fr.ext n3)
  obtain ⟨S2,p1,x1,g1⟩:=hp S1 x hS1 (hsl x (by simp))
  have hS2:K S2:=hK _ _ hS1 (Fr.ext x1)
  have hA2:=(hA.ext n3).ext x1
  have hF2:Fr fp0 S0 S2:=(hF.trans (Fr.ext n3) (fp2:=[]) (fun x hx=>by cases hx)).trans (Fr.ext x1) (fp2:=[]) (fun x hx=>by cases hx)
  have l3:je zi false 30 (.pointer (some ⟨S.next,0,none⟩)) S2=some (tv x,S2):=Jq ((x1.get _ n4).trans n2)
  have wj:IntKind.i64.wrap (((kept++mid).length:Int)+1)=((kept++mid).length:Int)+1:=wrap_i64 (by omega) (by omega)
  have dq:=QG (hps:=O.hp) (g:=g) (v:=tv x) (c:=c) (S:=S1) rfl hc
  cases hpx:p x with
  | true =>
   rw [hpx] at p1
   conv at hr =>
    rhs
    rw [hTe]
    simp only [slices_DeleteFunc.jh,slices_DeleteFunc.code,slices_DeleteFunc.rs,zSs,reduceIte,zk,zn,zo,zq,yc,ln,goInt,hd,ix,l1,al,n1,l2,dq,p1,wj]
   have hs:=(jo hr).symm.trans hL
   obtain ⟨T',S',mid',fp',q1,q2,q3,q4,q5,q6,q7,q8,q9⟩:=ih kept (mid++[x]) hs rfl hS2 hF2 (fun y hy=>hsl y (by simp [hy])) rfl rfl rfl (by show Value.int .i64 _=Value.int .i64 _;congr 1;simp <;> omega) (by rw [hn];simp <;> omega) (by simp) (by simpa using hA2) hfp
   refine ⟨T',S',mid',fp',q1,q2,q3,?_,?_,q6,?_,q8,q9⟩
   ·
    rw [List.filter_cons_of_neg (by simp [hpx])];exact q4
   ·
    rw [List.filter_cons_of_neg (by simp [hpx])];exact q5
   ·
    rw [List.filter_cons_of_neg (by simp [hpx])];exact q7
  | false =>
   rw [hpx] at p1
   obtain ⟨m,mid2,rfl⟩:∃ m mid2,mid=m::mid2:=by
    cases mid with
    | nil=>simp at hm
    | cons m mid2=>exact ⟨m,mid2,rfl⟩
   have hA3:=hA2
   rcases hA3 with ⟨h,_⟩ | ⟨r',anc2,rest2,ha2,hfa2,hg2,hx2⟩
   ·
    cases h
   simp only [Option.some.injEq,Addr.mk.injEq,and_true] at ha2
   subst ha2
   have hk5:(kept.length:Int) < (n:Int):=by rw [hn];simp;omega
   have ix2:∀ S,zV zi 23 (.slice (some ⟨r,0,none⟩) n n) (.int .i64 kept.length) S=some (.pointer (some ⟨r,0+kept.length * 2,none⟩),S):=fun S=>by
    rw [QT (o:=0) (n:=n) (c:=n) (q:=r) jc jq (by omega) hk5,Int.toNat_natCast]
   have hg3:S2.get r=some (.cells ((kept++m::(mid2++x::suf)).flatMap fT++rest2) (.own anc2) 2):=by rw [hg2];simp
   obtain ⟨S3,s1,s2,s3,s4,s5⟩:=qL.put (P:=zi) (te:=30) (S:=S2) jq qE Xw (by decide) (x:=m) (y:=x) (pre:=kept) (suf:=mid2++x::suf) hg3 (by rw [← hfa2];exact hx2)
   have wi:IntKind.i64.wrap ((kept.length:Int)+1)=(kept.length:Int)+1:=wrap_i64 (by omega) (by omega)
   have hs4:Fr fp0 S2 S3:=s4.more fun x hx=>.inl (hfp x (by rw [hfa2];exact hx))
   have hS3:K S3:=hK _ _ hS2 hs4
   have hF3:Fr fp0 S0 S3:=hF2.trans hs4 fun x hx=>.inl hx
   have hA4:qL fT 2 S3 (some ⟨r,0,none⟩) ((kept++[x])++(mid2++[x])++suf) [r]:=.inr ⟨r,[],rest2,rfl,rfl,by rw [s2];simp,fun y hy=>by
    rw [List.mem_singleton.1 hy]
    exact ⟨by rw [s3];exact (hx2 r (by rw [hfa2];simp)).1,s5⟩⟩
   have sm:qm zi 30 (.pointer (some ⟨r,0+kept.length * 2,none⟩)) (tv x) S2=some (zh,S3):=s1
   conv at hr =>
    rhs
    rw [hTe]
    simp only [slices_DeleteFunc.jh,slices_DeleteFunc.code,slices_DeleteFunc.rs,zSs,reduceIte,zk,zn,zo,zq,yc,ln,goInt,hd,ix,l1,al,n1,l2,dq,p1,wj,l3,ix2,sm,wi]
   have hs:=(jo hr).symm.trans hL
   obtain ⟨T',S',mid',fp',q1,q2,q3,q4,q5,q6,q7,q8,q9⟩:=ih (kept++[x]) (mid2++[x]) hs rfl hS3 hF3 (fun y hy=>hsl y (by simp [hy])) rfl rfl (by show Value.int .i64 _=Value.int .i64 _;congr 1;simp) (by show Value.int .i64 _=Value.int .i64 _;congr 1;simp <;> omega) (by rw [hn];simp <;> omega) (by simp) hA4 (fun y hy=>hfp y (by rw [hfa2];rw [List.mem_singleton.1 hy];simp))
   have hfl:(kept++(x::suf).filter fun x=>!p x)=(kept++[x])++suf.filter fun x=>!p x:=by
    rw [List.filter_cons_of_pos (by simp [hpx])];simp
   refine ⟨T',S',mid',fp',q1,q2,q3,?_,?_,q6,?_,q8,q9⟩
   ·
    rw [hfl];exact q4
   ·
    rw [hfl];exact q5
   ·
    rw [hfl];exact q7
theorem slices_DeleteFunc.v {a:Option Addr} {fp:List Nat} {S:zx} (hA:qL fT 2 S a l fp) (hlen:l.length≤17592186044416) (hp:∀ S x,K S→x ∈ l→∃ S1,zO zi O g [tv x,c] S=some (.bool (p x),S1)∧Ext S S1∧S1.log=S.log) (hc:Zw c=false) (hK:∀ S S1,K S→Fr fp S S1→K S1) (hS:K S) :
  ∃ a' S1 fp',zO zi O slices_DeleteFunc.id [.slice a l.length l.length,.func (Fn.func g) #[] #[c]] S=some (.slice a' (l.filter fun x=>!p x).length (l.filter fun x=>!p x).length,S1) ∧
   qL fT 2 S1 a' (l.filter fun x=>!p x) fp'∧(∀ x ∈ fp',x ∈ fp)∧Fr fp S S1:=by
 obtain ⟨T,hTe⟩:∃ T,T=(.slice a l.length l.length::.func (Fn.func g) #[] #[c]::zh::zh::zh::zh::zh::zh::zh::zh::zh::zh::zh::zh::zh::zh::zh::zh::zh::zh::zh::zh::zh::zh::zh::zh::zh::zh::zh::zh::zh::zh::zh::zh::zh::zh::zh::zh::zh::zh::zh::zh::[]):=⟨_,rfl⟩
 have hr:zD zi O true slices_DeleteFunc.code T S=zD zi O true slices_DeleteFunc.code T S:=rfl
 have hKE:∀ S S1,K S→Ext S S1→K S1:=fun S S1 h k=>hK S S1 h (Fr.ext k)
 cases hany:l.any p with
 | false =>
  have c1:xB (zO zi O) slices_IndexFunc.id [.slice a l.length l.length,.func (Fn.func g) #[] #[c]] S=some (.int .i64 (-1),S)∨∃ S1,xB (zO zi O) slices_IndexFunc.id [.slice a l.length l.length,.func (Fn.func g) #[] #[c]] S=some (.int .i64 (-1),S1)∧Ext S S1:=by
   rcases hA with ⟨rfl,rfl,rfl⟩ | ⟨r,anc,rest,rfl,rfl,hg,hx⟩
   ·
    obtain ⟨S1,q1,q2,q3⟩:=slices_IndexFunc.vC (l:=[]) (p:=p) (g:=g) (c:=c) (K:=K) (k:=0) Okl.none (by decide) (by simp) (fun S x h hx=>by cases hx) hKE hS
    exact .inr ⟨S1,adD q1 (by rfl),q2⟩
   ·
    left
    have hf:=JH (f:=fT) (e:=2) (q:=r) (l:=l) (rest:=rest) (anc:=anc) (S:=S) qE hg
    obtain ⟨S1,q1,q2,q3⟩:=slices_IndexFunc.vC (k:=1) Okl.read (by decide) hlen hp hKE (hK S (S.set r .dead) hS ((Fr.refl _ _).set (.inl (by simp)) _))
    rw [vY hany] at q1
    exact Zh (Jg hf (by rfl)) q1 (by rfl) rfl q3
  have fin:∀ S1,xB (zO zi O) slices_IndexFunc.id [.slice a l.length l.length,.func (Fn.func g) #[] #[c]] S=some (.int .i64 (-1),S1)→Ext S S1→∃ a' S1 fp',zO zi O slices_DeleteFunc.id [.slice a l.length l.length,.func (Fn.func g) #[] #[c]] S=some (.slice a' (l.filter fun x=>!p x).length (l.filter fun x=>!p x).length,S1) ∧
   qL fT 2 S1 a' (l.filter fun x=>!p x) fp'∧(∀ x ∈ fp',x ∈ fp)∧Fr fp S S1:=fun S1 c1 x1=>by
   have c1:xB (zO zi O) 25 [.slice a l.length l.length,.func (Fn.func g) #[] #[c]] S=some (.int .i64 (-1),S1):=c1
   conv at hr =>
    rhs
    rw [hTe]
    simp only [slices_DeleteFunc.code,slices_DeleteFunc.rs,zSs,reduceIte,zk,zn,zo,zq,yc,c1]
   rw [hTe] at hr
   rw [filter_none hany]
   exact ⟨a,S1,fp,slices_DeleteFunc.runs hr (.inr rfl),hA.ext x1,fun x hx=>hx,Fr.ext x1⟩
  rcases c1 with c1 | ⟨S1,c1,x1⟩
  ·
   exact fin S c1 (Ext.refl _)
  ·
   exact fin S1 c1 x1
 | true =>
  obtain ⟨pre,x,suf,hl,hpre,hpx,hidx⟩:=Y5 (i:=0) hany
  have hA1:=hA
  rcases hA1 with ⟨_,h,_⟩ | ⟨r,anc,rest,rfl,rfl,hg,hx⟩
  ·
   rw [h] at hany;cases hany
  have hf:=JH (f:=fT) (e:=2) (q:=r) (l:=l) (rest:=rest) (anc:=anc) (S:=S) qE hg
  obtain ⟨S1,q1,q2,q3⟩:=slices_IndexFunc.vC (k:=1) Okl.read (by decide) hlen hp hKE (hK S (S.set r .dead) hS ((Fr.refl _ _).set (.inl (by simp)) _))
  rw [hidx,Int.zero_add] at q1
  have c1:xB (zO zi O) 25 [.slice (some ⟨r,0,none⟩) l.length l.length,.func (Fn.func g) #[] #[c]] S=some (.int .i64 pre.length,S):=Zh (Jg hf (by rfl)) q1 (by rfl) rfl q3
  have hll:l.length=pre.length+1+suf.length:=by rw [hl];simp;omega
  have d1:((pre.length:Int)=-1)=False:=eq_false (by omega)
  have wi:IntKind.i64.wrap ((pre.length:Int)+1)=((pre++[x]).length:Int):=by rw [wrap_i64 (by omega) (by omega)];simp
  conv at hr =>
   rhs
   rw [hTe]
   simp only [slices_DeleteFunc.code,slices_DeleteFunc.rs,zSs,reduceIte,zk,zn,zo,zq,yc,c1,d1,wi]
  generalize hL:wP (zD zi O true slices_DeleteFunc.jh) _ _=rr at hr
  obtain ⟨T',S',mid',fp',rfl,w2,w3,w4,w5,w6,w7,w8,w9⟩:=slices_DeleteFunc.round (l:=l) (p:=p) (g:=g) (c:=c) (K:=K) (r:=r) (n:=l.length) (fp0:=r::anc) (S0:=S) hlen hp hc hK suf pre [x] (fp:=r::anc) hL rfl hS (Fr.refl _ _) (fun y hy=>by rw [hl];simp [hy]) rfl rfl rfl rfl (by rw [hl];simp) (by simp) (by rw [List.append_assoc,List.singleton_append,← hl];exact hA) (fun y hy=>hy)
  have hfil:l.filter (fun x=>!p x)=pre++suf.filter fun x=>!p x:=by
   rw [hl,List.filter_append,filter_none hpre,List.filter_cons_of_neg (by simp [hpx])]
  rw [← hfil] at w4 w5 w7
  generalize hkp:(l.filter fun x=>!p x)=kept at *
  rcases w7 with ⟨h,_⟩ | ⟨r',anc2,rest2,ha2,hfa2,hg2,hx2⟩
  ·
   cases h
  simp only [Option.some.injEq,Addr.mk.injEq,and_true] at ha2
  subst ha2
  have hkn:kept.length+mid'.length=l.length:=by rw [w5];simp
  have sl:∀ S3,S3.get r=S'.get r→wV zi false 23 (.slice (some ⟨r,0,none⟩) l.length l.length) (some (.int .i64 kept.length)) none S3=some (.slice (some ⟨r,0+kept.length * 2,none⟩) mid'.length mid'.length,S3):=fun S3 h3=>by
   rw [Jy (P:=zi) (t:=23) (o:=0) (n:=l.length) (c:=l.length) (l:=kept.length) (h:=l.length) rfl (h3.trans hg2) jc jq rfl rfl (by omega) (by omega) (by omega)]
   simp only [Int.toNat_natCast]
   rw [show l.length - kept.length=mid'.length by omega]
  obtain ⟨S4,rest4,e1,e2,e3,e4,e5⟩:=qL.clear (P:=zi) (t:=23) (te:=30) (S:=S') jc jq KO rfl rfl rfl (by decide) qE (pre:=kept) (suf:=mid') hg2 w6 (by rw [← hfa2];exact hx2) mid'.length
  have sl2:wV zi false 23 (.slice (some ⟨r,0,none⟩) l.length l.length) none (some (.int .i64 kept.length)) S4=some (.slice (some ⟨r,0,none⟩) kept.length kept.length,S4):=by
   rw [Jy (P:=zi) (t:=23) (o:=0) (n:=l.length) (c:=l.length) (l:=0) (h:=kept.length) rfl e2 jc jq rfl rfl (by omega) (by omega) (by omega)]
   simp
  have hTe':=slices_DeleteFunc.eta w2
  rw [w3,w4] at hTe'
  have sl1:=sl S' rfl
  conv at hr =>
   rhs
   simp only [zSs,reduceIte,zk,zn,zo,zq]
   rw [hTe']
   simp only [slices_DeleteFunc.code,slices_DeleteFunc.rs,zSs,reduceIte,zk,zn,zo,zq,sl1,e1,sl2]
  rw [hTe] at hr
  refine ⟨some ⟨r,0,none⟩,S4,[r],slices_DeleteFunc.runs hr (.inr rfl),.inr ⟨r,[],rest4,rfl,rfl,e2,fun y hy=>by rw [List.mem_singleton.1 hy];exact ⟨by rw [e3];exact (hx2 r (by rw [hfa2];simp)).1,e5⟩⟩,fun y hy=>by rw [List.mem_singleton.1 hy];simp,w9.trans e4 fun y hy=>.inl (w8 y (by rw [hfa2];exact hy))⟩
end
end Go.Proofs.Ytacbgjhmkhjpoaa
namespace Go.Abs
variable {P:Program} {t:TypeId} {xs ys:Array Value} {d:Nat}
theorem Zr (P:Program):jP P program=some P:=rfl
def FEq (P:Program) (d:Nat) (xs ys:Array Value):List Field→List Bool→Prop
 | [],[]=>True
 | f::fs,b::bs=>(f.name≠ "_"∧∃ v w,jP P (part f.type xs f.offset)=some v∧jP P (part f.type ys f.offset)=some w∧jP P (Op.equalIn d f.type v w)=some b)∧FEq P d xs ys fs bs
 | _,_=>False
theorem VG {fs:List Field} (hu:P.underlying t=some (.struct fs.toArray)) (hs:P.stoodInHeld t=false) {bs:List Bool} (h:FEq P d xs ys fs bs):jP P (Op.equalIn (d+1) t (.agg xs) (.agg ys))=some (bs.all id):=by
 rw [Op.equalIn]
 simp only [jZ,vU hu,Option.bind_some,Zr,hs,Bool.false_eq_true,if_false,List.forIn_toArray]
 clear hu hs
 induction fs generalizing bs with
 | nil =>
  cases bs with
  | nil=>rfl
  | cons b bs=>exact absurd h id
 | cons f fs ih =>
  cases bs with
  | nil=>exact absurd h id
  | cons b bs =>
   obtain ⟨⟨h1,v,w,h2,h3,h4⟩,h5⟩:=h
   rw [List.forIn_cons]
   simp only [jZ,if_pos h1,h2,h3,h4,Option.bind_some]
   cases b with
   | true =>
    simp only [Bool.not_true,Bool.false_eq_true,if_false,jl,Option.bind_some,List.all_cons,id,Bool.true_and]
    exact ih h5
   | false =>
    simp only [Bool.not_false,if_true,jl,Option.bind_some,List.all_cons,id,Bool.false_and]
theorem XL {fs:List Field} {S:zx} (hu:P.underlying t=some (.struct fs.toArray)) (hs:P.stoodInHeld t=false) (hg:P.eqGuardType P.depth t=false) {bs:List Bool} (h:FEq P 9999 xs ys fs bs)
  (gx:ground (.agg xs)=true) (gy:ground (.agg ys)=true):wR P .eql t (.agg xs) (.agg ys) S=some (.bool (bs.all id),S)∧wR P .neq t (.agg xs) (.agg ys) S=some (.bool (!bs.all id),S):=by
 rw [Xr,Xr]
 have e:jP P (Op.equal t (.agg xs) (.agg ys))=some (bs.all id):=VG hu hs h
 have g:jP P (eqGuard .eql t (.tmp 0) (.tmp 0) (.agg xs) (.agg ys))=some ():=by
  unfold eqGuard
  simp only [Bool.not_true,Bool.false_eq_true,if_false,jZ,Zr,Option.bind_some,hg,Bool.not_false,if_true]
  rfl
 have g':jP P (eqGuard .neq t (.tmp 0) (.tmp 0) (.agg xs) (.agg ys))=some ():=by
  unfold eqGuard
  simp only [Bool.not_true,Bool.false_eq_true,if_false,jZ,Zr,Option.bind_some,hg,Bool.not_false,if_true]
  rfl
 have ha:[Value.agg xs,.agg ys].all ground=true:=by simp [gx,gy]
 constructor
 ·
  unfold xK yH
  simp only [hu]
  show jD P [Value.agg xs,.agg ys] _ S=_
  refine jk ha ?_ rfl
  simp only [jZ,g,Option.bind_some]
  unfold binOp
  simp only [jZ,e,Option.bind_some,jl]
 ·
  unfold xK yH
  simp only [hu]
  show jD P [Value.agg xs,.agg ys] _ S=_
  refine jk ha ?_ rfl
  simp only [jZ,g',Option.bind_some]
  unfold binOp
  simp only [jZ,e,Option.bind_some,jl]
end Go.Abs
namespace Go.Proofs.Ytacbgjhmkhjpoaa
open Go.Abs
abbrev tl (k:Nat) (l:List TxV):Value:=vs fT 2 k l
theorem xG {k:Nat} {l:List TxV} {S:zx} (h:Okl k l):kP zi 23 (tl k l) S=some (.int .i64 l.length,S):=aaD jc h
theorem Wj {k:Nat} {l pre suf:List TxV} {t:TxV} {S:zx} (h:Okl k l) (hl:l=pre++t::suf):zV zi 23 (tl k l) (.int .i64 pre.length) S=some (EP [.int .i64 t.id,.int .i64 t.fee],S):=by
 have h1:(pre.length:Int) < (l.length:Int):=by rw [hl];simp;omega
 rw [adz jc jq qE h (by omega) h1,acZ hl];rfl
theorem ada {k:Nat} {l:List TxV} {t:TxV} {S:zx} (h:Okl k l) (hk:k≠1) (hl:l.length≤8796093022000):qo zi 23 23 (tl k l) (tl 2 [t]) S=some (tl 2 (l++[t]),S):=by
 rw [YS jc jq KO rfl abC (by omega) jc qE Xw h hk Okl.own (by simp;omega) (by simp;omega),if_neg (fun h=>by have:=h.2;simp at this)]
theorem aaH (S:zx):qw zi 30 S=some (.pointer (some ⟨S.next,0,none⟩),S.push (.cells (fT ⟨0,0⟩) (.own []) 0)):=by kernel_rfl
theorem VH (S:zx) (t:TxV):∃ S2,qm zi 30 (.pointer (some ⟨S.next,0,none⟩)) (tv t) (S.push (.cells (fT ⟨0,0⟩) (.own []) 0))=some (zh,S2)∧S2.get S.next=some (.cells (fT t) (.own []) 0)∧Ext S S2∧S.next < S2.next :=
 Y1 S (by rw [vZ,List.toList_toArray];rfl) jq rfl rfl
theorem Qv {S:zx} {q:Nat} {t:TxV} (h:S.get q=some (.cells (fT t) (.own []) 0)):je zi false 30 (.pointer (some ⟨q,0,none⟩)) S=some (tv t,S):=Jq h
theorem kY {S:zx} {q:Nat} {t:TxV} (h:S.get q=some (.cells (fT t) (.own []) 0)):je zi false 3 (.pointer (some ⟨q,0+0,none⟩)) S=some (.int .i64 t.id,S):=yN (t:=3) (o:=0+0) h ZP rfl
theorem TxV.ext_iff' {t u:TxV}:t=u ↔ t.id=u.id∧t.fee=u.fee:=by cases t;cases u;simp
theorem afc (t u:TxV) (S:zx):wR zi .eql 30 (tv t) (tv u) S=some (.bool (decide (t=u)),S)∧wR zi .neq 30 (tv t) (tv u) S=some (.bool (!decide (t=u)),S):=by
 have h:=XL (S:=S) (xs:=#[Value.int .i64 t.id,.int .i64 t.fee]) (ys:=#[Value.int .i64 u.id,.int .i64 u.fee]) (bs:=[t.id == u.id,t.fee == u.fee]) abD (by kernel_rfl) (by kernel_rfl)
  ⟨⟨by decide,.int .i64 t.id,.int .i64 u.id,by kernel_rfl,by kernel_rfl,by kernel_rfl⟩,⟨by decide,.int .i64 t.fee,.int .i64 u.fee,by kernel_rfl,by kernel_rfl,by kernel_rfl⟩,trivial⟩ rfl rfl
 have e:[t.id == u.id,t.fee == u.fee].all id=decide (t=u):=by
  rw [Bool.eq_iff_iff]
  simp [TxV.ext_iff']
 rw [e] at h
 exact h
theorem zy.round {k j:Nat} {a b:List TxV} (hk:Okl k a) (hj:Okl j b) (k2:k≠2) (j2:j≠2) (hab:a.length=b.length) (hlen:a.length≤17592186044416) {S:zx}:∀ (sa sb pa pb:List TxV) {T:List Value} {r:St},wP (zD zi O false zy.jh) T S=r→T.length=26 →
  T.getD 0 zh=tl k a→T.getD 1 zh=tl j b→T.getD 12 zh=.int .i64 a.length→T.getD 13 zh=.int .i64 pa.length→a=pa++sa→b=pb++sb→pa.length=pb.length→pa=pb →
  ∃ e T',r=some (e,T',S)∧if a=b then e=.exit 0∧T'.length=26 else e=.ret∧T'.getD 4 zh=.bool false:=by
 intro sa
 induction sa with
 | nil =>
  intro sb pa pb T r hL hT h0 h1 h12 h13 ha hb hp hpp
  have hTe:=zy.eta hT
  rw [h0,h1,h12,h13] at hTe
  have hr:zD zi O false zy.jh T S=zD zi O false zy.jh T S:=rfl
  have hd:¬ (pa.length:Int) < (a.length:Int):=by rw [ha];simp
  conv at hr =>
   rhs
   rw [hTe]
   simp only [zy.jh,zy.code,zy.rs,zSs,reduceIte,zk,zn,zo,zq,hd]
  have hsb:sb=[]:=by rw [ha,hb] at hab;simp [hp] at hab;exact hab
  refine ⟨_,_,hL.symm.trans (jr hr (by simp)),?_⟩
  rw [if_pos (by rw [ha,hb,hsb,hpp])]
  exact ⟨rfl,rfl⟩
 | cons x sa ih =>
  intro sb pa pb T r hL hT h0 h1 h12 h13 ha hb hp hpp
  have hTe:=zy.eta hT
  rw [h0,h1,h12,h13] at hTe
  have hr:zD zi O false zy.jh T S=zD zi O false zy.jh T S:=rfl
  have hd:(pa.length:Int) < (a.length:Int):=by rw [ha];simp;omega
  cases sb with
  | nil=>rw [ha,hb] at hab;simp [hp] at hab
  | cons y sb =>
   have e1:=fun S=>Wj (S:=S) hk ha
   have e2:∀ S,zV zi 23 (tl j b) (.int .i64 pa.length) S=some (EP [.int .i64 y.id,.int .i64 y.fee],S):=fun S=>by rw [hp];exact Wj hj hb
   have wi:IntKind.i64.wrap ((pa.length:Int)+1)=((pa++[x]).length:Int):=by rw [wrap_i64 (by omega) (by omega)];simp
   have q:∀ S,wR zi .neq 30 (.agg [Value.int .i64 x.id,.int .i64 x.fee].toArray) (.agg [Value.int .i64 y.id,.int .i64 y.fee].toArray) S=some (.bool (!decide (x=y)),S):=fun S=>(afc x y S).2
   by_cases hxy:x=y
   ·
    conv at hr =>
     rhs
     rw [hTe]
     simp only [zy.jh,zy.code,zy.rs,zSs,reduceIte,zk,zn,zo,zq,hd,if_neg k2,if_neg j2,e1,e2,qG,q,decide_eq_true hxy,wi]
    subst hxy
    exact ih sb (pa++[x]) (pb++[x]) ((jo hr).symm.trans hL) rfl rfl rfl rfl rfl (by simp [ha]) (by simp [hb]) (by simp [hp]) (by rw [hpp])
   ·
    conv at hr =>
     rhs
     rw [hTe]
     simp only [zy.jh,zy.code,zy.rs,zSs,reduceIte,zk,zn,zo,zq,hd,if_neg k2,if_neg j2,e1,e2,qG,q,decide_eq_false hxy]
    refine ⟨_,_,hL.symm.trans (jr hr (by simp)),?_⟩
    rw [if_neg (by rw [ha,hb,hpp];simp [hxy])]
    exact ⟨rfl,rfl⟩
theorem zy.v {k j:Nat} {a b:List TxV} (hk:Okl k a) (hj:Okl j b) (k2:k≠2) (j2:j≠2) (hlen:a.length≤17592186044416) (S:zx):zO zi O zy.id [tl k a,tl j b] S=some (.bool (decide (a=b)),S):=by
 obtain ⟨T,hTe⟩:∃ T,T=(tl k a::tl j b::zh::zh::zh::zh::zh::zh::zh::zh::zh::zh::zh::zh::zh::zh::zh::zh::zh::zh::zh::zh::zh::zh::zh::zh::[]):=⟨_,rfl⟩
 have hr:zD zi O false zy.code T S=zD zi O false zy.code T S:=rfl
 by_cases hab:a.length=b.length
 ·
  have d1:¬ (a.length:Int)≠(b.length:Int):=by omega
  conv at hr =>
   rhs
   rw [hTe]
   simp only [zy.code,zy.rs,zSs,reduceIte,zk,zn,zo,zq,if_neg k2,if_neg j2,xG hk,xG hj,hab]
  rw [← hab] at hr
  generalize hL:wP (zD zi O false zy.jh) _ _=r at hr
  obtain ⟨e,T',rfl,g⟩:=zy.round hk hj k2 j2 hab hlen a b [] [] hL rfl rfl rfl rfl rfl rfl rfl rfl rfl
  by_cases h:a=b
  ·
   rw [if_pos h] at g
   obtain ⟨rfl,g2⟩:=g
   have hTe':=zy.eta g2
   conv at hr =>
    rhs
    rw [hTe']
    simp only [zy.code,zy.rs,zSs,reduceIte,zk,zn,zo,zq]
   rw [hTe] at hr
   rw [decide_eq_true h]
   exact zy.runs hr (.inr rfl)
  ·
   rw [if_neg h] at g
   obtain ⟨rfl,g2⟩:=g
   conv at hr =>
    rhs
    simp only [zSs,reduceIte,zk,zn,zo,zq]
   rw [hTe] at hr
   have hrun:=zy.runs hr (.inr rfl)
   rw [g2] at hrun
   rw [decide_eq_false h]
   exact hrun
 ·
  have d1:¬ (a.length:Int)=(b.length:Int):=by omega
  conv at hr =>
   rhs
   rw [hTe]
   simp only [zy.code,zy.rs,zSs,reduceIte,zk,zn,zo,zq,if_neg k2,if_neg j2,xG hk,xG hj,d1]
  rw [hTe] at hr
  rw [decide_eq_false (fun h:a=b=>hab (by rw [h]))]
  exact zy.runs hr (.inr rfl)
theorem aeh (t:TxV) (S:zx):∃ S2,ZQ (tv t) S=some (.pointer (some ⟨S.next,0,none⟩),S2)∧S2.get S.next=some (.cells (fT t) (.own []) 0)∧Ext S S2∧S.next < S2.next:=V4 (tv t) S
theorem aeg (x:(Ty.slc 16 tTx).Val) (hg:(Ty.slc 16 tTx).Good x):∃ k l,Okl k l∧k≠2∧(Ty.slc 16 tTx).ZW x=[tl k l]∧l.length * 16≤140737488351232∧∀ t ∈ l,t.Ok :=
 aej (b:=16) fT TxV.Ok afb qE x hg
end Go.Proofs.Ytacbgjhmkhjpoaa
namespace Go.Proofs.Ytacbgjhmkhjpoaa
open Go.Abs
structure Pm (S:zx) (q:Nat) (l:List TxV) (fp:List Nat):Prop where
 lt:q < S.next
 len:l.length≤16
 cell:∃ a,S.get q=some (.cells [.slice a l.length l.length] (.own []) 0)∧qL fT 2 S a l fp
section
variable {S:zx} {q:Nat} {l:List TxV} {fp:List Nat}
theorem Pm.aaB (h:Pm S q l fp):q ∉ fp:=by
 obtain ⟨a,h1,h2⟩:=h.cell
 exact h2.aaB h1
theorem Pm.flt (h:Pm S q l fp):∀ x ∈ fp,x < S.next:=by
 obtain ⟨a,h1,h2⟩:=h.cell
 exact h2.lt
theorem Pm.ext {S1:zx} (h:Pm S q l fp) (k:Ext S S1):Pm S1 q l fp:=by
 obtain ⟨a,h1,h2⟩:=h.cell
 exact ⟨Nat.lt_of_lt_of_le h.lt k.next,h.len,a,by rw [k.get q h.lt];exact h1,h2.ext k⟩
def YW (q:Nat) (S S1:zx):Prop:=S.next≤S1.next∧∀ p cs own,p≠q→p < S.next→S.get p=some (.cells cs own 0)→S1.get p=S.get p
theorem YW.refl (q:Nat) (S:zx):YW q S S:=⟨Nat.le_refl _,fun _ _ _ _ _ _=>rfl⟩
theorem YW.trans {S1 S2:zx} (h:YW q S S1) (k:YW q S1 S2):YW q S S2:=⟨Nat.le_trans h.1 k.1,fun p cs own hp hl hg=>by
 have h1:=h.2 p cs own hp hl hg
 rw [k.2 p cs own hp (Nat.lt_of_lt_of_le hl h.1) (h1.trans hg),h1]⟩
theorem YW.ext {S1:zx} (h:Ext S S1):YW q S S1:=⟨h.next,fun p _ _ _ hl _=>h.get p hl⟩
theorem jf.v (S:zx):∃ S1,zO zi O jf.id [] S=some (.pointer (some ⟨S.next,0,none⟩),S1)∧Pm S1 S.next [] []∧Ext S S1:=by
 obtain ⟨T,hTe⟩:∃ T,T=(zh::zh::zh::[]):=⟨_,rfl⟩
 have hr:zD zi O false jf.code T S=zD zi O false jf.code T S:=rfl
 have bd:∀ S,wW zi 49 [] S=some (.agg [.slice none 0 0].toArray,S):=fun S=>by kernel_rfl
 obtain ⟨S1,b1,b2,b3,b4⟩:=V4 (.agg [.slice none 0 0].toArray) S
 conv at hr =>
  rhs
  rw [hTe]
  simp only [jf.code,jf.rs,zSs,reduceIte,zk,zn,zo,zq,bd,b1]
 rw [hTe] at hr
 exact ⟨_,jf.runs hr (.inr rfl),⟨b4,by simp,none,b2,.inl ⟨rfl,rfl,rfl⟩⟩,b3⟩
theorem zK.v {c:Nat} {t:TxV} (x:TxV) {S:zx} (hc:S.get c=some (.cells (fT t) (.own []) 0)) (hl:c < S.next):∃ S1,zO zi O zK.id [tv x,.pointer (some ⟨c,0,none⟩)] S=some (.bool (decide (x.id=t.id)),S1)∧Ext S S1∧S1.log=S.log:=by
 obtain ⟨T,hTe⟩:∃ T,T=(tv x::.pointer (some ⟨c,0,none⟩)::zh::zh::zh::zh::zh::zh::zh::[]):=⟨_,rfl⟩
 have hr:zD zi O false zK.code T S=zD zi O false zK.code T S:=rfl
 have b1:ZQ (tv x) S=some (.pointer (some ⟨S.next,0,none⟩),S.push (.cells (fT x) (.own []) 0)):=rfl
 have g1:(S.push (.cells (fT x) (.own []) 0)).get S.next=some (.cells (fT x) (.own []) 0):=by rw [zx.zU,if_pos rfl]
 have g2:(S.push (.cells (fT x) (.own []) 0)).get c=some (.cells (fT t) (.own []) 0):=by rw [zx.zU,if_neg (by omega)];exact hc
 refine ⟨S.push (.cells (fT x) (.own []) 0),?_,Ext.push _ _,rfl⟩
 ·
  conv at hr =>
   rhs
   rw [hTe]
   simp only [zK.code,zK.rs,zSs,reduceIte,zk,zn,zo,zq,b1,jJ,kY g1,kY g2]
  rw [hTe] at hr
  exact zK.runs hr (.inr rfl)
theorem zL.v {c:Nat} {t:TxV} (x:TxV) {S:zx} (hc:S.get c=some (.cells (fT t) (.own []) 0)) (hl:c < S.next):∃ S1,zO zi O zL.id [tv x,.pointer (some ⟨c,0,none⟩)] S=some (.bool (wZ t x),S1)∧Ext S S1∧S1.log=S.log:=by
 obtain ⟨T,hTe⟩:∃ T,T=(tv x::.pointer (some ⟨c,0,none⟩)::zh::zh::zh::zh::zh::[]):=⟨_,rfl⟩
 have hr:zD zi O false zL.code T S=zD zi O false zL.code T S:=rfl
 have b1:ZQ (tv x) S=some (.pointer (some ⟨S.next,0,none⟩),S.push (.cells (fT x) (.own []) 0)):=rfl
 have g1:(S.push (.cells (fT x) (.own []) 0)).get S.next=some (.cells (fT x) (.own []) 0):=by rw [zx.zU,if_pos rfl]
 have g2:(S.push (.cells (fT x) (.own []) 0)).get c=some (.cells (fT t) (.own []) 0):=by rw [zx.zU,if_neg (by omega)];exact hc
 have c1:=fun S=>jE.v t x S
 refine ⟨S.push (.cells (fT x) (.own []) 0),?_,Ext.push _ _,rfl⟩
 ·
  conv at hr =>
   rhs
   rw [hTe]
   simp only [zL.code,zL.rs,zSs,reduceIte,zk,zn,zo,zq,b1,Qv g1,Qv g2,c1]
  rw [hTe] at hr
  exact zL.runs hr (.inr rfl)
theorem Xo {α:Type} {p:α→Bool}:∀ (l:List α) (i:Int),idxFrom p i l=if l.any p then i+(l.findIdx p:Int) else -1:=by
 intro l
 induction l with
 | nil=>intro i;rfl
 | cons x l ih =>
  intro i
  rw [idxFrom,List.any_cons,List.findIdx_cons]
  cases hx:p x with
  | true=>simp
  | false =>
   rw [if_neg (by decide),ih,Bool.false_or]
   by_cases h:l.any p=true
   ·
    rw [if_pos h,if_pos h];simp;omega
   ·
    rw [if_neg h,if_neg h]
theorem acj {α:Type} {p:α→Bool} {l:List α} (h:l.any p=false):l.findIdx p=l.length:=by
 rw [List.findIdx_eq_length]
 intro x hx
 rw [List.any_eq_false] at h
 simpa using h x hx
section
variable {p:TxV→Bool} {g:FuncId} {c:Value} {K:zx→Prop}
theorem slices_ContainsFunc.vC {k:Nat} (hv:Okl k l) (hk:k≠2) (hlen:l.length≤17592186044416) (hp:∀ S x,K S→x ∈ l→∃ S1,zO zi O g [tv x,c] S=some (.bool (p x),S1)∧Ext S S1∧S1.log=S.log) (hK:∀ S S1,K S→Ext S S1→K S1) {S:zx} (hS:K S) :
  ∃ S1,zO zi O slices_ContainsFunc.id [vs fT 2 k l,.func (Fn.func g) #[] #[c]] S=some (.bool (l.any p),S1)∧Ext S S1∧S1.log=S.log:=by
 obtain ⟨T,hTe⟩:∃ T,T=(vs fT 2 k l::.func (Fn.func g) #[] #[c]::zh::zh::zh::zh::zh::zh::zh::[]):=⟨_,rfl⟩
 have hr:zD zi O false slices_ContainsFunc.code T S=zD zi O false slices_ContainsFunc.code T S:=rfl
 obtain ⟨S1,c1,x1,g1⟩:=slices_IndexFunc.vC hv hk hlen hp hK hS
 rw [Xo] at c1
 cases h:l.any p with
 | true =>
  rw [h,if_pos rfl] at c1
  have d1:(0:Int)≤0+(l.findIdx p:Int):=by omega
  refine ⟨S1,?_,x1,g1⟩
  ·
   conv at hr =>
    rhs
    rw [hTe]
    simp only [slices_ContainsFunc.code,slices_ContainsFunc.rs,zSs,reduceIte,zk,zn,zo,zq,yc,if_neg hk,c1,decide_eq_true d1]
   rw [hTe] at hr
   exact slices_ContainsFunc.runs hr (.inr rfl)
 | false =>
  rw [h,if_neg (by decide)] at c1
  have d1:¬ (0:Int)≤-1:=by decide
  refine ⟨S1,?_,x1,g1⟩
  ·
   conv at hr =>
    rhs
    rw [hTe]
    simp only [slices_ContainsFunc.code,slices_ContainsFunc.rs,zSs,reduceIte,zk,zn,zo,zq,yc,if_neg hk,c1,decide_eq_false d1]
   rw [hTe] at hr
   exact slices_ContainsFunc.runs hr (.inr rfl)
theorem aeL {X:FuncId} {v:Value} (hv:ground v=true) (hX:∀ {k:Nat} {S:zx},Okl k l→k≠2→K S→∃ S1,zO zi O X [vs fT 2 k l,.func (Fn.func g) #[] #[c]] S=some (v,S1)∧Ext S S1∧S1.log=S.log) (hK:∀ S S1,K S→Fr fp S S1→K S1)
  {a:Option Addr} (hA:qL fT 2 S a l fp) (hS:K S):∃ S1,xB (zO zi O) X [.slice a l.length l.length,.func (Fn.func g) #[] #[c]] S=some (v,S1)∧Ext S S1:=by
 rcases hA with ⟨rfl,rfl,rfl⟩ | ⟨r,anc,rest,rfl,rfl,hg,hx⟩
 ·
  obtain ⟨S1,q1,q2,q3⟩:=hX (k:=0) Okl.none (by decide) hS
  exact ⟨S1,adD q1 (by rfl),q2⟩
 ·
  have hf:=JH (f:=fT) (e:=2) (q:=r) (l:=l) (rest:=rest) (anc:=anc) (S:=S) qE hg
  obtain ⟨S1,q1,q2,q3⟩:=hX (k:=1) Okl.read (by decide) (hK S (S.set r .dead) hS ((Fr.refl _ _).set (.inl (by simp)) _))
  exact ⟨S,Zh (Jg hf (by rfl)) q1 (by rfl) hv q3,Ext.refl _⟩
end
theorem qL.insert {a:Option Addr} {x:TxV} {i v:Nat} (hA:qL fT 2 S a l fp) (hv:S.get v=some (.cells (fT x) (.own []) 2)) (hn:v ∉ fp) (hi:i≤l.length) (hl:l.length≤16) :
  ∃ S1,QB [.slice a l.length l.length,.int .i64 i,.slice (some ⟨v,0,none⟩) 1 1] S=some (.slice (some ⟨S.next,0,none⟩) (l.length+1) (l.length+1),S1)∧qL fT 2 S1 (some ⟨S.next,0,none⟩) (l.take i++x::l.drop i) [S.next]∧Fr fp S S1∧S1.next=S.next+1:=by
 have src:(((fT x).drop 0).take (1 * 2))=fT x:=rfl
 have cond:∀ n:Nat,n≤16→i≤n→(0 < 1∧0+1 * 2≤(fT x).length∧(0:Int)≤i∧(i:Int).toNat≤n∧n+1≤1048576∧(((fT x).drop 0).take (1 * 2)).all (·.oneCell')=true):=fun n hn hin=>⟨by decide,show 2≤2 from Nat.le_refl 2,by omega,by omega,by omega,rfl⟩
 rcases hA with ⟨rfl,rfl,rfl⟩ | ⟨r,anc,rest,rfl,rfl,hg,hx⟩
 ·
  have hi0:i=0:=by simpa using hi
  subst hi0
  refine ⟨S.push (.cells (fT x) (.own []) 2),?_,.inr ⟨S.next,[],[],rfl,rfl,by rw [zx.zU,if_pos rfl];rfl,fun y hy=>?_⟩,(Fr.refl _ _).push _,by simp⟩
  ·
   simp only [QB,hv]
   rw [if_pos (cond ([]:List TxV).length (by simp) (by simp))]
   rfl
  ·
   simp only [List.mem_singleton] at hy
   subst hy
   refine ⟨by simp,fun cs own=>?_⟩
   rw [zx.zU,if_pos rfl]
   intro hx;simp at hx
 ·
  have hne:r≠v:=fun e=>hn (by simp [e])
  have hlen:(l.flatMap fT).length=l.length * 2:=jI qE l
  have hX:((l.flatMap fT++rest).drop 0).take (l.length * 2)=l.flatMap fT:=by rw [List.drop_zero,← hlen,List.take_left]
  have hone:(l.flatMap fT).all (·.oneCell')=true:=by
   rw [List.all_flatMap,List.all_eq_true]
   exact fun x _=>Xw x
  have hall:(l.flatMap fT).take (i * 2)++(fT x++(l.flatMap fT).drop (i * 2))=(l.take i++x::l.drop i).flatMap fT:=by
   rw [Zz qE,ZG qE,List.flatMap_append,List.flatMap_cons]
  refine ⟨((S.kills anc).set r .dead).push (.cells ((l.take i++x::l.drop i).flatMap fT) (.own []) 2),?_,.inr ⟨S.next,[],[],rfl,rfl,by rw [zx.zU,zx.kF,zx.qA,if_pos rfl,List.append_nil],fun y hy=>?_⟩,(((Fr.refl _ _).kills (fun y hy=>.inl (by simp [hy]))).set (.inl (by simp)) _).push _,by simp⟩
  ·
   simp only [QB,hv]
   rw [if_pos (cond l.length hl hi)]
   simp only [hg]
   rw [if_pos ⟨hne,by rw [List.length_append,hlen];omega,by rw [hX];exact hone⟩,hX,Int.toNat_natCast,src,hall]
  ·
   simp only [List.mem_singleton] at hy
   subst hy
   refine ⟨by simp,fun cs own=>?_⟩
   rw [zx.zU,zx.kF,zx.qA,if_pos rfl]
   intro hx;simp at hx
end
end Go.Proofs.Ytacbgjhmkhjpoaa
namespace Go.Proofs.Ytacbgjhmkhjpoaa
open Go.Abs
section
variable {S:zx} {q:Nat} {l:List TxV} {fp:List Nat}
def ZN (l:List TxV) (t:TxV):Nat:=l.findIdx (wZ t)
def adX (l:List TxV) (t:TxV):Bool:=l.any fun x=>decide (x.id=t.id)
def ad8 (l:List TxV) (t:TxV):List TxV:=(l.take (ZN l t)++t::l.drop (ZN l t)).take 16
def ZR (l:List TxV) (t:TxV):Int×List TxV:=if WL t then if adX l t then (91,l) else if ZN l t=16 then (91,l) else (0,ad8 l t) else (61,l)
theorem aaF (l:List TxV) (t:TxV):ZN l t≤l.length:=List.findIdx_le_length
theorem KP (h:l.length≤16) (t:TxV):(ad8 l t).length=min (l.length+1) 16:=by
 have:=aaF l t
 simp only [ad8,List.length_take,List.length_append,List.length_cons,List.length_drop]
 omega
theorem zB.v (h:Pm S q l fp) (t:TxV):∃ S1 fp',zO zi O zB.id [.pointer (some ⟨q,0,none⟩),tv t] S=some (.int .i64 (ZR l t).1,S1)∧Pm S1 q (ZR l t).2 fp'∧(∀ x ∈ fp',x ∈ fp∨S.next≤x)∧Fr (q::fp) S S1:=by
 obtain ⟨T,hTe⟩:∃ T,T=(.pointer (some ⟨q,0,none⟩)::tv t::zh::zh::zh::zh::zh::zh::zh::zh::zh::zh::zh::zh::zh::zh::zh::zh::zh::zh::zh::zh::zh::zh::zh::zh::zh::zh::zh::zh::zh::zh::zh::zh::zh::zh::zh::zh::zh::zh::zh::zh::zh::zh::zh::zh::zh::zh::zh::zh::zh::zh::zh::zh::zh::[]):=⟨_,rfl⟩
 have hr:zD zi O true zB.code T S=zD zi O true zB.code T S:=rfl
 obtain ⟨S0,b1,b2,b3,b4⟩:=aeh t S
 have h0:=h.ext b3
 have c1:xB (zO zi O) 22 [tv t] S0=some (.bool (WL t),S0):=adD (jM.v t S0) (by rfl)
 have ld:=Qv b2
 cases hR:WL t with
 | false =>
  rw [hR] at c1
  refine ⟨S0,fp,?_,by unfold ZR;rw [hR];exact h0,fun x hx=>.inl hx,Fr.ext b3⟩
  unfold ZR
  rw [hR]
  conv at hr =>
   rhs
   rw [hTe]
   simp only [zB.code,zB.rs,zSs,reduceIte,zk,zn,zo,zq,b1,ld,c1]
  rw [hTe] at hr
  exact zB.runs hr (.inr rfl)
 | true =>
  rw [hR] at c1
  obtain ⟨a,g0,hA⟩:=h0.cell
  have hcn:S.next ∉ fp:=fun hx=>by have:=h.flt _ hx;omega
  have hqc:q≠S.next:=by have:=h.lt;omega
  have hKF:∀ S1 S2:zx,(S1.get S.next=some (.cells (fT t) (.own []) 0)∧S.next < S1.next)→Fr fp S1 S2→(S2.get S.next=some (.cells (fT t) (.own []) 0)∧S.next < S2.next):=fun S1 S2 hK hF=>⟨by rw [hF.2 _ hK.2 hcn];exact hK.1,Nat.lt_of_lt_of_le hK.2 hF.1⟩
  have hKE:∀ S1 S2:zx,(S1.get S.next=some (.cells (fT t) (.own []) 0)∧S.next < S1.next)→Ext S1 S2→(S2.get S.next=some (.cells (fT t) (.own []) 0)∧S.next < S2.next):=fun S1 S2 hK hF=>hKF S1 S2 hK (Fr.ext hF)
  have hll:l.length≤17592186044416:=by have:=h.len;omega
  obtain ⟨S1,c2,x1⟩:=aeL (l:=l) (g:=24) (c:=.pointer (some ⟨S.next,0,none⟩)) (K:=fun S1=>S1.get S.next=some (.cells (fT t) (.own []) 0)∧S.next < S1.next) (X:=23) (v:=.bool (adX l t)) (by rfl)
   (fun hv hk hS=>slices_ContainsFunc.vC (p:=fun x=>decide (x.id=t.id)) hv hk hll (fun S1 x hK _=>zK.v x hK.1 hK.2) hKE hS) hKF hA ⟨b2,b4⟩
  have l0:=xP (P:=zi) (t:=23) (o:=0+0) g0 yX rfl
  cases hD:adX l t with
  | true =>
   rw [hD] at c2
   refine ⟨S1,fp,?_,by unfold ZR;rw [hR,hD];exact h0.ext x1,fun x hx=>.inl hx,Fr.ext (b3.trans x1)⟩
   unfold ZR
   rw [hR,hD]
   conv at hr =>
    rhs
    rw [hTe]
    simp only [zB.code,zB.rs,zSs,reduceIte,zk,zn,zo,zq,b1,ld,c1,wJ,jB,l0,c2]
   rw [hTe] at hr
   exact zB.runs hr (.inr rfl)
  | false =>
   rw [hD] at c2
   have g1:S1.get q=some (.cells [.slice a l.length l.length] (.own []) 0):=(x1.get q h0.lt).trans g0
   have l1:=xP (P:=zi) (t:=23) (o:=0+0) g1 yX rfl
   have k1:=hKE _ _ ⟨b2,b4⟩ x1
   obtain ⟨S2,c3,x2⟩:=aeL (l:=l) (g:=26) (c:=.pointer (some ⟨S.next,0,none⟩)) (K:=fun S1=>S1.get S.next=some (.cells (fT t) (.own []) 0)∧S.next < S1.next) (X:=25) (v:=.int .i64 (idxFrom (wZ t) 0 l)) (by rfl)
    (fun hv hk hS=>slices_IndexFunc.vC (p:=wZ t) hv hk hll (fun S1 x hK _=>zL.v x hK.1 hK.2) hKE hS) hKF (hA.ext x1) k1
   have k2:=hKE _ _ k1 x2
   have h2:Pm S2 q l fp:=(h0.ext x1).ext x2
   have xx:Ext S S2:=(b3.trans x1).trans x2
   have g2:S2.get q=some (.cells [.slice a l.length l.length] (.own []) 0):=(x2.get q (Nat.lt_of_lt_of_le h0.lt x1.next)).trans g1
   have hA2:=(hA.ext x1).ext x2
   have l2:=xP (P:=zi) (t:=23) (o:=0+0) g2 yX rfl
   have ln:=fun S=>Jr (P:=zi) jc a l.length l.length S
   have hpl:=aaF l t
   have hidx:idxFrom (wZ t) 0 l=(ZN l t:Int)∧¬ idxFrom (wZ t) 0 l < 0∨idxFrom (wZ t) 0 l=-1∧(l.length:Int)=ZN l t:=by
    rw [Xo]
    by_cases ha:l.any (wZ t)=true
    ·
     rw [if_pos ha]
     exact .inl ⟨by unfold ZN;omega,by omega⟩
    ·
     rw [if_neg ha]
     exact .inr ⟨rfl,by unfold ZN;rw [acj (by simpa using ha)]⟩
   by_cases h16:ZN l t=16
   ·
    refine ⟨S2,fp,?_,by unfold ZR;rw [hR,hD];simp only [Bool.false_eq_true,if_true,if_false,h16];exact h2,fun x hx=>.inl hx,Fr.ext xx⟩
    unfold ZR
    rw [hR,hD]
    simp only [Bool.false_eq_true,if_true,if_false,h16]
    have d16:((ZN l t:Int)=16)=True:=eq_true (by omega)
    rcases hidx with ⟨e1,e2⟩ | ⟨e1,e2⟩
    ·
     rw [e1] at c3 e2
     conv at hr =>
      rhs
      rw [hTe]
      simp only [zB.code,zB.rs,zSs,reduceIte,zk,zn,zo,zq,b1,ld,c1,wJ,jB,l0,c2,l1,c3,decide_eq_false e2,d16,decide_true]
     rw [hTe] at hr
     exact zB.runs hr (.inr rfl)
    ·
     rw [e1] at c3
     have dm:(-1:Int) < 0:=by decide
     conv at hr =>
      rhs
      rw [hTe]
      simp only [zB.code,zB.rs,zSs,reduceIte,zk,zn,zo,zq,b1,ld,c1,wJ,jB,l0,c2,l1,c3,decide_eq_true dm,l2,ln,goInt,e2,d16,decide_true]
     rw [hTe] at hr
     exact zB.runs hr (.inr rfl)
   ·
    have d16:¬ (ZN l t:Int)=16:=by omega
    have ldt:=Qv k2.1
    obtain ⟨S3,s1,s2,s3⟩:∃ S3,jy zi 23 1 [(0,tv t)] S2=some (.slice (some ⟨S2.next,0,none⟩) 1 1,S3)∧S3.get S2.next=some (.cells (fT t) (.own []) 2)∧S3=S2.push (.cells (fT t) (.own []) 2) :=
     ⟨_,by kernel_rfl,by rw [zx.zU,if_pos rfl],rfl⟩
    have x3:Ext S2 S3:=by rw [s3];exact Ext.push _ _
    obtain ⟨S4,i1,i2,i3,i4⟩:=qL.insert (i:=ZN l t) (hA2.ext x3) s2 (fun hx=>by have:=h2.flt _ hx;omega) hpl h.len
    have c4:zO zi O 28 [.slice a l.length l.length,.int .i64 (ZN l t),.slice (some ⟨S2.next,0,none⟩) 1 1] S3=some (.slice (some ⟨S3.next,0,none⟩) (l.length+1) (l.length+1),S4):=(abw (q:=QB) rfl S3).trans i1
    have g4:S4.get q=some (.cells [.slice a l.length l.length] (.own []) 0):=by
     rw [i3.2 q (Nat.lt_of_lt_of_le h2.lt x3.next) h2.aaB,x3.get q h2.lt,g2]
    have st1:=kS (P:=zi) (t:=23) (o:=0+0) (x:=.slice (some ⟨S3.next,0,none⟩) (l.length+1) (l.length+1)) g4 Zx rfl rfl (by simp)
    have sq:=X8 (o:=0+0) g2 h2.lt x3
    have g5:((S4.kills []).set q (.cells (splice [Value.slice a l.length l.length] (0+0) (Value.slice (some ⟨S3.next,0,none⟩) (l.length+1) (l.length+1)).cells.toList) (.own []) 0)).get q=some (.cells [.slice (some ⟨S3.next,0,none⟩) (l.length+1) (l.length+1)] (.own []) 0):=by rw [zx.jg,if_pos rfl];rfl
    have hq3:q≠S3.next:=by have:=h2.lt;have:=x3.next;omega
    have n5:((S4.kills []).set q (.cells (splice [Value.slice a l.length l.length] (0+0) (Value.slice (some ⟨S3.next,0,none⟩) (l.length+1) (l.length+1)).cells.toList) (.own []) 0)).next=S4.next:=by simp [zx.kills]
    have o5:∀ x,x≠q→((S4.kills []).set q (.cells (splice [Value.slice a l.length l.length] (0+0) (Value.slice (some ⟨S3.next,0,none⟩) (l.length+1) (l.length+1)).cells.toList) (.own []) 0)).get x=S4.get x:=fun x hx=>by rw [zx.jg,if_neg hx];rfl
    generalize (S4.kills []).set q (.cells (splice [Value.slice a l.length l.length] (0+0) (Value.slice (some ⟨S3.next,0,none⟩) (l.length+1) (l.length+1)).cells.toList) (.own []) 0)=S5 at st1 g5 n5 o5
    have i5:qL fT 2 S5 (some ⟨S3.next,0,none⟩) (l.take (ZN l t)++t::l.drop (ZN l t)) [S3.next]:=i2.keep (by omega) fun x hx=>by
     simp only [List.mem_singleton] at hx
     exact o5 x (by rw [hx];exact fun e=>hq3 e.symm)
    have hLlen:(l.take (ZN l t)++t::l.drop (ZN l t)).length=l.length+1:=by simp;omega
    have l5:=xP (P:=zi) (t:=23) (o:=0+0) g5 yX rfl
    have ln5:=fun S=>Jr (P:=zi) jc (some ⟨S3.next,0,none⟩) (l.length+1) (l.length+1) S
    obtain ⟨mm,hmm⟩:∃ mm:Nat,mm=min (l.length+1) 16:=⟨_,rfl⟩
    have hmin:(if (16:Int) < ((l.length+1:Nat):Int) then (16:Int) else ((l.length+1:Nat):Int))=(mm:Int):=by split <;> omega
    have sl5:wV zi false 23 (.slice (some ⟨S3.next,0,none⟩) (l.length+1) (l.length+1)) none (some (.int .i64 mm)) S5=some (.slice (some ⟨S3.next,0,none⟩) mm mm,S5):=by
     rcases i5 with ⟨h,_⟩ | ⟨r,anc,rest,ha,hfa,hg,hx⟩
     ·
      cases h
     ·
      simp only [Option.some.injEq,Addr.mk.injEq,and_true] at ha
      subst ha
      rw [Jy (P:=zi) (t:=23) (o:=0) (n:=l.length+1) (c:=l.length+1) (l:=0) (h:=mm) rfl hg jc jq rfl rfl (by omega) (by omega) (by omega)]
      simp
    have st2:=kS (P:=zi) (t:=23) (o:=0+0) (x:=.slice (some ⟨S3.next,0,none⟩) mm mm) g5 Zx rfl rfl (by simp)
    generalize hS6:(S5.kills []).set q _=S6 at st2
    have e5:ZR l t=(0,ad8 l t):=by unfold ZR;rw [hR,hD];simp [h16]
    rw [e5]
    refine ⟨S6,[S3.next],?_,⟨?_,?_,some ⟨S3.next,0,none⟩,?_,?_⟩,fun x hx=>?_,?_⟩
    ·
     rcases hidx with ⟨e1,e2⟩ | ⟨e1,e2⟩
     ·
      rw [e1] at c3 e2
      conv at hr =>
       rhs
       rw [hTe]
       simp only [zB.code,zB.rs,zSs,reduceIte,zk,zn,zo,zq,b1,ld,c1,wJ,jB,l0,c2,l1,c3,decide_eq_false e2,decide_eq_false d16,l2,ldt,s1,c4,st1,sq,l5,ln5,goInt,afl,hmin,sl5,st2]
      rw [hTe] at hr
      exact zB.runs hr (.inr rfl)
     ·
      rw [e1] at c3
      have dm:(-1:Int) < 0:=by decide
      conv at hr =>
       rhs
       rw [hTe]
       simp only [zB.code,zB.rs,zSs,reduceIte,zk,zn,zo,zq,b1,ld,c1,wJ,jB,l0,c2,l1,c3,decide_eq_true dm,ln,goInt,e2,decide_eq_false d16,l2,ldt,s1,c4,st1,sq,l5,ln5,afl,hmin,sl5,st2]
      rw [hTe] at hr
      exact zB.runs hr (.inr rfl)
    ·
     have:=h2.lt;have:=x3.next;have:=i4
     subst hS6
     simp [zx.kills];omega
    ·
     rw [KP h.len];omega
    ·
     subst hS6
     rw [zx.jg,if_pos rfl,KP h.len,← hmm];rfl
    ·
     subst hS6
     exact (i5.take 16).keep (by simp [zx.kills]) fun x hx=>by
      simp only [List.mem_singleton] at hx
      rw [zx.jg,if_neg (by rw [hx];exact fun e=>hq3 e.symm)];rfl
    ·
     simp only [List.mem_singleton] at hx
     exact .inr (by have:=xx.next;have:=x3.next;omega)
    ·
     have f1:Fr (q::fp) S S3:=Fr.ext (xx.trans x3)
     have f2:Fr (q::fp) S S4:=f1.trans i3 fun x hx=>.inl (by simp [hx])
     have f3:Fr (q::fp) S S5:=⟨by have:=f2.1;omega,fun p hp hn=>by
      rw [o5 p (fun e=>hn (by simp [e]))];exact f2.2 p hp hn⟩
     subst hS6
     exact f3.set (.inl (by simp)) _
end
end Go.Proofs.Ytacbgjhmkhjpoaa
namespace Go.Proofs.Ytacbgjhmkhjpoaa
open Go.Abs
section
variable {S:zx} {q:Nat} {l:List TxV} {fp:List Nat}
theorem slices_Clone.ms {a:Option Addr} (hA:qL fT 2 S a l fp) (hl:l.length≤16):zO zi O slices_Clone.id [.slice a l.length l.length] S=some (tl (if a=none then 0 else 2) l,S):=by
 obtain ⟨T,hTe⟩:∃ T,T=(.slice a l.length l.length::zh::zh::zh::zh::zh::zh::zh::[]):=⟨_,rfl⟩
 have hr:zD zi O false slices_Clone.code T S=zD zi O false slices_Clone.code T S:=rfl
 rcases hA with ⟨rfl,rfl,rfl⟩ | ⟨r,anc,rest,rfl,rfl,hg,hx⟩
 ·
  have e1:∀ S,wR zi .eql 23 (.slice none 0 0) (.slice none 0 0) S=some (.bool true,S):=fun S=>by kernel_rfl
  ·
   conv at hr =>
    rhs
    rw [hTe]
    simp only [slices_Clone.code,slices_Clone.rs,zSs,reduceIte,zk,zn,zo,zq,List.length_nil,e1]
   rw [hTe] at hr
   exact slices_Clone.runs hr (.inr rfl)
 ·
  have e1:∀ S,wR zi .eql 23 (.slice (some ⟨r,0,none⟩) l.length l.length) (.slice none 0 0) S=some (.bool false,S):=fun S=>by kernel_rfl
  have hlen:(l.flatMap fT).length=l.length * 2:=jI qE l
  have hX:((l.flatMap fT++rest).drop 0).take (l.length * 2)=l.flatMap fT:=by rw [List.drop_zero,← hlen,List.take_left]
  have src:ZY zi 23 2 (.slice (some ⟨r,0,none⟩) l.length l.length) S=some (l.length,l.flatMap fT):=by
   have:=VN (P:=zi) (tx:=23) (c:=l.length) (o:=0) (m:=l.length) (e:=2) jc hg (by rw [List.length_append,hlen];omega) (by
    rw [hX,List.all_flatMap,List.all_eq_true];exact fun x _=>Xw x)
   rw [hX] at this
   exact this
  have ap:qo zi 23 23 (sv 2 2 0 []) (.slice (some ⟨r,0,none⟩) l.length l.length) S=some (tl 2 l,S):=by
   obtain ⟨z,z1,z2,_⟩:=YE
   have hl2:=hl
   show yh zi false 23 23 (.iface 2 (.iface 2 (.iface 0 (.agg #[])))) _ S=_
   simp only [yh,Kz,jq,z1,ZT,z2,src,if_true,show (0:Nat) < 2 from by decide]
   rw [if_pos (show (0+l.length) * 16≤140737488355328 by omega),if_pos (show 0+l.length≤4611686018427387903 by omega),if_pos (by rfl),Nat.zero_add]
   rfl
  ·
   conv at hr =>
    rhs
    rw [hTe]
    simp only [slices_Clone.code,slices_Clone.rs,zSs,reduceIte,zk,zn,zo,zq,e1,WZ,ap]
   rw [hTe] at hr
   exact slices_Clone.runs hr (.inr rfl)
theorem zN.v (h:Pm S q l fp):∃ k,Okl k l∧k≠1∧zO zi O zN.id [.pointer (some ⟨q,0,none⟩)] S=some (tl k l,S):=by
 obtain ⟨T,hTe⟩:∃ T,T=(.pointer (some ⟨q,0,none⟩)::zh::zh::zh::zh::zh::zh::zh::[]):=⟨_,rfl⟩
 have hr:zD zi O false zN.code T S=zD zi O false zN.code T S:=rfl
 obtain ⟨a,g0,hA⟩:=h.cell
 have l0:=xP (P:=zi) (t:=23) (o:=0+0) g0 yX rfl
 have c1:=slices_Clone.ms hA h.len
 refine ⟨if a=none then 0 else 2,?_,by split <;> decide,?_⟩
 ·
  split
  ·
   rename_i e
   rcases hA with ⟨_,rfl,_⟩ | ⟨r,anc,rest,h1,_⟩
   ·
    exact Okl.none
   ·
    rw [e] at h1;cases h1
  ·
   exact Okl.own
 ·
  conv at hr =>
   rhs
   rw [hTe]
   simp only [zN.code,zN.rs,zSs,reduceIte,zk,zn,zo,zq,wJ,jB,l0,c1]
  rw [hTe] at hr
  exact zN.runs hr (.inr rfl)
def inT (ids:List Int) (x:TxV):Bool:=ids.any fun n=>decide (x.id=n)
def ZO (l:List TxV) (ids:List Int):List TxV:=l.filter fun x=>!inT ids x
theorem zI.v {c k:Nat} {ids:List Int} (hk:Okl k ids) (k2:k≠2) (hl:ids.length≤17592186044416) (x:TxV) {S:zx} (hc:S.get c=some (.cells [iz k ids] (.own []) 0)) (hlt:c < S.next):∃ S1,zO zi O zI.id [tv x,.pointer (some ⟨c,0,none⟩)] S=some (.bool (inT ids x),S1)∧Ext S S1∧S1.log=S.log:=by
 obtain ⟨T,hTe⟩:∃ T,T=(tv x::.pointer (some ⟨c,0,none⟩)::zh::zh::zh::zh::zh::zh::[]):=⟨_,rfl⟩
 have hr:zD zi O false zI.code T S=zD zi O false zI.code T S:=rfl
 have b1:ZQ (tv x) S=some (.pointer (some ⟨S.next,0,none⟩),S.push (.cells (fT x) (.own []) 0)):=rfl
 have g1:(S.push (.cells (fT x) (.own []) 0)).get S.next=some (.cells (fT x) (.own []) 0):=by rw [zx.zU,if_pos rfl]
 have g2:(S.push (.cells (fT x) (.own []) 0)).get c=some (.cells [iz k ids] (.own []) 0):=by rw [zx.zU,if_neg (by omega)];exact hc
 have l1:je zi false 38 (.pointer (some ⟨c,0,none⟩)) (S.push (.cells (fT x) (.own []) 0))=some (iz k ids,S.push (.cells (fT x) (.own []) 0)):=by
  rw [Yk (o:=0) (v:=iz k ids) g2 adn rfl (fun l h=>by unfold iz vs sv at h;split at h <;> cases h),Vy,if_neg k2]
 have c1:=fun S=>slices_Contains.v hk k2 hl (v:=x.id) S
 refine ⟨S.push (.cells (fT x) (.own []) 0),?_,Ext.push _ _,rfl⟩
 ·
  conv at hr =>
   rhs
   rw [hTe]
   simp only [zI.code,zI.rs,zSs,reduceIte,zk,zn,zo,zq,b1,jJ,kY g1,l1,if_neg k2,c1]
  rw [hTe] at hr
  exact zI.runs hr (.inr rfl)
theorem zM.v (h:Pm S q l fp) {k:Nat} {ids:List Int} (hk:Okl k ids) (k2:k≠2) (hl:ids.length≤17592186044416):∃ v S1 fp',zO zi O zM.id [.pointer (some ⟨q,0,none⟩),iz k ids] S=some (v,S1) ∧
  Pm S1 q (ZO l ids) fp'∧(∀ x ∈ fp',x ∈ fp)∧Fr (q::fp) S S1:=by
 obtain ⟨T,hTe⟩:∃ T,T=(.pointer (some ⟨q,0,none⟩)::iz k ids::zh::zh::zh::zh::zh::zh::zh::zh::zh::zh::zh::[]):=⟨_,rfl⟩
 have hr:zD zi O false zM.code T S=zD zi O false zM.code T S:=rfl
 obtain ⟨S0,b1,b2,b3,b4⟩:=V4 (iz k ids) S
 have b2:S0.get S.next=some (.cells [iz k ids] (.own []) 0):=by
  rw [b2]
  have:(iz k ids).cells.toList=[iz k ids]:=by unfold iz vs sv;split <;> rfl
  rw [this]
 have h0:=h.ext b3
 obtain ⟨a,h1,h2⟩:=h0.cell
 have l1:=xP (P:=zi) (t:=23) (o:=0+0) h1 yX rfl
 have hcn:S.next ∉ fp:=fun hx=>by have:=h.flt _ hx;omega
 obtain ⟨a',S1,fp',e1,e2,e3,e4⟩:=slices_DeleteFunc.v (l:=l) (p:=inT ids) (g:=31) (c:=.pointer (some ⟨S.next,0,none⟩)) (K:=fun S1=>S1.get S.next=some (.cells [iz k ids] (.own []) 0)∧S.next < S1.next) h2 (by have:=h.len;omega)
  (fun S1 x hK _=>zI.v hk k2 hl x hK.1 hK.2) rfl (fun S1 S2 hK hF=>⟨by rw [hF.2 _ hK.2 hcn];exact hK.1,Nat.lt_of_lt_of_le hK.2 hF.1⟩) ⟨b2,b4⟩
 have e1:zO zi O 30 [.slice a l.length l.length,.func (Fn.func 31) #[] #[.pointer (some ⟨S.next,0,none⟩)]] S0=some (.slice a' (ZO l ids).length (ZO l ids).length,S1):=e1
 have hq:S1.get q=some (.cells [.slice a l.length l.length] (.own []) 0):=by rw [e4.2 q h0.lt h0.aaB,h1]
 have st:=kS (P:=zi) (t:=23) (o:=0+0) (x:=.slice a' (ZO l ids).length (ZO l ids).length) hq Zx rfl rfl (by simp)
 conv at hr =>
  rhs
  rw [hTe]
  simp only [zM.code,zM.rs,zSs,reduceIte,zk,zn,zo,zq,if_neg k2,b1,wJ,jB,l1,xR,yc,e1,st]
 rw [hTe] at hr
 have hq4:q ∉ fp':=fun hx=>h.aaB (e3 q hx)
 refine ⟨_,_,fp',zM.runs hr (.inl rfl),⟨?_,?_,a',?_,?_⟩,e3,?_⟩
 ·
  have:=h0.lt;have:=e4.1
  simp [zx.kills];omega
 ·
  exact Nat.le_trans (List.length_filter_le _ _) h.len
 ·
  rw [zx.jg,if_pos rfl];rfl
 ·
  exact e2.keep (by simp [zx.kills]) fun x hx=>by rw [zx.jg,if_neg (fun e=>hq4 (by rw [← e];exact hx))];rfl
 ·
  have f2:Fr (q::fp) S S1:=(Fr.ext b3).trans e4 fun x hx=>.inl (by simp [hx])
  exact f2.set (.inl (by simp)) _
def ZM (many:Int) (skip:List Int):List TxV→List TxV→List TxV
 | [],out=>out
 | x::r,out=>ZM many skip r (if decide ((out.length:Int) < many) && !inT skip x then out++[x] else out)
theorem YL (many:Int) (skip:List Int):∀ (l out:List TxV),(ZM many skip l out).length≤out.length+l.length
 | [],out=>by simp [ZM]
 | x::r,out=>by
  have:=YL many skip r (if decide ((out.length:Int) < many) && !inT skip x then out++[x] else out)
  rw [ZM,List.length_cons]
  split at this <;> rename_i hc <;> simp only [hc,if_true,if_false,Bool.false_eq_true] <;> simp at this ⊢ <;> omega
def yO (l:List TxV) (many:Int) (skip:List Int):List TxV:=ZM many skip l []
theorem zA.round {r k2:Nat} {many:Int} {skip:List Int} (hn:l.length≤16) (hs:Okl k2 skip) (hs2:k2≠2) (hsl:skip.length≤17592186044416):∀ (suf pre:List TxV) {T:List Value} {rr:St} {S:zx} {k:Nat} {out:List TxV},wP (zD zi O false zA.jh) T S=rr→T.length=36 →
  T.getD 1 zh=.int .i64 many→T.getD 2 zh=iz k2 skip→T.getD 7 zh=tl k out→T.getD 13 zh=.slice (some ⟨r,0,none⟩) l.length l.length→T.getD 14 zh=.int .i64 l.length→T.getD 15 zh=.int .i64 pre.length→l=pre++suf→Okl k out→k≠1→out.length≤pre.length→qL fT 2 S (some ⟨r,0,none⟩) l fp →
  ∃ T' S' k',rr=some (.exit 0,T',S')∧T'.length=36∧T'.getD 7 zh=tl k' (ZM many skip suf out)∧Okl k' (ZM many skip suf out)∧k'≠1∧Ext S S':=by
 intro suf
 induction suf with
 | nil =>
  intro pre T rr S k out hL hT h1 h2 h7 h13 h14 h15 hl hk k1 hol hA
  have hTe:=zA.eta hT
  rw [h1,h2,h7,h13,h14,h15] at hTe
  have hr:zD zi O false zA.jh T S=zD zi O false zA.jh T S:=rfl
  have hd:¬ (pre.length:Int) < (l.length:Int):=by rw [hl];simp
  conv at hr =>
   rhs
   rw [hTe]
   simp only [zA.jh,zA.code,zA.rs,zSs,reduceIte,zk,zn,zo,zq,hd]
  exact ⟨_,_,k,hL.symm.trans (jr hr (by simp)),rfl,rfl,hk,k1,Ext.refl _⟩
 | cons x suf ih =>
  intro pre T rr S k out hL hT h1 h2 h7 h13 h14 h15 hl hk k1 hol hA
  have hTe:=zA.eta hT
  rw [h1,h2,h7,h13,h14,h15] at hTe
  have hr:zD zi O false zA.jh T S=zD zi O false zA.jh T S:=rfl
  have hd:(pre.length:Int) < (l.length:Int):=by rw [hl];simp;omega
  have ix:∀ S,zV zi 23 (.slice (some ⟨r,0,none⟩) l.length l.length) (.int .i64 pre.length) S=some (.pointer (some ⟨r,0+pre.length * 2,none⟩),S):=fun S=>by
   rw [QT (o:=0) (n:=l.length) (c:=l.length) (q:=r) jc jq (by omega) hd,Int.toNat_natCast]
  have hA0:=hA
  rcases hA0 with ⟨h,_⟩ | ⟨r',anc,rest,ha,hfa,hg,hx⟩
  ·
   cases h
  simp only [Option.some.injEq,Addr.mk.injEq,and_true] at ha
  subst ha
  have l1:je zi false 30 (.pointer (some ⟨r,0+pre.length * 2,none⟩)) S=some (tv x,S):=qL.load (P:=zi) (te:=30) (S:=S) vF jq qE acA (x:=x) (pre:=pre) (suf:=suf) (by rw [← hl];exact hg)
  obtain ⟨S1,n1,n2,n3,n4⟩:=VH S x
  have al:=aaH S
  have hpl:pre.length≤16:=by have:=congrArg List.length hl;simp at this;omega
  have ln:=fun S=>xG (S:=S) hk.dem
  have lo0:=kY n2
  have lo:=Qv n2
  have cc:=fun S=>slices_Contains.v hs hs2 hsl (v:=x.id) S
  have bsl:∀ S,jw zi 23 1 [(0,tv x)] S=some (tl 2 [x],S):=fun S=>by kernel_rfl
  have ap:=fun S=>ada (S:=S) (t:=x) hk k1 (by omega)
  have wi:IntKind.i64.wrap ((pre.length:Int)+1)=((pre++[x]).length:Int):=by rw [wrap_i64 (by omega) (by omega)];simp
  have step:∀ {k3:Nat} {out3:List TxV},(if decide ((out.length:Int) < many) && !inT skip x then out++[x] else out)=out3→∀ {T3:List Value},wP (zD zi O false zA.jh) T3 S1=rr→T3.length=36→T3.getD 1 zh=.int .i64 many→T3.getD 2 zh=iz k2 skip→T3.getD 7 zh=tl k3 out3 →
    T3.getD 13 zh=.slice (some ⟨r,0,none⟩) l.length l.length→T3.getD 14 zh=.int .i64 l.length→T3.getD 15 zh=.int .i64 ((pre++[x]).length:Nat)→Okl k3 out3→k3≠1→out3.length≤(pre++[x]).length→∃ T' S' k',rr=some (.exit 0,T',S')∧T'.length=36∧T'.getD 7 zh=tl k' (ZM many skip (x::suf) out)∧Okl k' (ZM many skip (x::suf) out)∧k'≠1∧Ext S S':=by
   intro k3 out3 ho T3 hL3 hT3 q1 q2 q7 q13 q14 q15 hk3 k31 hol3
   obtain ⟨T',S',k',w1,w2,w3,w4,w5,w6⟩:=ih (pre++[x]) hL3 hT3 q1 q2 q7 q13 q14 q15 (by rw [hl];simp) hk3 k31 hol3 (hA.ext n3)
   rw [← ho] at w3 w4
   exact ⟨T',S',k',w1,w2,w3,w4,w5,n3.trans w6⟩
  by_cases hm:(out.length:Int) < many
  ·
   cases hI:inT skip x with
   | true =>
    unfold inT at hI
    rw [hI] at cc
    conv at hr =>
     rhs
     rw [hTe]
     simp only [zA.jh,zA.code,zA.rs,zSs,reduceIte,zk,zn,zo,zq,hd,ix,l1,al,n1,ln,decide_eq_true hm,jJ,lo0,if_neg hs2,cc,Bool.not_true,wi]
    have hs3:=(jo hr).symm.trans hL
    exact step (out3:=out) (by unfold inT;rw [hI];simp) hs3 rfl rfl rfl rfl rfl rfl rfl hk k1 (by simp;omega)
   | false =>
    unfold inT at hI
    rw [hI] at cc
    conv at hr =>
     rhs
     rw [hTe]
     simp only [zA.jh,zA.code,zA.rs,zSs,reduceIte,zk,zn,zo,zq,hd,ix,l1,al,n1,ln,decide_eq_true hm,jJ,lo0,if_neg hs2,cc,Bool.not_false,wi,lo,bsl,ap]
    have hs3:=(jo hr).symm.trans hL
    exact step (out3:=out++[x]) (by unfold inT;rw [hI];simp [hm]) hs3 rfl rfl rfl rfl rfl rfl rfl Okl.own (by decide) (by simp;omega)
  ·
   conv at hr =>
    rhs
    rw [hTe]
    simp only [zA.jh,zA.code,zA.rs,zSs,reduceIte,zk,zn,zo,zq,hd,ix,l1,al,n1,ln,decide_eq_false hm,wi]
   have hs3:=(jo hr).symm.trans hL
   exact step (out3:=out) (by simp [hm]) hs3 rfl rfl rfl rfl rfl rfl rfl hk k1 (by simp;omega)
theorem zA.v (h:Pm S q l fp) {k2:Nat} {many:Int} {skip:List Int} (hs:Okl k2 skip) (hs2:k2≠2) (hsl:skip.length≤17592186044416):∃ k S1,zO zi O zA.id [.pointer (some ⟨q,0,none⟩),.int .i64 many,iz k2 skip] S=some (tl k (yO l many skip),S1)∧Okl k (yO l many skip)∧k≠1∧Ext S S1:=by
 obtain ⟨T,hTe⟩:∃ T,T=(.pointer (some ⟨q,0,none⟩)::.int .i64 many::iz k2 skip::zh::zh::zh::zh::zh::zh::zh::zh::zh::zh::zh::zh::zh::zh::zh::zh::zh::zh::zh::zh::zh::zh::zh::zh::zh::zh::zh::zh::zh::zh::zh::zh::zh::[]):=⟨_,rfl⟩
 have hr:zD zi O false zA.code T S=zD zi O false zA.code T S:=rfl
 obtain ⟨a,h1,h2⟩:=h.cell
 have l1:=xP (P:=zi) (t:=23) (o:=0+0) h1 yX rfl
 have ln:=fun S=>Jr (P:=zi) jc a l.length l.length S
 conv at hr =>
  rhs
  rw [hTe]
  simp only [zA.code,zA.rs,zSs,reduceIte,zk,zn,zo,zq,wJ,jB,l1,ln,goInt]
 generalize hL:wP (zD zi O false zA.jh) _ _=rr at hr
 have fin:∀ T' S' k',rr=some (.exit 0,T',S')→T'.length=36→T'.getD 7 zh=tl k' (yO l many skip)→Okl k' (yO l many skip)→k'≠1→Ext S S'→∃ k S1,zO zi O zA.id [.pointer (some ⟨q,0,none⟩),.int .i64 many,iz k2 skip] S=some (tl k (yO l many skip),S1)∧Okl k (yO l many skip)∧k≠1∧Ext S S1:=by
  intro T' S' k' e1 e2 e3 e4 e5 e6
  subst e1
  have hTe':=zA.eta e2
  rw [e3] at hTe'
  conv at hr =>
   rhs
   simp only [zSs,reduceIte,zk,zn,zo,zq]
   rw [hTe']
   simp only [zA.code,zA.rs,zSs,reduceIte,zk,zn,zo,zq]
  rw [hTe] at hr
  exact ⟨k',S',zA.runs hr (.inr rfl),e4,e5,e6⟩
 rcases h2 with ⟨rfl,rfl,rfl⟩ | ⟨r,anc,rest,rfl,rfl,k3,k4⟩
 ·
  generalize hT2:List.cons _ _=T2 at hL
  have hlen:T2.length=36:=by rw [← hT2];rfl
  have g7:T2.getD 7 zh=.slice none 0 0:=by rw [← hT2];rfl
  have g14:T2.getD 14 zh=.int .i64 0:=by rw [← hT2];rfl
  have g15:T2.getD 15 zh=.int .i64 0:=by rw [← hT2];rfl
  have hTe2:=zA.eta hlen
  rw [g7,g14,g15] at hTe2
  have hr2:zD zi O false zA.jh T2 S=zD zi O false zA.jh T2 S:=rfl
  have hd:¬ (0:Int) < (0:Int):=by decide
  conv at hr2 =>
   rhs
   rw [hTe2]
   simp only [zA.jh,zA.code,zA.rs,zSs,reduceIte,zk,zn,zo,zq,hd]
  exact fin _ _ 0 (hL.symm.trans (jr hr2 (by simp))) rfl rfl Okl.none (by decide) (Ext.refl _)
 ·
  obtain ⟨T',S',k',q1,q2,q3,q4,q5,q6⟩:=zA.round h.len hs hs2 hsl l [] (k:=0) (out:=[]) hL rfl rfl rfl rfl rfl rfl rfl rfl Okl.none (by decide) (by simp) (.inr ⟨r,anc,rest,rfl,rfl,k3,k4⟩)
  exact fin T' S' k' q1 q2 q3 q4 q5 q6
end
end Go.Proofs.Ytacbgjhmkhjpoaa
namespace Go.Proofs.Ytacbgjhmkhjpoaa
open Go.Abs
section
variable {S0 S:zx} {q:Nat} {l:List TxV}
def PS (S0 S:zx) (q:Nat) (l:List TxV):Prop:=∃ fp,Pm S q l fp∧Fr [] S0 S∧S0.next≤q∧∀ x ∈ fp,S0.next≤x
theorem PS.fr (h:PS S0 S q l):Fr [] S0 S:=let ⟨_,_,h,_⟩:=h;h
theorem PS.len (h:PS S0 S q l):l.length≤16:=let ⟨_,h,_⟩:=h;h.len
theorem PS.ge (h:PS S0 S q l):S0.next≤q:=let ⟨_,_,_,h,_⟩:=h;h
theorem PS.lt (h:PS S0 S q l):q < S.next:=let ⟨_,h,_⟩:=h;h.lt
theorem PS.ext {S1:zx} (h:PS S0 S q l) (k:Ext S S1):PS S0 S1 q l:=by
 obtain ⟨fp,h1,h2,h3,h4⟩:=h
 exact ⟨fp,h1.ext k,h2.trans (Fr.ext (fp:=[]) k) fun x hx=>(by cases hx),h3,h4⟩
theorem PS.of {S1:zx} {l2:List TxV} {fp fp':List Nat} (h1:Pm S q l fp) (h2:Fr [] S0 S) (h3:S0.next≤q) (h4:∀ x ∈ fp,S0.next≤x) (k1:Pm S1 q l2 fp') (k2:∀ x ∈ fp',x ∈ fp∨S.next≤x) (k3:Fr (q::fp) S S1):PS S0 S1 q l2 :=
 ⟨fp',k1,h2.trans k3 fun x hx=>(by
  rcases List.mem_cons.1 hx with rfl | hx
  ·
   exact .inr h3
  ·
   exact .inr (h4 x hx)),h3,fun x hx=>(by
  rcases k2 x hx with hx | hx
  ·
   exact h4 x hx
  ·
   have:=h2.1;omega)⟩
theorem acL (S:zx):∃ S1,zO zi O jf.id [] S=some (.pointer (some ⟨S.next,0,none⟩),S1)∧PS S S1 S.next []:=by
 obtain ⟨S1,h1,h2,h3⟩:=jf.v S
 exact ⟨S1,h1,[],h2,Fr.ext h3,Nat.le_refl _,fun x hx=>by cases hx⟩
theorem Qn (h:PS S0 S q l) (t:TxV):∃ S1,zO zi O zB.id [.pointer (some ⟨q,0,none⟩),tv t] S=some (.int .i64 (ZR l t).1,S1)∧PS S0 S1 q (ZR l t).2:=by
 obtain ⟨fp,h1,h2,h3,h4⟩:=h
 obtain ⟨S1,fp',e1,e2,e3,e4⟩:=zB.v h1 t
 exact ⟨S1,e1,PS.of h1 h2 h3 h4 e2 e3 e4⟩
theorem aaW (h:PS S0 S q l):∃ k,Okl k l∧k≠1∧zO zi O zN.id [.pointer (some ⟨q,0,none⟩)] S=some (tl k l,S):=by
 obtain ⟨fp,h1,_⟩:=h
 exact zN.v h1
theorem adM (h:PS S0 S q l) {k:Nat} {ids:List Int} (hk:Okl k ids) (k2:k≠2) (hl:ids.length≤17592186044416):∃ v S1,zO zi O zM.id [.pointer (some ⟨q,0,none⟩),iz k ids] S=some (v,S1)∧PS S0 S1 q (ZO l ids):=by
 obtain ⟨fp,h1,h2,h3,h4⟩:=h
 obtain ⟨v,S1,fp',e1,e2,e3,e4⟩:=zM.v h1 hk k2 hl
 exact ⟨v,S1,e1,PS.of h1 h2 h3 h4 e2 (fun x hx=>.inl (e3 x hx)) e4⟩
theorem aai (h:PS S0 S q l) {k2:Nat} {many:Int} {skip:List Int} (hs:Okl k2 skip) (hs2:k2≠2) (hsl:skip.length≤17592186044416):∃ k S1,zO zi O zA.id [.pointer (some ⟨q,0,none⟩),.int .i64 many,iz k2 skip] S=some (tl k (yO l many skip),S1)∧Okl k (yO l many skip)∧k≠1∧PS S0 S1 q l:=by
 obtain ⟨fp,h1,h2⟩:=h
 obtain ⟨k,S1,e1,e2,e3,e4⟩:=zA.v (many:=many) h1 hs hs2 hsl
 exact ⟨k,S1,e1,e2,e3,PS.ext ⟨fp,h1,h2⟩ e4⟩
theorem abW (q:Nat) (S:zx):wR zi .eql 24 (.pointer (some ⟨q,0,none⟩)) (.pointer none) S=some (.bool false,S):=by kernel_rfl
theorem VE (l:List TxV) (many:Int) (skip:List Int):(yO l many skip).length≤l.length:=by
 have:=YL many skip l []
 simpa [yO] using this
theorem zC.v (S:zx):∃ S1,zO zi O zC.id [] S=some (.bool true,S1)∧Fr [] S S1:=by
 obtain ⟨T,hTe⟩:∃ T,T=(zh::zh::zh::zh::zh::zh::zh::zh::zh::zh::zh::zh::zh::zh::zh::zh::zh::zh::zh::zh::zh::zh::zh::zh::zh::zh::zh::zh::zh::zh::zh::zh::zh::zh::zh::zh::zh::[]):=⟨_,rfl⟩
 have hr:zD zi O false zC.code T S=zD zi O false zC.code T S:=rfl
 obtain ⟨S1,a1,p1⟩:=acL S
 obtain ⟨S2,a2,p2⟩:=Qn p1 ⟨1,1⟩
 obtain ⟨S3,a3,p3⟩:=Qn p2 ⟨2,5⟩
 obtain ⟨S4,a4,p4⟩:=Qn p3 ⟨3,3⟩
 have e2:ZR [] ⟨1,1⟩=(0,[⟨1,1⟩]):=by rfl
 rw [e2] at a2 p2 a3 p3 a4 p4
 have e3:ZR [⟨1,1⟩] ⟨2,5⟩=(0,[⟨2,5⟩,⟨1,1⟩]):=by rfl
 simp only [e3] at a3 p3 a4 p4
 have e4:ZR [⟨2,5⟩,⟨1,1⟩] ⟨3,3⟩=(0,[⟨2,5⟩,⟨3,3⟩,⟨1,1⟩]):=by rfl
 simp only [e4] at a4 p4
 obtain ⟨k,S5,a5,k5,_,p5⟩:=aai (many:=2) (skip:=[]) p4 Okl.none (by decide) (by simp)
 have e5:yO [⟨2,5⟩,⟨3,3⟩,⟨1,1⟩] 2 []=[⟨2,5⟩,⟨3,3⟩]:=by rfl
 rw [e5] at a5 k5
 have a5:zO zi O zA.id [.pointer (some ⟨S.next,0,none⟩),.int .i64 2,.slice none 0 0] S4=some (tl k [⟨2,5⟩,⟨3,3⟩],S5):=a5
 obtain ⟨S6,a6,p6⟩:=Qn p5 ⟨1,9⟩
 have e6:ZR [⟨2,5⟩,⟨3,3⟩,⟨1,1⟩] ⟨1,9⟩=(91,[⟨2,5⟩,⟨3,3⟩,⟨1,1⟩]):=by rfl
 rw [e6] at a6 p6
 have b1:∀ S,wW zi 30 [(0,.int .i64 1),(1,.int .i64 1)] S=some (tv ⟨1,1⟩,S):=fun S=>by kernel_rfl
 have b2:∀ S,wW zi 30 [(0,.int .i64 2),(1,.int .i64 5)] S=some (tv ⟨2,5⟩,S):=fun S=>by kernel_rfl
 have b3:∀ S,wW zi 30 [(0,.int .i64 3),(1,.int .i64 3)] S=some (tv ⟨3,3⟩,S):=fun S=>by kernel_rfl
 have b4:∀ S,wW zi 30 [(0,.int .i64 1),(1,.int .i64 9)] S=some (tv ⟨1,9⟩,S):=fun S=>by kernel_rfl
 have bs:∀ S,jw zi 23 2 [(0,tv ⟨2,5⟩),(1,tv ⟨3,3⟩)] S=some (tl 2 [⟨2,5⟩,⟨3,3⟩],S):=fun S=>by kernel_rfl
 have sm:∀ S,zO zi O 15 [tl (if k=2 then 1 else k) [⟨2,5⟩,⟨3,3⟩],tl 1 [⟨2,5⟩,⟨3,3⟩]] S=some (.bool true,S):=fun S=>by
  have:=zy.v k5.dem (Okl.read (l:=[(⟨2,5⟩:TxV),⟨3,3⟩])) (ads k) (by decide) (by simp) S
  rwa [decide_eq_true rfl] at this
 refine ⟨S6,?_,p6.fr⟩
 conv at hr =>
  rhs
  rw [hTe]
  simp only [zC.code,zC.rs,zSs,reduceIte,zk,zn,zo,zq,a1,abW,b1,a2,b2,a3,b3,a4,a5,bs,afv,sm,b4,a6]
 rw [hTe] at hr
 exact zC.runs hr (.inr rfl)
end
end Go.Proofs.Ytacbgjhmkhjpoaa
namespace Go.Proofs.Ytacbgjhmkhjpoaa
open Go.Abs
theorem vV {a b:TxV}:wZ a b=true ↔ b.fee < a.fee∨(a.fee=b.fee∧a.id < b.id):=by
 unfold wZ
 by_cases h:a.fee=b.fee
 ·
  simp [h]
 ·
  simp [h]
theorem QL {a b c:TxV} (h:wZ a b=true) (k:wZ b c=true):wZ a c=true:=by
 rw [vV] at *;omega
theorem QI {a b:TxV} (h:¬ wZ a b=true) (hne:a.id≠b.id):wZ b a=true:=by
 rw [vV] at *;omega
def Srt (l:List TxV):Prop:=l.Pairwise fun x y=>wZ x y=true∧x.id≠y.id
theorem aeZ {l:List TxV} {t:TxV} (h:adX l t=false):∀ x ∈ l,x.id≠t.id:=by
 intro x hx
 unfold adX at h
 rw [List.any_eq_false] at h
 simpa using h x hx
theorem adh {l:List TxV} {t x:TxV} (hx:x ∈ l.take (ZN l t)):¬ wZ t x=true:=by
 obtain ⟨i,hi,rfl⟩:=List.mem_iff_getElem.1 hx
 rw [List.length_take] at hi
 rw [List.getElem_take]
 have:=List.not_of_lt_findIdx (p:=wZ t) (xs:=l) (i:=i) (by unfold ZN at hi;omega)
 simpa using this
theorem adt {l:List TxV} {t x:TxV} (hs:Srt l) (hx:x ∈ l.drop (ZN l t)):wZ t x=true:=by
 have hlt:ZN l t < l.length:=by
  rw [List.mem_iff_getElem] at hx
  obtain ⟨i,hi,_⟩:=hx
  rw [List.length_drop] at hi
  omega
 have h0:wZ t l[ZN l t]=true:=List.findIdx_getElem (p:=wZ t) (xs:=l) (w:=hlt)
 rw [List.drop_eq_getElem_cons hlt] at hx
 rcases List.mem_cons.1 hx with rfl | hx
 ·
  exact h0
 ·
  have hd:(l.drop (ZN l t)).Pairwise fun x y=>wZ x y=true∧x.id≠y.id:=hs.sublist (List.drop_sublist _ _)
  rw [List.drop_eq_getElem_cons hlt] at hd
  exact QL h0 ((List.pairwise_cons.1 hd).1 x hx).1
theorem Srt.ins {l:List TxV} {t:TxV} (hs:Srt l) (hd:adX l t=false):Srt (ad8 l t):=by
 have hn:=aeZ hd
 refine List.Pairwise.sublist (List.take_sublist _ _) ?_
 refine List.pairwise_append.2 ⟨hs.sublist (List.take_sublist _ _),List.pairwise_cons.2 ⟨fun b hb=>⟨adt hs hb,fun e=>hn b (List.mem_of_mem_drop hb) e.symm⟩,hs.sublist (List.drop_sublist _ _)⟩,fun a ha b hb=>?_⟩
 have ham:=List.mem_of_mem_take ha
 rcases List.mem_cons.1 hb with rfl | hb
 ·
  exact ⟨QI (adh ha) (fun e=>hn a ham e.symm),hn a ham⟩
 ·
  have h2:=hs
  rw [Srt,← List.take_append_drop (ZN l t) l] at h2
  exact (List.pairwise_append.1 h2).2.2 a ha b hb
theorem adE {l:List TxV} {t:TxV} (h:(ZR l t).1=0):(ZR l t).2=ad8 l t∧adX l t=false∧WL t=true∧ZN l t≠16:=by
 unfold ZR at *
 split at h
 ·
  rename_i h1
  split at h
  ·
   cases h
  ·
   rename_i h2
   split at h
   ·
    cases h
   ·
    rename_i h3
    rw [if_pos h1,if_neg h2,if_neg h3]
    exact ⟨rfl,by simpa using h2,h1,h3⟩
 ·
  cases h
theorem adI {l:List TxV} {t:TxV} (h:¬ (ZR l t).1=0):(ZR l t).2=l:=by
 unfold ZR at *
 split at h
 ·
  split at h
  ·
   rename_i h1 h2;rw [if_pos h1,if_pos h2]
  ·
   split at h
   ·
    rename_i h1 h2 h3;rw [if_pos h1,if_neg h2,if_pos h3]
   ·
    exact absurd rfl h
 ·
  rename_i h1;rw [if_neg h1]
theorem Srt.add {l:List TxV} (hs:Srt l) (t:TxV):Srt (ZR l t).2:=by
 by_cases h:(ZR l t).1=0
 ·
  obtain ⟨h1,h2,_⟩:=adE h
  rw [h1];exact hs.ins h2
 ·
  rw [adI h];exact hs
theorem Y9 (a:TxV):¬ wZ a a=true:=by rw [vV];omega
theorem Vd {a b:TxV} (h:wZ a b=true):¬ wZ b a=true:=by rw [vV] at *;omega
theorem Vb:∀ (a b:List TxV),Srt a→Srt b→(∀ x,x ∈ a ↔ x ∈ b)→a=b:=by
 intro a
 induction a with
 | nil =>
  intro b _ _ h
  cases b with
  | nil=>rfl
  | cons y b=>have:=(h y).2 (by simp);cases this
 | cons x a ih =>
  intro b ha hb h
  cases b with
  | nil=>have:=(h x).1 (by simp);cases this
  | cons y b =>
   obtain ⟨a1,a2⟩:=List.pairwise_cons.1 ha
   obtain ⟨b1,b2⟩:=List.pairwise_cons.1 hb
   have hxy:x=y:=by
    rcases List.mem_cons.1 ((h x).1 (by simp)) with e | e
    ·
     exact e
    ·
     rcases List.mem_cons.1 ((h y).2 (by simp)) with e2 | e2
     ·
      exact e2.symm
     ·
      exact absurd (b1 x e).1 (Vd (a1 y e2).1)
   subst hxy
   rw [ih b a2 b2 fun z=>?_]
   constructor
   ·
    intro hz
    rcases List.mem_cons.1 ((h z).1 (by simp [hz])) with e | e
    ·
     subst e;exact absurd (a1 z hz).1 (Y9 z)
    ·
     exact e
   ·
    intro hz
    rcases List.mem_cons.1 ((h z).2 (by simp [hz])) with e | e
    ·
     subst e;exact absurd (b1 z hz).1 (Y9 z)
    ·
     exact e
end Go.Proofs.Ytacbgjhmkhjpoaa
namespace Go.Proofs.Ytacbgjhmkhjpoaa
open Go.Abs
def Yg (l:List TxV) (skip:List Int):List TxV:=l.filter fun x=>!inT skip x
theorem aco (many:Int) (skip:List Int):∀ (l out:List TxV),ZM many skip l out=out++(Yg l skip).take (many.toNat - out.length):=by
 intro l
 induction l with
 | nil=>intro out;simp [ZM,Yg]
 | cons x l ih =>
  intro out
  rw [ZM,ih]
  unfold Yg
  rw [List.filter_cons]
  cases hI:inT skip x with
  | true=>simp
  | false =>
   by_cases hm:(out.length:Int) < many
   ·
    obtain ⟨d,hd⟩:∃ d,many.toNat - out.length=d+1:=⟨many.toNat - out.length - 1,by omega⟩
    simp only [decide_eq_true hm,Bool.not_false,Bool.and_self,if_true,hd,List.take_succ_cons,List.length_append,List.length_singleton,List.append_assoc,List.singleton_append]
    rw [show many.toNat - (out.length+1)=d by omega]
   ·
    simp only [decide_eq_false hm,Bool.false_and,Bool.false_eq_true,if_false]
    rw [show many.toNat - out.length=0 by omega];simp
theorem ZV (l:List TxV) (many:Int) (skip:List Int):yO l many skip=(Yg l skip).take many.toNat:=by
 unfold yO
 rw [aco];simp
theorem abH (l:List TxV) (many:Int) (skip:List Int):(yO l many skip).Sublist l:=by
 rw [ZV]
 exact (List.take_sublist _ _).trans List.filter_sublist
theorem V8 {l:List TxV} {many:Int} {skip:List Int} {t:TxV} (h:t ∈ yO l many skip):inT skip t=false:=by
 rw [ZV] at h
 have:=(List.mem_filter.1 (List.mem_of_mem_take h)).2
 simpa using this
theorem Srt.same {l:List TxV} (h:Srt l) {x y:TxV} (hx:x ∈ l) (hy:y ∈ l) (he:x.id=y.id):x=y:=by
 induction l with
 | nil=>cases hx
 | cons z l ih =>
  obtain ⟨h1,h2⟩:=List.pairwise_cons.1 h
  rcases List.mem_cons.1 hx with ex | kx <;> rcases List.mem_cons.1 hy with ey | ky
  ·
   rw [ex,ey]
  ·
   exact absurd (by rw [← ex];exact he) (h1 y ky).2
  ·
   exact absurd (by rw [← ey];exact he.symm) (h1 x kx).2
  ·
   exact ih h2 kx ky
theorem aaQ {x:List TxV} {t:TxV}:inT (x.map (·.id)) t=true ↔ ∃ u ∈ x,u.id=t.id:=by
 unfold inT
 rw [List.any_eq_true]
 constructor
 ·
  rintro ⟨n,hn,he⟩
  obtain ⟨u,hu,rfl⟩:=List.mem_map.1 hn
  exact ⟨u,hu,(of_decide_eq_true he).symm⟩
 ·
  rintro ⟨u,hu,he⟩
  exact ⟨_,List.mem_map.2 ⟨u,hu,rfl⟩,decide_eq_true he.symm⟩
theorem aaP {l:List TxV} (hs:Srt l) (many:Int) (skip:List Int):(yO l many skip).length+(ZO l ((yO l many skip).map (·.id))).length=l.length:=by
 have hsub:=abH l many skip
 generalize yO l many skip=x at *
 have hx:l.filter (fun t=>inT (x.map (·.id)) t)=x:=by
  refine Vb _ _ (hs.sublist List.filter_sublist) (hs.sublist hsub) fun t=>?_
  rw [List.mem_filter,aaQ]
  constructor
  ·
   rintro ⟨h1,u,hu,he⟩
   rw [← hs.same (hsub.subset hu) h1 he];exact hu
  ·
   exact fun h=>⟨hsub.subset h,t,h,rfl⟩
 have h2:∀ (l:List TxV) (p:TxV→Bool),(l.filter p).length+(l.filter fun t=>!p t).length=l.length:=by
  intro l p
  induction l with
  | nil=>rfl
  | cons y l ih =>
   rw [List.filter_cons,List.filter_cons,List.length_cons]
   cases p y <;> simp <;> omega
 have:=h2 l fun t=>inT (x.map (·.id)) t
 rw [hx] at this
 exact this
theorem WH {l:List TxV} {x:List TxV} {t u:TxV} (ht:t ∈ ZO l (x.map (·.id))) (hu:u ∈ x):u.id≠t.id:=by
 intro e
 have:=(List.mem_filter.1 ht).2
 have h2:inT (x.map (·.id)) t=true:=aaQ.2 ⟨u,hu,e⟩
 rw [h2] at this;cases this
theorem QK {l:List TxV} (hs:Srt l) {many:Int} {skip:List Int} {t:TxV} (ht:t ∈ ZO l ((yO l many skip).map (·.id))) (hf:inT skip t=false):(∀ u ∈ yO l many skip,wZ u t=true)∧many≤(yO l many skip).length:=by
 have htl:=(List.mem_filter.1 ht).1
 have hfl:t ∈ Yg l skip:=List.mem_filter.2 ⟨htl,by rw [hf];rfl⟩
 have hnx:t ∉ yO l many skip:=fun h=>WH ht h rfl
 rw [ZV] at hnx ⊢
 have hd:t ∈ (Yg l skip).drop many.toNat:=by
  rw [← List.take_append_drop many.toNat (Yg l skip)] at hfl
  rcases List.mem_append.1 hfl with h | h
  ·
   exact absurd h hnx
  ·
   exact h
 have hsf:Srt (Yg l skip):=hs.sublist List.filter_sublist
 rw [Srt,← List.take_append_drop many.toNat (Yg l skip)] at hsf
 refine ⟨fun u hu=>((List.pairwise_append.1 hsf).2.2 u hu t hd).1,?_⟩
 have h1:=List.length_pos_of_mem hd
 rw [List.length_drop] at h1
 rw [List.length_take]
 omega
end Go.Proofs.Ytacbgjhmkhjpoaa
