/-
The law BlockBack returns true for every input, and leaves it as it was; no condition. Part 4 of 4 of the texts (put together by a program: own names are short, what isn't needed is left out).
-/
import Derived.Test.YtgggklfbhmlapaaZBlockBack3
import Derived.Test.YtgggklfbhmlapaaChecked
import Derived.KernelRfl
import Derived.Test.YtgggklfbhmlapaaRows
import Derived.WalkKit
import Derived.ProofKit
import Derived.OpenShut
import Derived.ShutString
import Derived.ChangeOld
import Derived.Below
import Derived.SizedLaws
import Derived.Carry
set_option linter.unusedVariables false
set_option linter.unusedSimpArgs false
set_option maxRecDepth 100000
open Go renaming undef → zh
open Go.Proofs.Try renaming prog → zi
open Nat renaming reduceEqDiff → zk
open Int renaming reduceEq → zn
open Int renaming reduceLT → zo
open Int renaming reduceLE → zq
namespace Go.Proofs.Ytgggklfbhmlapaa
open Go.Abs
abbrev zA.id:FuncId:=34
noncomputable def zA.jm:Code:=(.seq (.region 6 (reg Try.f34 6) false) (.seq (.cond (.tmp 35) Code.skip (.exit 0)) (.seq (.block 1 (.seq (.region 7 (reg Try.f34 7) false) (.seq (.seq (.region 8 (reg Try.f34 8) false) (.cond (.tmp 43) (.seq (.region 9 (reg Try.f34 9) false) Code.ret) Code.skip)) (.seq (.region 10 (reg Try.f34 10) false) (.region 11 (reg Try.f34 11) false))))) (.region 12 (reg Try.f34 12) false))))
noncomputable def zA.code:Code:=(.seq (.region 0 (reg Try.f34 0) false) (.seq (.region 1 (reg Try.f34 1) false) (.seq (.seq (.region 2 (reg Try.f34 2) false) (.cond (.tmp 30) (.seq (.region 3 (reg Try.f34 3) false) Code.ret) Code.skip)) (.seq (.region 4 (reg Try.f34 4) false) (.seq (.seq (.region 5 (reg Try.f34 5) false) (.block 0 (.loop zA.jm))) (.seq (.seq (.region 13 (reg Try.f34 13) false) (.cond (.tmp 57) (.seq (.region 14 (reg Try.f34 14) false) Code.ret) Code.skip)) (.seq (.region 15 (reg Try.f34 15) false) Code.ret)))))))
theorem zA.body:Try.f34.body=some zA.code:=by kernel_rfl
theorem zA.eta {T:List Value} (h:T.length=59):T=[T.getD 0 zh,T.getD 1 zh,T.getD 2 zh,T.getD 3 zh,T.getD 4 zh,T.getD 5 zh,T.getD 6 zh,T.getD 7 zh,T.getD 8 zh,T.getD 9 zh,T.getD 10 zh,T.getD 11 zh,T.getD 12 zh,T.getD 13 zh,T.getD 14 zh,T.getD 15 zh,T.getD 16 zh,T.getD 17 zh,T.getD 18 zh,T.getD 19 zh,T.getD 20 zh,T.getD 21 zh,T.getD 22 zh,T.getD 23 zh,T.getD 24 zh,T.getD 25 zh,T.getD 26 zh,T.getD 27 zh,T.getD 28 zh,T.getD 29 zh,T.getD 30 zh,T.getD 31 zh,T.getD 32 zh,T.getD 33 zh,T.getD 34 zh,T.getD 35 zh,T.getD 36 zh,T.getD 37 zh,T.getD 38 zh,T.getD 39 zh,T.getD 40 zh,T.getD 41 zh,T.getD 42 zh,T.getD 43 zh,T.getD 44 zh,T.getD 45 zh,T.getD 46 zh,T.getD 47 zh,T.getD 48 zh,T.getD 49 zh,T.getD 50 zh,T.getD 51 zh,T.getD 52 zh,T.getD 53 zh,T.getD 54 zh,T.getD 55 zh,T.getD 56 zh,T.getD 57 zh,T.getD 58 zh]:=(y7 T 59 h).trans (by kernel_rfl)
variable (x0 x1 x2 x3 x4 x5 x6 x7 x8 x9 a d f g i k l m n o p q r s t u w x y z A B C b c D E F G H I J K L M N P Q R U V W X Y Z a0 a1 a2 a3:Value) (S:zx)
theorem zA.r0 :jl zi ⟨false,false,false⟩ (zU zi O) (reg Try.f34 0) (reg Try.f34 0).toList ([x0,x1,x2,x3,x4,x5,x6,x7,x8,x9,a,d,f,g,i,k,l,m,n,o,p,q,r,s,t,u,w,x,y,z,A,B,C,b,c,D,E,F,G,H,I,J,K,L,M,N,P,Q,R,U,V,W,X,Y,Z,a0,a1,a2,a3]) S =
  ( some ([x0,x1,Value.slice none 0 0,.int .i64 0,x4,x5,x6,x7,x8,x9,a,d,f,g,i,k,l,m,n,o,p,q,r,s,t,u,w,x,y,z,A,B,C,b,c,D,E,F,G,H,I,J,K,L,M,N,P,Q,R,U,V,W,X,Y,Z,a0,a1,a2,a3],S)):=by
 kernel_rfl
theorem zA.r1 :jl zi ⟨false,false,false⟩ (zU zi O) (reg Try.f34 1) (reg Try.f34 1).toList ([x0,x1,x2,x3,x4,x5,x6,x7,x8,x9,a,d,f,g,i,k,l,m,n,o,p,q,r,s,t,u,w,x,y,z,A,B,C,b,c,D,E,F,G,H,I,J,K,L,M,N,P,Q,R,U,V,W,X,Y,Z,a0,a1,a2,a3]) S =
  (zO ((zU zi O) 33 [(dem (dem x0)),(.int .i64 1)] S) (fun v1 S1=>zO (zG v1 0 S1) (fun v3 S2=>zO (zG (zL 0 v1) 1 S2) (fun v4 S3=>zO (zG (zL 1 (zL 0 v1)) 2 S3) (fun v5 S4=>some ([x0,x1,x2,x3,v3,v4,v5,x7,x8,x9,a,zL 2 (zL 1 (zL 0 v1)),dem x0,dem v1,dem v3,dem v4,dem v5,m,n,o,p,q,r,s,t,u,w,x,y,z,A,B,C,b,c,D,E,F,G,H,I,J,K,L,M,N,P,Q,R,U,V,W,X,Y,Z,a0,a1,a2,a3],S4)) ()) ()) ()) ()):=by
 kernel_rfl
theorem zA.r2 :jl zi ⟨false,false,false⟩ (zU zi O) (reg Try.f34 2) (reg Try.f34 2).toList ([x0,x1,x2,x3,x4,x5,x6,x7,x8,x9,a,d,f,g,i,k,l,m,n,o,p,q,r,s,t,u,w,x,y,z,A,B,C,b,c,D,E,F,G,H,I,J,K,L,M,N,P,Q,R,U,V,W,X,Y,Z,a0,a1,a2,a3]) S =
  (zO (wE zi BinOp.neq 34 (dem x6) (.int .i64 0) S) (fun v1 S1=>gdK (dem v1) false (ret x4) S1 (fun v3 S2=>gdK (dem v1) false (zV zi 53 (dem v3) (.int .i64 0)) S2 (fun v4 S3=>gdK (dem v1) false (zZ zi false 3 v4) S3 (fun v5 S4=>gdK (dem v1) false (wE zi BinOp.lss 3 v5 (.int .i64 0)) S4 (fun v6 S5=>zO (yX (dem v1) (Value.bool true) v6 S5) (fun v7 S6=>gdK (dem v7) false (ret x4) S6 (fun v9 S7=>gdK (dem v7) false (zV zi 53 (dem v9) (.int .i64 0)) S7 (fun a4 S8=>gdK (dem v7) false (zZ zi false 3 a4) S8 (fun a5 S9=>gdK (dem v7) false (wE zi BinOp.gtr 3 a5 (.int .i64 3)) S9 (fun a6 a7=>zO (yX (dem v7) (Value.bool true) a6 a7) (fun a8 a9=>some ([x0,x1,x2,x3,x4,x5,x6,x7,x8,x9,a,d,f,g,i,k,l,dem x6,v1,dem v1,dem v3,v4,v5,v6,v7,dem v7,dem v9,a4,a5,a6,a8,B,C,b,c,D,E,F,G,H,I,J,K,L,M,N,P,Q,R,U,V,W,X,Y,Z,a0,a1,a2,a3],a9)) ()) ()) ()) ()) ()) ()) ()) ()) ()) ()) ()):=by
 refine sP Try.f34 2 0 (v:=x6) ?_
 refine sD Try.f34 2 1 (fun v1 S1=>?_)
 refine sP Try.f34 2 2 (v:=v1) ?_
 refine sG Try.f34 2 3 (j:=2) (fun v3 S2=>?_)
 refine sG Try.f34 2 4 (j:=2) (fun v4 S3=>?_)
 refine sG Try.f34 2 5 (j:=2) (fun v5 S4=>?_)
 refine sG Try.f34 2 6 (j:=2) (fun v6 S5=>?_)
 refine sD Try.f34 2 7 (fun v7 S6=>?_)
 refine sP Try.f34 2 8 (v:=v7) ?_
 refine sG Try.f34 2 9 (j:=8) (fun v9 S7=>?_)
 refine sG Try.f34 2 10 (j:=8) (fun a4 S8=>?_)
 refine sG Try.f34 2 11 (j:=8) (fun a5 S9=>?_)
 refine sG Try.f34 2 12 (j:=8) (fun a6 a7=>?_)
 refine sD Try.f34 2 13 (fun a8 a9=>?_)
 kernel_rfl
theorem zA.r3 :jl zi ⟨false,false,false⟩ (zU zi O) (reg Try.f34 3) (reg Try.f34 3).toList ([x0,x1,x2,x3,x4,x5,x6,x7,x8,x9,a,d,f,g,i,k,l,m,n,o,p,q,r,s,t,u,w,x,y,z,A,B,C,b,c,D,E,F,G,H,I,J,K,L,M,N,P,Q,R,U,V,W,X,Y,Z,a0,a1,a2,a3]) S =
  ( some ([x0,x1,Value.slice none 0 0,.int .i64 61,x4,x5,x6,x7,x8,x9,a,d,f,g,i,k,l,m,n,o,p,q,r,s,t,u,w,x,y,z,A,B,C,b,c,D,E,F,G,H,I,J,K,L,M,N,P,Q,R,U,V,W,X,Y,Z,a0,a1,a2,a3],S)):=by
 kernel_rfl
theorem zA.r4 :jl zi ⟨false,false,false⟩ (zU zi O) (reg Try.f34 4) (reg Try.f34 4).toList ([x0,x1,x2,x3,x4,x5,x6,x7,x8,x9,a,d,f,g,i,k,l,m,n,o,p,q,r,s,t,u,w,x,y,z,A,B,C,b,c,D,E,F,G,H,I,J,K,L,M,N,P,Q,R,U,V,W,X,Y,Z,a0,a1,a2,a3]) S =
  ( some ([x0,x1,x2,x3,x4,x5,x6,Value.slice none 0 0,x8,x9,a,d,f,g,i,k,l,m,n,o,p,q,r,s,t,u,w,x,y,z,A,B,C,b,c,D,E,F,G,H,I,J,K,L,M,N,P,Q,R,U,V,W,X,Y,Z,a0,a1,a2,a3],S)):=by
 kernel_rfl
theorem zA.r5 :jl zi ⟨false,false,false⟩ (zU zi O) (reg Try.f34 5) (reg Try.f34 5).toList ([x0,x1,x2,x3,x4,x5,x6,x7,x8,x9,a,d,f,g,i,k,l,m,n,o,p,q,r,s,t,u,w,x,y,z,A,B,C,b,c,D,E,F,G,H,I,J,K,L,M,N,P,Q,R,U,V,W,X,Y,Z,a0,a1,a2,a3]) S =
  (zO (zV zi 53 (dem x4) (.int .i64 0) S) (fun v1 S1=>zO (zZ zi false 3 v1 S1) (fun v2 S2=>some ([x0,x1,x2,x3,x4,x5,x6,x7,x8,x9,a,d,f,g,i,k,l,m,n,o,p,q,r,s,t,u,w,x,y,z,A,dem x4,v1,v2,.int .i64 0,D,E,F,G,H,I,J,K,L,M,N,P,Q,R,U,V,W,X,Y,Z,a0,a1,a2,a3],S2)) ()) ()):=by
 kernel_rfl
theorem zA.r6 :jl zi ⟨false,false,false⟩ (zU zi O) (reg Try.f34 6) (reg Try.f34 6).toList ([x0,x1,x2,x3,x4,x5,x6,x7,x8,x9,a,d,f,g,i,k,l,m,n,o,p,q,r,s,t,u,w,x,y,z,A,B,C,b,c,D,E,F,G,H,I,J,K,L,M,N,P,Q,R,U,V,W,X,Y,Z,a0,a1,a2,a3]) S =
  (zO (wE zi BinOp.lss 3 c b S) (fun v0 S1=>some ([x0,x1,x2,x3,x4,x5,x6,x7,x8,x9,a,d,f,g,i,k,l,m,n,o,p,q,r,s,t,u,w,x,y,z,A,B,C,b,c,v0,E,F,G,H,I,J,K,L,M,N,P,Q,R,U,V,W,X,Y,Z,a0,a1,a2,a3],S1)) ()):=by
 kernel_rfl
theorem zA.r7 :jl zi ⟨false,false,false⟩ (zU zi O) (reg Try.f34 7) (reg Try.f34 7).toList ([x0,x1,x2,x3,x4,x5,x6,x7,x8,x9,a,d,f,g,i,k,l,m,n,o,p,q,r,s,t,u,w,x,y,z,A,B,C,b,c,D,E,F,G,H,I,J,K,L,M,N,P,Q,R,U,V,W,X,Y,Z,a0,a1,a2,a3]) S =
  (zO ((zU zi O) 45 [(dem (dem x5))] S) (fun v1 S1=>zO (zG v1 0 S1) (fun v3 S2=>zO (zG (zL 0 v1) 1 S2) (fun v4 S3=>zO (zG (zL 1 (zL 0 v1)) 2 S3) (fun v5 S4=>zO (yU zi 47 S4) (fun v6 S5=>zO (wQ zi 47 v6 (dem v3) S5) (fun v7 S6=>some ([x0,x1,x2,x3,x4,x5,x6,x7,v6,v4,v5,d,f,g,i,k,l,m,n,o,p,q,r,s,t,u,w,x,y,z,A,B,C,b,c,D,zL 2 (zL 1 (zL 0 v1)),dem x5,dem v1,v3,dem v4,dem v5,K,L,M,N,P,Q,R,U,V,W,X,Y,Z,a0,a1,a2,a3],S6)) ()) ()) ()) ()) ()) ()):=by
 kernel_rfl
theorem zA.r8 :jl zi ⟨false,false,false⟩ (zU zi O) (reg Try.f34 8) (reg Try.f34 8).toList ([x0,x1,x2,x3,x4,x5,x6,x7,x8,x9,a,d,f,g,i,k,l,m,n,o,p,q,r,s,t,u,w,x,y,z,A,B,C,b,c,D,E,F,G,H,I,J,K,L,M,N,P,Q,R,U,V,W,X,Y,Z,a0,a1,a2,a3]) S =
  (zO (aUn zi UnOp.not (dem a) S) (fun v1 S1=>some ([x0,x1,x2,x3,x4,x5,x6,x7,x8,x9,a,d,f,g,i,k,l,m,n,o,p,q,r,s,t,u,w,x,y,z,A,B,C,b,c,D,E,F,G,H,I,J,dem a,v1,M,N,P,Q,R,U,V,W,X,Y,Z,a0,a1,a2,a3],S1)) ()):=by
 kernel_rfl
theorem zA.r9 :jl zi ⟨false,false,false⟩ (zU zi O) (reg Try.f34 9) (reg Try.f34 9).toList ([x0,x1,x2,x3,x4,x5,x6,x7,x8,x9,a,d,f,g,i,k,l,m,n,o,p,q,r,s,t,u,w,x,y,z,A,B,C,b,c,D,E,F,G,H,I,J,K,L,M,N,P,Q,R,U,V,W,X,Y,Z,a0,a1,a2,a3]) S =
  ( some ([x0,x1,Value.slice none 0 0,.int .i64 61,x4,x5,x6,x7,x8,x9,a,d,f,g,i,k,l,m,n,o,p,q,r,s,t,u,w,x,y,z,A,B,C,b,c,D,E,F,G,H,I,J,K,L,M,N,P,Q,R,U,V,W,X,Y,Z,a0,a1,a2,a3],S)):=by
 kernel_rfl
theorem zA.r10 :jl zi ⟨false,false,false⟩ (zU zi O) (reg Try.f34 10) (reg Try.f34 10).toList ([x0,x1,x2,x3,x4,x5,x6,x7,x8,x9,a,d,f,g,i,k,l,m,n,o,p,q,r,s,t,u,w,x,y,z,A,B,C,b,c,D,E,F,G,H,I,J,K,L,M,N,P,Q,R,U,V,W,X,Y,Z,a0,a1,a2,a3]) S =
  (zO (zZ zi false 47 x8 S) (fun v1 S1=>zO (jI zi 27 1 [(0,v1)] S1) (fun v2 S2=>zO (wu zi 27 27 x7 v2 S2) (fun v3 S3=>some ([x0,x1,x2,x3,x4,x5,x6,v3,x8,x9,a,d,f,g,i,k,l,m,n,o,p,q,r,s,t,u,w,x,y,z,A,B,C,b,c,D,E,F,G,H,I,J,K,L,dem x7,v1,v2,dem v3,R,U,V,W,X,Y,Z,a0,a1,a2,a3],S3)) ()) ()) ()):=by
 kernel_rfl
theorem zA.r11 :jl zi ⟨false,false,false⟩ (zU zi O) (reg Try.f34 11) (reg Try.f34 11).toList ([x0,x1,x2,x3,x4,x5,x6,x7,x8,x9,a,d,f,g,i,k,l,m,n,o,p,q,r,s,t,u,w,x,y,z,A,B,C,b,c,D,E,F,G,H,I,J,K,L,M,N,P,Q,R,U,V,W,X,Y,Z,a0,a1,a2,a3]) S =
  ( some ([x0,x1,x2,x3,x4,x9,x6,x7,x8,dem x9,a,d,f,g,i,k,l,m,n,o,p,q,r,s,t,u,w,x,y,z,A,B,C,b,c,D,E,F,G,H,I,J,K,L,M,N,P,Q,dem x9,U,V,W,X,Y,Z,a0,a1,a2,a3],S)):=by
 kernel_rfl
theorem zA.r12 :jl zi ⟨false,false,false⟩ (zU zi O) (reg Try.f34 12) (reg Try.f34 12).toList ([x0,x1,x2,x3,x4,x5,x6,x7,x8,x9,a,d,f,g,i,k,l,m,n,o,p,q,r,s,t,u,w,x,y,z,A,B,C,b,c,D,E,F,G,H,I,J,K,L,M,N,P,Q,R,U,V,W,X,Y,Z,a0,a1,a2,a3]) S =
  (zO (wE zi BinOp.add 3 c (.int .i64 1) S) (fun v0 S1=>some ([x0,x1,x2,x3,x4,x5,x6,x7,x8,x9,a,d,f,g,i,k,l,m,n,o,p,q,r,s,t,u,w,x,y,z,A,B,C,b,dem v0,D,E,F,G,H,I,J,K,L,M,N,P,Q,R,v0,V,W,X,Y,Z,a0,a1,a2,a3],S1)) ()):=by
 kernel_rfl
theorem zA.r13 :jl zi ⟨false,false,false⟩ (zU zi O) (reg Try.f34 13) (reg Try.f34 13).toList ([x0,x1,x2,x3,x4,x5,x6,x7,x8,x9,a,d,f,g,i,k,l,m,n,o,p,q,r,s,t,u,w,x,y,z,A,B,C,b,c,D,E,F,G,H,I,J,K,L,M,N,P,Q,R,U,V,W,X,Y,Z,a0,a1,a2,a3]) S =
  (zO (Jc zi 33 (dem x5) S) (fun v1 S1=>zO (wE zi BinOp.gtr 3 v1 (.int .i64 0) S1) (fun v2 S2=>gdK (dem v2) false (ret x7) S2 (fun v4 S3=>gdK (dem v2) false ((zU zi O) 38 [(dem (dem v4))]) S3 (fun v5 S4=>gdK (dem v2) false (aUn zi UnOp.not v5) S4 (fun v6 S5=>zO (yX (dem v2) (Value.bool true) v6 S5) (fun v7 S6=>some ([x0,x1,x2,x3,x4,x5,x6,x7,x8,x9,a,d,f,g,i,k,l,m,n,o,p,q,r,s,t,u,w,x,y,z,A,B,C,b,c,D,E,F,G,H,I,J,K,L,M,N,P,Q,R,U,dem x5,v1,v2,dem v2,dem v4,v5,v6,v7,a3],S6)) ()) ()) ()) ()) ()) ()):=by
 refine sP Try.f34 13 0 (v:=x5) ?_
 refine sD Try.f34 13 1 (fun v1 S1=>?_)
 refine sD Try.f34 13 2 (fun v2 S2=>?_)
 refine sP Try.f34 13 3 (v:=v2) ?_
 refine sG Try.f34 13 4 (j:=3) (fun v4 S3=>?_)
 refine sG Try.f34 13 5 (j:=3) (fun v5 S4=>?_)
 refine sG Try.f34 13 6 (j:=3) (fun v6 S5=>?_)
 refine sD Try.f34 13 7 (fun v7 S6=>?_)
 kernel_rfl
theorem zA.r14 :jl zi ⟨false,false,false⟩ (zU zi O) (reg Try.f34 14) (reg Try.f34 14).toList ([x0,x1,x2,x3,x4,x5,x6,x7,x8,x9,a,d,f,g,i,k,l,m,n,o,p,q,r,s,t,u,w,x,y,z,A,B,C,b,c,D,E,F,G,H,I,J,K,L,M,N,P,Q,R,U,V,W,X,Y,Z,a0,a1,a2,a3]) S =
  ( some ([x0,x1,Value.slice none 0 0,.int .i64 61,x4,x5,x6,x7,x8,x9,a,d,f,g,i,k,l,m,n,o,p,q,r,s,t,u,w,x,y,z,A,B,C,b,c,D,E,F,G,H,I,J,K,L,M,N,P,Q,R,U,V,W,X,Y,Z,a0,a1,a2,a3],S)):=by
 kernel_rfl
theorem zA.r15 :jl zi ⟨false,false,false⟩ (zU zi O) (reg Try.f34 15) (reg Try.f34 15).toList ([x0,x1,x2,x3,x4,x5,x6,x7,x8,x9,a,d,f,g,i,k,l,m,n,o,p,q,r,s,t,u,w,x,y,z,A,B,C,b,c,D,E,F,G,H,I,J,K,L,M,N,P,Q,R,U,V,W,X,Y,Z,a0,a1,a2,a3]) S =
  ( some ([x0,x1,x7,.int .i64 0,x4,x5,x6,dem x7,x8,x9,a,d,f,g,i,k,l,m,n,o,p,q,r,s,t,u,w,x,y,z,A,B,C,b,c,D,E,F,G,H,I,J,K,L,M,N,P,Q,R,U,V,W,X,Y,Z,a0,a1,a2,dem x7],S)):=by
 kernel_rfl
theorem zA.rs:type_of% (ahs @zA.r0 (ahs @zA.r1 (ahs @zA.r2 (ahs @zA.r3 (ahs @zA.r4 (ahs @zA.r5 (ahs @zA.r6 (ahs @zA.r7 (ahs @zA.r8 (ahs @zA.r9 (ahs @zA.r10 (ahs @zA.r11 (ahs @zA.r12 (ahs @zA.r13 (ahs @zA.r14 (@zA.r15)))))))))))))))):=ahs @zA.r0 (ahs @zA.r1 (ahs @zA.r2 (ahs @zA.r3 (ahs @zA.r4 (ahs @zA.r5 (ahs @zA.r6 (ahs @zA.r7 (ahs @zA.r8 (ahs @zA.r9 (ahs @zA.r10 (ahs @zA.r11 (ahs @zA.r12 (ahs @zA.r13 (ahs @zA.r14 (@zA.r15)))))))))))))))
theorem zA.runs {x0:Value} {S S1:zx} {e:AEx} {T:List Value} (h:zD zi O false zA.code ([x0,zh,zh,zh,zh,zh,zh,zh,zh,zh,zh,zh,zh,zh,zh,zh,zh,zh,zh,zh,zh,zh,zh,zh,zh,zh,zh,zh,zh,zh,zh,zh,zh,zh,zh,zh,zh,zh,zh,zh,zh,zh,zh,zh,zh,zh,zh,zh,zh,zh,zh,zh,zh,zh,zh,zh,zh,zh,zh]) zx.empty=some (e,T,S1)) (he:e=.normal∨e=.ret)  (h0:jG (T.getD 2 zh)=true) (h1:jG (T.getD 3 zh)=true) (hca:[x0].all (zX 16)=true) (hcv:zX 16 (Value.tuple #[T.getD 2 zh,T.getD 3 zh])=true):zU zi O 34 [x0] S=some (Value.tuple #[T.getD 2 zh,T.getD 3 zh],S) :=
 yK rfl rfl Try.func34 (by decide) zA.body (by exact h) he ((qh ((show zJ zi T S1 Try.f34.results.toList=zJ zi T S1 [(ResultVar.tmp 2),(ResultVar.tmp 3)] from by kernel_rfl).trans (by simp only [zJ])) (by kernel_rfl) (by simp only [List.all_cons,List.all_nil,h0,h1,Bool.and_true])).trans rfl) hca hcv
end Go.Proofs.Ytgggklfbhmlapaa
namespace Go.Proofs.Ytgggklfbhmlapaa
open Go.Abs
abbrev slices_Equal.id:FuncId:=31
noncomputable def slices_Equal.jm:Code:=(.seq (.region 4 (reg Try.f31 4) false) (.seq (.cond (.tmp 14) Code.skip (.exit 0)) (.seq (.block 1 (.seq (.region 5 (reg Try.f31 5) false) (.seq (.region 6 (reg Try.f31 6) true) (.cond (.tmp 24) (.seq (.region 7 (reg Try.f31 7) false) Code.ret) Code.skip)))) (.region 8 (reg Try.f31 8) false))))
noncomputable def slices_Equal.code:Code:=(.seq (.region 0 (reg Try.f31 0) false) (.seq (.seq (.region 1 (reg Try.f31 1) false) (.cond (.tmp 10) (.seq (.region 2 (reg Try.f31 2) false) Code.ret) Code.skip)) (.seq (.seq (.region 3 (reg Try.f31 3) false) (.block 0 (.loop slices_Equal.jm))) (.seq (.region 9 (reg Try.f31 9) false) Code.ret))))
theorem slices_Equal.body:Try.f31.body=some slices_Equal.code:=by kernel_rfl
theorem slices_Equal.eta {T:List Value} (h:T.length=26):T=[T.getD 0 zh,T.getD 1 zh,T.getD 2 zh,T.getD 3 zh,T.getD 4 zh,T.getD 5 zh,T.getD 6 zh,T.getD 7 zh,T.getD 8 zh,T.getD 9 zh,T.getD 10 zh,T.getD 11 zh,T.getD 12 zh,T.getD 13 zh,T.getD 14 zh,T.getD 15 zh,T.getD 16 zh,T.getD 17 zh,T.getD 18 zh,T.getD 19 zh,T.getD 20 zh,T.getD 21 zh,T.getD 22 zh,T.getD 23 zh,T.getD 24 zh,T.getD 25 zh]:=(y7 T 26 h).trans (by kernel_rfl)
variable (d u x y D w z A B C f g c b i j k l m n o p q r s t:Value) (S:zx)
theorem slices_Equal.r0 :jl zi ⟨false,false,false⟩ (zU zi O) (reg Try.f31 0) (reg Try.f31 0).toList ([d,u,x,y,D,w,z,A,B,C,f,g,c,b,i,j,k,l,m,n,o,p,q,r,s,t]) S =
  ( some ([d,u,x,y,Value.bool false,w,z,A,B,C,f,g,c,b,i,j,k,l,m,n,o,p,q,r,s,t],S)):=by
 kernel_rfl
theorem slices_Equal.r1 :jl zi ⟨false,false,false⟩ (zU zi O) (reg Try.f31 1) (reg Try.f31 1).toList ([d,u,x,y,D,w,z,A,B,C,f,g,c,b,i,j,k,l,m,n,o,p,q,r,s,t]) S =
  (zO (Jc zi 27 (dem d) S) (fun G E=>zO (Jc zi 27 (dem u) E) (fun F H=>zO (wE zi BinOp.neq 3 G F H) (fun R I=>some ([d,u,x,y,D,w,dem d,G,dem u,F,R,g,c,b,i,j,k,l,m,n,o,p,q,r,s,t],I)) ()) ()) ()):=by
 kernel_rfl
theorem slices_Equal.r2 :jl zi ⟨false,false,false⟩ (zU zi O) (reg Try.f31 2) (reg Try.f31 2).toList ([d,u,x,y,D,w,z,A,B,C,f,g,c,b,i,j,k,l,m,n,o,p,q,r,s,t]) S =
  ( some ([d,u,x,y,Value.bool false,w,z,A,B,C,f,g,c,b,i,j,k,l,m,n,o,p,q,r,s,t],S)):=by
 kernel_rfl
theorem slices_Equal.r3 :jl zi ⟨false,false,false⟩ (zU zi O) (reg Try.f31 3) (reg Try.f31 3).toList ([d,u,x,y,D,w,z,A,B,C,f,g,c,b,i,j,k,l,m,n,o,p,q,r,s,t]) S =
  (zO (Jc zi 27 (dem d) S) (fun G E=>some ([d,u,x,y,D,w,z,A,B,C,f,dem d,G,.int .i64 0,i,j,k,l,m,n,o,p,q,r,s,t],E)) ()):=by
 kernel_rfl
theorem slices_Equal.r4 :jl zi ⟨false,false,false⟩ (zU zi O) (reg Try.f31 4) (reg Try.f31 4).toList ([d,u,x,y,D,w,z,A,B,C,f,g,c,b,i,j,k,l,m,n,o,p,q,r,s,t]) S =
  (zO (wE zi BinOp.lss 3 b c S) (fun J E=>some ([d,u,x,y,D,w,z,A,B,C,f,g,c,b,J,j,k,l,m,n,o,p,q,r,s,t],E)) ()):=by
 kernel_rfl
theorem slices_Equal.r5 :jl zi ⟨false,false,false⟩ (zU zi O) (reg Try.f31 5) (reg Try.f31 5).toList ([d,u,x,y,D,w,z,A,B,C,f,g,c,b,i,j,k,l,m,n,o,p,q,r,s,t]) S =
  ( some ([d,u,x,y,D,b,z,A,B,C,f,g,c,dem b,i,dem b,k,l,m,n,o,p,q,r,s,t],S)):=by
 kernel_rfl
theorem slices_Equal.d6:qY zi (reg Try.f31 6)=true:=by kernel_rfl
theorem slices_Equal.ff6:fixed zi (reg Try.f31 6)=false:=by kernel_rfl
theorem slices_Equal.k6:checked zi (reg Try.f31 6)=[]:=by kernel_rfl
theorem slices_Equal.g6:again zi (reg Try.f31 6)=[]:=by kernel_rfl
theorem slices_Equal.r6 :zD zi O false (.region 6 (reg Try.f31 6) true) ([d,u,x,y,D,w,z,A,B,C,f,g,c,b,i,j,k,l,m,n,o,p,q,r,s,t]) S =
  Q9 (zO (zV zi 27 (dem d) (dem w) S) (fun K E=>zO (zZ zi false 47 K E) (fun F H=>zO (zV zi 27 (dem u) (dem w) H) (fun L I=>zO (zZ zi false 47 L I) (fun M N=>zO (wE zi BinOp.neq 47 F M N) (fun P Q=>some ([d,u,x,y,D,w,z,A,B,C,f,g,c,b,i,j,dem d,dem w,K,F,dem u,dem w,L,M,P,t],Q)) ()) ()) ()) ()) ()):=by
 rw [kJ slices_Equal.d6 slices_Equal.ff6 slices_Equal.k6 slices_Equal.g6]
 refine congrArg Q9 ?_
 refine tP Try.f31 6 0 (v:=d) ?_
 refine tP Try.f31 6 1 (v:=w) ?_
 refine tD Try.f31 6 2 (fun K E=>?_)
 refine tD Try.f31 6 3 (fun F H=>?_)
 refine tP Try.f31 6 4 (v:=u) ?_
 refine tP Try.f31 6 5 (v:=w) ?_
 refine tD Try.f31 6 6 (fun L I=>?_)
 refine tD Try.f31 6 7 (fun M N=>?_)
 refine tD Try.f31 6 8 (fun P Q=>?_)
 kernel_rfl
theorem slices_Equal.r7 :jl zi ⟨false,false,false⟩ (zU zi O) (reg Try.f31 7) (reg Try.f31 7).toList ([d,u,x,y,D,w,z,A,B,C,f,g,c,b,i,j,k,l,m,n,o,p,q,r,s,t]) S =
  ( some ([d,u,x,y,Value.bool false,w,z,A,B,C,f,g,c,b,i,j,k,l,m,n,o,p,q,r,s,t],S)):=by
 kernel_rfl
theorem slices_Equal.r8 :jl zi ⟨false,false,false⟩ (zU zi O) (reg Try.f31 8) (reg Try.f31 8).toList ([d,u,x,y,D,w,z,A,B,C,f,g,c,b,i,j,k,l,m,n,o,p,q,r,s,t]) S =
  (zO (wE zi BinOp.add 3 b (.int .i64 1) S) (fun J E=>some ([d,u,x,y,D,w,z,A,B,C,f,g,c,dem J,i,j,k,l,m,n,o,p,q,r,s,J],E)) ()):=by
 kernel_rfl
theorem slices_Equal.r9 :jl zi ⟨false,false,false⟩ (zU zi O) (reg Try.f31 9) (reg Try.f31 9).toList ([d,u,x,y,D,w,z,A,B,C,f,g,c,b,i,j,k,l,m,n,o,p,q,r,s,t]) S =
  ( some ([d,u,x,y,Value.bool true,w,z,A,B,C,f,g,c,b,i,j,k,l,m,n,o,p,q,r,s,t],S)):=by
 kernel_rfl
theorem slices_Equal.rs:type_of% (ahs @slices_Equal.r0 (ahs @slices_Equal.r1 (ahs @slices_Equal.r2 (ahs @slices_Equal.r3 (ahs @slices_Equal.r4 (ahs @slices_Equal.r5 (ahs @slices_Equal.r6 (ahs @slices_Equal.r7 (ahs @slices_Equal.r8 (@slices_Equal.r9)))))))))):=ahs @slices_Equal.r0 (ahs @slices_Equal.r1 (ahs @slices_Equal.r2 (ahs @slices_Equal.r3 (ahs @slices_Equal.r4 (ahs @slices_Equal.r5 (ahs @slices_Equal.r6 (ahs @slices_Equal.r7 (ahs @slices_Equal.r8 (@slices_Equal.r9)))))))))
theorem slices_Equal.runs {d u:Value} {S E:zx} {e:AEx} {T:List Value} (h:zD zi O false slices_Equal.code ([d,u,zh,zh,zh,zh,zh,zh,zh,zh,zh,zh,zh,zh,zh,zh,zh,zh,zh,zh,zh,zh,zh,zh,zh,zh]) S=some (e,T,E)) (he:e=.normal∨e=.ret):zU zi O 31 [d,u] S=some (T.getD 4 zh,E) :=
 yD rfl rfl Try.func31 (by decide) slices_Equal.body (by exact h) he (yP (a:=T.getD 4 zh) ((show zJ zi T E Try.f31.results.toList=zJ zi T E [(ResultVar.tmp 4)] from by kernel_rfl).trans (by simp only [zJ])) (by kernel_rfl))
end Go.Proofs.Ytgggklfbhmlapaa
namespace Go.Proofs.Ytgggklfbhmlapaa
open Go.Abs
abbrev zH.id:FuncId:=38
noncomputable def zH.jm:Code:=(.seq (.region 3 (reg Try.f38 3) false) (.seq (.cond (.tmp 10) Code.skip (.exit 0)) (.seq (.block 1 (.seq (.region 4 (reg Try.f38 4) false) (.seq (.seq (.region 5 (reg Try.f38 5) false) (.cond (.tmp 16) (.seq (.region 6 (reg Try.f38 6) false) Code.ret) Code.skip)) (.region 7 (reg Try.f38 7) false)))) (.region 8 (reg Try.f38 8) false))))
noncomputable def zH.code:Code:=(.seq (.region 0 (reg Try.f38 0) false) (.seq (.region 1 (reg Try.f38 1) false) (.seq (.seq (.region 2 (reg Try.f38 2) false) (.block 0 (.loop zH.jm))) (.seq (.region 9 (reg Try.f38 9) false) Code.ret))))
theorem zH.body:Try.f38.body=some zH.code:=by kernel_rfl
theorem zH.eta {T:List Value} (h:T.length=24):T=[T.getD 0 zh,T.getD 1 zh,T.getD 2 zh,T.getD 3 zh,T.getD 4 zh,T.getD 5 zh,T.getD 6 zh,T.getD 7 zh,T.getD 8 zh,T.getD 9 zh,T.getD 10 zh,T.getD 11 zh,T.getD 12 zh,T.getD 13 zh,T.getD 14 zh,T.getD 15 zh,T.getD 16 zh,T.getD 17 zh,T.getD 18 zh,T.getD 19 zh,T.getD 20 zh,T.getD 21 zh,T.getD 22 zh,T.getD 23 zh]:=(y7 T 24 h).trans (by kernel_rfl)
variable (r v B s w t z x y u b c d f g i j k l m n o p q:Value) (S:zx)
theorem zH.r0 :jl zi ⟨false,false,false⟩ (zU zi O) (reg Try.f38 0) (reg Try.f38 0).toList ([r,v,B,s,w,t,z,x,y,u,b,c,d,f,g,i,j,k,l,m,n,o,p,q]) S =
  ( some ([r,v,Value.bool false,s,w,t,z,x,y,u,b,c,d,f,g,i,j,k,l,m,n,o,p,q],S)):=by
 kernel_rfl
theorem zH.r1 :jl zi ⟨false,false,false⟩ (zU zi O) (reg Try.f38 1) (reg Try.f38 1).toList ([r,v,B,s,w,t,z,x,y,u,b,c,d,f,g,i,j,k,l,m,n,o,p,q]) S =
  (zO (qJ zi 77 none S) (fun E A=>some ([r,v,B,E,w,t,dem E,x,y,u,b,c,d,f,g,i,j,k,l,m,n,o,p,q],A)) ()):=by
 kernel_rfl
theorem zH.r2 :jl zi ⟨false,false,false⟩ (zU zi O) (reg Try.f38 2) (reg Try.f38 2).toList ([r,v,B,s,w,t,z,x,y,u,b,c,d,f,g,i,j,k,l,m,n,o,p,q]) S =
  (zO (Jc zi 27 (dem r) S) (fun C A=>some ([r,v,B,s,w,t,z,dem r,C,.int .i64 0,b,c,d,f,g,i,j,k,l,m,n,o,p,q],A)) ()):=by
 kernel_rfl
theorem zH.r3 :jl zi ⟨false,false,false⟩ (zU zi O) (reg Try.f38 3) (reg Try.f38 3).toList ([r,v,B,s,w,t,z,x,y,u,b,c,d,f,g,i,j,k,l,m,n,o,p,q]) S =
  (zO (wE zi BinOp.lss 3 u y S) (fun E A=>some ([r,v,B,s,w,t,z,x,y,u,E,c,d,f,g,i,j,k,l,m,n,o,p,q],A)) ()):=by
 kernel_rfl
theorem zH.r4 :jl zi ⟨false,false,false⟩ (zU zi O) (reg Try.f38 4) (reg Try.f38 4).toList ([r,v,B,s,w,t,z,x,y,u,b,c,d,f,g,i,j,k,l,m,n,o,p,q]) S =
  (zO (zV zi 27 x u S) (fun E A=>zO (zZ zi false 47 E A) (fun C F=>zO (yU zi 47 F) (fun D G=>zO (wQ zi 47 D (dem C) G) (fun H I=>some ([r,v,B,s,w,D,z,x,y,u,b,E,C,f,g,i,j,k,l,m,n,o,p,q],I)) ()) ()) ()) ()):=by
 kernel_rfl
theorem zH.r5 :jl zi ⟨false,false,false⟩ (zU zi O) (reg Try.f38 5) (reg Try.f38 5).toList ([r,v,B,s,w,t,z,x,y,u,b,c,d,f,g,i,j,k,l,m,n,o,p,q]) S =
  (zO (zM zi 47 t 0 S) (fun C A=>zO (zZ zi false 3 C A) (fun D F=>zO (kQ zi false 77 (dem s) D false F) (fun H G=>some ([r,v,B,s,w,t,z,x,y,u,b,c,d,dem s,C,D,H,k,l,m,n,o,p,q],G)) ()) ()) ()):=by
 kernel_rfl
theorem zH.r6 :jl zi ⟨false,false,false⟩ (zU zi O) (reg Try.f38 6) (reg Try.f38 6).toList ([r,v,B,s,w,t,z,x,y,u,b,c,d,f,g,i,j,k,l,m,n,o,p,q]) S =
  ( some ([r,v,Value.bool false,s,w,t,z,x,y,u,b,c,d,f,g,i,j,k,l,m,n,o,p,q],S)):=by
 kernel_rfl
theorem zH.r7 :jl zi ⟨false,false,false⟩ (zU zi O) (reg Try.f38 7) (reg Try.f38 7).toList ([r,v,B,s,w,t,z,x,y,u,b,c,d,f,g,i,j,k,l,m,n,o,p,q]) S =
  (zO (zM zi 47 t 0 S) (fun C A=>zO (zZ zi false 3 C A) (fun D F=>zO (jU zi 77 (dem s) D (Value.bool true) F) (fun H G=>some ([r,v,B,s,w,t,z,x,y,u,b,c,d,f,g,i,j,dem s,C,D,n,o,p,q],G)) ()) ()) ()):=by
 kernel_rfl
theorem zH.r8 :jl zi ⟨false,false,false⟩ (zU zi O) (reg Try.f38 8) (reg Try.f38 8).toList ([r,v,B,s,w,t,z,x,y,u,b,c,d,f,g,i,j,k,l,m,n,o,p,q]) S =
  (zO (wE zi BinOp.add 3 u (.int .i64 1) S) (fun E A=>some ([r,v,B,s,w,t,z,x,y,dem E,b,c,d,f,g,i,j,k,l,m,E,o,p,q],A)) ()):=by
 kernel_rfl
theorem zH.r9 :jl zi ⟨false,false,false⟩ (zU zi O) (reg Try.f38 9) (reg Try.f38 9).toList ([r,v,B,s,w,t,z,x,y,u,b,c,d,f,g,i,j,k,l,m,n,o,p,q]) S =
  (zO (Jc zi 27 (dem r) S) (fun C A=>zO (wE zi BinOp.leq 3 C (.int .i64 3) A) (fun D F=>some ([r,v,D,s,w,t,z,x,y,u,b,c,d,f,g,i,j,k,l,m,n,dem r,C,dem D],F)) ()) ()):=by
 kernel_rfl
theorem zH.rs:type_of% (ahs @zH.r0 (ahs @zH.r1 (ahs @zH.r2 (ahs @zH.r3 (ahs @zH.r4 (ahs @zH.r5 (ahs @zH.r6 (ahs @zH.r7 (ahs @zH.r8 (@zH.r9)))))))))):=ahs @zH.r0 (ahs @zH.r1 (ahs @zH.r2 (ahs @zH.r3 (ahs @zH.r4 (ahs @zH.r5 (ahs @zH.r6 (ahs @zH.r7 (ahs @zH.r8 (@zH.r9)))))))))
theorem zH.runs {r:Value} {S A:zx} {e:AEx} {T:List Value} (h:zD zi O false zH.code ([r,zh,zh,zh,zh,zh,zh,zh,zh,zh,zh,zh,zh,zh,zh,zh,zh,zh,zh,zh,zh,zh,zh,zh]) zx.empty=some (e,T,A)) (he:e=.normal∨e=.ret) (hca:[r].all (zX 16)=true) (hcv:zX 16 (T.getD 2 zh)=true):zU zi O 38 [r] S=some (T.getD 2 zh,S) :=
 yK rfl rfl Try.func38 (by decide) zH.body (by exact h) he (yP (a:=T.getD 2 zh) ((show zJ zi T A Try.f38.results.toList=zJ zi T A [(ResultVar.tmp 2)] from by kernel_rfl).trans (by simp only [zJ])) (by kernel_rfl)) hca hcv
end Go.Proofs.Ytgggklfbhmlapaa
namespace Go.Proofs.Ytgggklfbhmlapaa
open Go.Abs
abbrev zN.id:FuncId:=27
noncomputable def zN.jm:Code:=(.seq (.region 5 (reg Try.f27 5) false) (.seq (.cond (.tmp 23) Code.skip (.exit 0)) (.seq (.block 1 (.seq (.region 6 (reg Try.f27 6) false) (.seq (.region 7 (reg Try.f27 7) false) (.seq (.seq (.region 8 (reg Try.f27 8) false) (.cond (.tmp 32) (.seq (.region 9 (reg Try.f27 9) false) Code.ret) Code.skip)) (.region 10 (reg Try.f27 10) false))))) (.region 11 (reg Try.f27 11) false))))
noncomputable def zN.code:Code:=(.seq (.region 0 (reg Try.f27 0) false) (.seq (.seq (.region 1 (reg Try.f27 1) false) (.cond (.tmp 12) (.seq (.region 2 (reg Try.f27 2) false) Code.ret) Code.skip)) (.seq (.region 3 (reg Try.f27 3) false) (.seq (.seq (.region 4 (reg Try.f27 4) false) (.block 0 (.loop zN.jm))) (.seq (.region 12 (reg Try.f27 12) false) Code.ret)))))
theorem zN.body:Try.f27.body=some zN.code:=by kernel_rfl
theorem zN.eta {T:List Value} (h:T.length=39):T=[T.getD 0 zh,T.getD 1 zh,T.getD 2 zh,T.getD 3 zh,T.getD 4 zh,T.getD 5 zh,T.getD 6 zh,T.getD 7 zh,T.getD 8 zh,T.getD 9 zh,T.getD 10 zh,T.getD 11 zh,T.getD 12 zh,T.getD 13 zh,T.getD 14 zh,T.getD 15 zh,T.getD 16 zh,T.getD 17 zh,T.getD 18 zh,T.getD 19 zh,T.getD 20 zh,T.getD 21 zh,T.getD 22 zh,T.getD 23 zh,T.getD 24 zh,T.getD 25 zh,T.getD 26 zh,T.getD 27 zh,T.getD 28 zh,T.getD 29 zh,T.getD 30 zh,T.getD 31 zh,T.getD 32 zh,T.getD 33 zh,T.getD 34 zh,T.getD 35 zh,T.getD 36 zh,T.getD 37 zh,T.getD 38 zh]:=(y7 T 39 h).trans (by kernel_rfl)
variable (F J N P H M K L I G d f g i j k l m n o b c a p q r s t u v w x y z A B C D E:Value) (S:zx)
theorem zN.r0 :jl zi ⟨false,false,false⟩ (zU zi O) (reg Try.f27 0) (reg Try.f27 0).toList ([F,J,N,P,H,M,K,L,I,G,d,f,g,i,j,k,l,m,n,o,b,c,a,p,q,r,s,t,u,v,w,x,y,z,A,B,C,D,E]) S =
  ( some ([F,J,Value.slice none 0 0,.int .i64 0,H,M,K,L,I,G,d,f,g,i,j,k,l,m,n,o,b,c,a,p,q,r,s,t,u,v,w,x,y,z,A,B,C,D,E],S)):=by
 kernel_rfl
theorem zN.r1 :jl zi ⟨false,false,false⟩ (zU zi O) (reg Try.f27 1) (reg Try.f27 1).toList ([F,J,N,P,H,M,K,L,I,G,d,f,g,i,j,k,l,m,n,o,b,c,a,p,q,r,s,t,u,v,w,x,y,z,A,B,C,D,E]) S =
  (zO ((zU zi O) 38 [(dem (dem F))] S) (fun R Q=>zO (aUn zi UnOp.not R Q) (fun U X=>some ([F,J,N,P,H,M,K,L,I,G,dem F,R,U,i,j,k,l,m,n,o,b,c,a,p,q,r,s,t,u,v,w,x,y,z,A,B,C,D,E],X)) ()) ()):=by
 kernel_rfl
theorem zN.r2 :jl zi ⟨false,false,false⟩ (zU zi O) (reg Try.f27 2) (reg Try.f27 2).toList ([F,J,N,P,H,M,K,L,I,G,d,f,g,i,j,k,l,m,n,o,b,c,a,p,q,r,s,t,u,v,w,x,y,z,A,B,C,D,E]) S =
  ( some ([F,J,Value.slice none 0 0,.int .i64 61,H,M,K,L,I,G,d,f,g,i,j,k,l,m,n,o,b,c,a,p,q,r,s,t,u,v,w,x,y,z,A,B,C,D,E],S)):=by
 kernel_rfl
theorem zN.r3 :jl zi ⟨false,false,false⟩ (zU zi O) (reg Try.f27 3) (reg Try.f27 3).toList ([F,J,N,P,H,M,K,L,I,G,d,f,g,i,j,k,l,m,n,o,b,c,a,p,q,r,s,t,u,v,w,x,y,z,A,B,C,D,E]) S =
  (zO (Jc zi 27 (dem F) S) (fun R Q=>zO (jI zi 53 1 [(0,R)] Q) (fun U X=>zO ((zU zi O) 28 [(dem U)] X) (fun W Y=>zO (zG W 0 Y) (fun v5 Z=>zO (zG (zL 0 W) 1 Z) (fun v6 S5=>some ([F,J,N,P,v5,v6,K,L,I,G,d,f,g,zL 1 (zL 0 W),dem F,R,U,dem W,dem v5,dem v6,b,c,a,p,q,r,s,t,u,v,w,x,y,z,A,B,C,D,E],S5)) ()) ()) ()) ()) ()):=by
 kernel_rfl
theorem zN.r4 :jl zi ⟨false,false,false⟩ (zU zi O) (reg Try.f27 4) (reg Try.f27 4).toList ([F,J,N,P,H,M,K,L,I,G,d,f,g,i,j,k,l,m,n,o,b,c,a,p,q,r,s,t,u,v,w,x,y,z,A,B,C,D,E]) S =
  (zO (Jc zi 27 (dem F) S) (fun R Q=>some ([F,J,N,P,H,M,K,L,I,G,d,f,g,i,j,k,l,m,n,o,dem F,R,.int .i64 0,p,q,r,s,t,u,v,w,x,y,z,A,B,C,D,E],Q)) ()):=by
 kernel_rfl
theorem zN.r5 :jl zi ⟨false,false,false⟩ (zU zi O) (reg Try.f27 5) (reg Try.f27 5).toList ([F,J,N,P,H,M,K,L,I,G,d,f,g,i,j,k,l,m,n,o,b,c,a,p,q,r,s,t,u,v,w,x,y,z,A,B,C,D,E]) S =
  (zO (wE zi BinOp.lss 3 a c S) (fun V Q=>some ([F,J,N,P,H,M,K,L,I,G,d,f,g,i,j,k,l,m,n,o,b,c,a,V,q,r,s,t,u,v,w,x,y,z,A,B,C,D,E],Q)) ()):=by
 kernel_rfl
theorem zN.r6 :jl zi ⟨false,false,false⟩ (zU zi O) (reg Try.f27 6) (reg Try.f27 6).toList ([F,J,N,P,H,M,K,L,I,G,d,f,g,i,j,k,l,m,n,o,b,c,a,p,q,r,s,t,u,v,w,x,y,z,A,B,C,D,E]) S =
  (zO (zV zi 27 b a S) (fun V Q=>zO (zZ zi false 47 V Q) (fun R X=>zO (yU zi 47 X) (fun U Y=>zO (wQ zi 47 U (dem R) Y) (fun W Z=>some ([F,J,N,P,H,M,K,U,I,G,d,f,g,i,j,k,l,m,n,o,b,c,a,p,V,R,s,t,u,v,w,x,y,z,A,B,C,D,E],Z)) ()) ()) ()) ()):=by
 kernel_rfl
theorem zN.r7 :jl zi ⟨false,false,false⟩ (zU zi O) (reg Try.f27 7) (reg Try.f27 7).toList ([F,J,N,P,H,M,K,L,I,G,d,f,g,i,j,k,l,m,n,o,b,c,a,p,q,r,s,t,u,v,w,x,y,z,A,B,C,D,E]) S =
  (zO (zZ zi false 47 L S) (fun V Q=>zO ((zU zi O) 39 [(dem V)] Q) (fun R X=>zO (zG R 0 X) (fun W Y=>zO (zG (zL 0 R) 1 Y) (fun v4 Z=>some ([F,J,N,P,H,M,K,L,W,v4,d,f,g,i,j,k,l,m,n,o,b,c,a,p,q,r,zL 1 (zL 0 R),V,dem R,dem W,dem v4,x,y,z,A,B,C,D,E],Z)) ()) ()) ()) ()):=by
 kernel_rfl
theorem zN.r8 :jl zi ⟨false,false,false⟩ (zU zi O) (reg Try.f27 8) (reg Try.f27 8).toList ([F,J,N,P,H,M,K,L,I,G,d,f,g,i,j,k,l,m,n,o,b,c,a,p,q,r,s,t,u,v,w,x,y,z,A,B,C,D,E]) S =
  (zO (wE zi BinOp.neq 34 (dem G) (.int .i64 0) S) (fun R Q=>some ([F,J,N,P,H,M,K,L,I,G,d,f,g,i,j,k,l,m,n,o,b,c,a,p,q,r,s,t,u,v,w,dem G,R,z,A,B,C,D,E],Q)) ()):=by
 kernel_rfl
theorem zN.r9 :jl zi ⟨false,false,false⟩ (zU zi O) (reg Try.f27 9) (reg Try.f27 9).toList ([F,J,N,P,H,M,K,L,I,G,d,f,g,i,j,k,l,m,n,o,b,c,a,p,q,r,s,t,u,v,w,x,y,z,A,B,C,D,E]) S =
  ( some ([F,J,Value.slice none 0 0,G,H,M,K,L,I,dem G,d,f,g,i,j,k,l,m,n,o,b,c,a,p,q,r,s,t,u,v,w,x,y,dem G,A,B,C,D,E],S)):=by
 kernel_rfl
theorem zN.r10 :jl zi ⟨false,false,false⟩ (zU zi O) (reg Try.f27 10) (reg Try.f27 10).toList ([F,J,N,P,H,M,K,L,I,G,d,f,g,i,j,k,l,m,n,o,b,c,a,p,q,r,s,t,u,v,w,x,y,z,A,B,C,D,E]) S =
  (zO (wu zi 33 33 H (dem I) S) (fun U Q=>some ([F,J,N,P,U,M,K,L,I,G,d,f,g,i,j,k,l,m,n,o,b,c,a,p,q,r,s,t,u,v,w,x,y,z,dem H,dem I,dem U,D,E],Q)) ()):=by
 kernel_rfl
theorem zN.r11 :jl zi ⟨false,false,false⟩ (zU zi O) (reg Try.f27 11) (reg Try.f27 11).toList ([F,J,N,P,H,M,K,L,I,G,d,f,g,i,j,k,l,m,n,o,b,c,a,p,q,r,s,t,u,v,w,x,y,z,A,B,C,D,E]) S =
  (zO (wE zi BinOp.add 3 a (.int .i64 1) S) (fun V Q=>some ([F,J,N,P,H,M,K,L,I,G,d,f,g,i,j,k,l,m,n,o,b,c,dem V,p,q,r,s,t,u,v,w,x,y,z,A,B,C,V,E],Q)) ()):=by
 kernel_rfl
theorem zN.r12 :jl zi ⟨false,false,false⟩ (zU zi O) (reg Try.f27 12) (reg Try.f27 12).toList ([F,J,N,P,H,M,K,L,I,G,d,f,g,i,j,k,l,m,n,o,b,c,a,p,q,r,s,t,u,v,w,x,y,z,A,B,C,D,E]) S =
  ( some ([F,J,H,.int .i64 0,dem H,M,K,L,I,G,d,f,g,i,j,k,l,m,n,o,b,c,a,p,q,r,s,t,u,v,w,x,y,z,A,B,C,D,dem H],S)):=by
 kernel_rfl
theorem zN.rs:type_of% (ahs @zN.r0 (ahs @zN.r1 (ahs @zN.r2 (ahs @zN.r3 (ahs @zN.r4 (ahs @zN.r5 (ahs @zN.r6 (ahs @zN.r7 (ahs @zN.r8 (ahs @zN.r9 (ahs @zN.r10 (ahs @zN.r11 (@zN.r12))))))))))))):=ahs @zN.r0 (ahs @zN.r1 (ahs @zN.r2 (ahs @zN.r3 (ahs @zN.r4 (ahs @zN.r5 (ahs @zN.r6 (ahs @zN.r7 (ahs @zN.r8 (ahs @zN.r9 (ahs @zN.r10 (ahs @zN.r11 (@zN.r12))))))))))))
theorem zN.runs {F:Value} {S Q:zx} {e:AEx} {T:List Value} (h:zD zi O false zN.code ([F,zh,zh,zh,zh,zh,zh,zh,zh,zh,zh,zh,zh,zh,zh,zh,zh,zh,zh,zh,zh,zh,zh,zh,zh,zh,zh,zh,zh,zh,zh,zh,zh,zh,zh,zh,zh,zh,zh]) zx.empty=some (e,T,Q)) (he:e=.normal∨e=.ret)  (h0:jG (T.getD 2 zh)=true) (h1:jG (T.getD 3 zh)=true) (hca:[F].all (zX 16)=true) (hcv:zX 16 (Value.tuple #[T.getD 2 zh,T.getD 3 zh])=true):zU zi O 27 [F] S=some (Value.tuple #[T.getD 2 zh,T.getD 3 zh],S) :=
 yK rfl rfl Try.func27 (by decide) zN.body (by exact h) he ((qh ((show zJ zi T Q Try.f27.results.toList=zJ zi T Q [(ResultVar.tmp 2),(ResultVar.tmp 3)] from by kernel_rfl).trans (by simp only [zJ])) (by kernel_rfl) (by simp only [List.all_cons,List.all_nil,h0,h1,Bool.and_true])).trans rfl) hca hcv
end Go.Proofs.Ytgggklfbhmlapaa
namespace Go.Proofs.Ytgggklfbhmlapaa
open Go.Abs
abbrev jF.id:FuncId:=39
noncomputable def jF.code:Code:=(.seq (.region 0 (reg Try.f39 0) false) (.seq (.seq (.region 1 (reg Try.f39 1) false) (.cond (.tmp 8) (.seq (.region 2 (reg Try.f39 2) false) Code.ret) Code.skip)) (.seq (.region 3 (reg Try.f39 3) false) (.seq (.region 4 (reg Try.f39 4) false) Code.ret))))
theorem jF.body:Try.f39.body=some jF.code:=by kernel_rfl
variable (a m u v n o p q r s b c d f g i j k l:Value) (S:zx)
theorem jF.r0 :jl zi ⟨false,false,false⟩ (zU zi O) (reg Try.f39 0) (reg Try.f39 0).toList ([a,m,u,v,n,o,p,q,r,s,b,c,d,f,g,i,j,k,l]) S =
  (zO (WR (dem a) S) (fun w t=>some ([a,w,Value.slice none 0 0,.int .i64 0,n,o,p,q,r,s,b,c,d,f,g,i,j,k,l],t)) ()):=by
 kernel_rfl
theorem jF.r1 :jl zi ⟨false,false,false⟩ (zU zi O) (reg Try.f39 1) (reg Try.f39 1).toList ([a,m,u,v,n,o,p,q,r,s,b,c,d,f,g,i,j,k,l]) S =
  (zO (zZ zi false 47 m S) (fun w t=>zO ((zU zi O) 47 [(dem w)] t) (fun x A=>zO (aUn zi UnOp.not x A) (fun y B=>some ([a,m,u,v,n,o,w,x,y,s,b,c,d,f,g,i,j,k,l],B)) ()) ()) ()):=by
 kernel_rfl
theorem jF.r2 :jl zi ⟨false,false,false⟩ (zU zi O) (reg Try.f39 2) (reg Try.f39 2).toList ([a,m,u,v,n,o,p,q,r,s,b,c,d,f,g,i,j,k,l]) S =
  ( some ([a,m,Value.slice none 0 0,.int .i64 61,n,o,p,q,r,s,b,c,d,f,g,i,j,k,l],S)):=by
 kernel_rfl
theorem jF.r3 :jl zi ⟨false,false,false⟩ (zU zi O) (reg Try.f39 3) (reg Try.f39 3).toList ([a,m,u,v,n,o,p,q,r,s,b,c,d,f,g,i,j,k,l]) S =
  (zO (zM zi 47 m 0 S) (fun w t=>zO (zZ zi false 3 w t) (fun x A=>zO (zM zi 47 m 1 A) (fun y B=>zO (zZ zi false 3 y B) (fun C G=>zO (jI zi 53 2 [(0,x),(1,C)] G) (fun D H=>zO ((zU zi O) 28 [(dem D)] H) (fun z I=>zO (zG z 0 I) (fun E J=>zO (zG (zL 0 z) 1 J) (fun F K=>some ([a,m,u,v,E,F,p,q,r,zL 1 (zL 0 z),w,x,y,C,D,dem z,dem E,dem F,l],K)) ()) ()) ()) ()) ()) ()) ()) ()):=by
 kernel_rfl
theorem jF.r4 :jl zi ⟨false,false,false⟩ (zU zi O) (reg Try.f39 4) (reg Try.f39 4).toList ([a,m,u,v,n,o,p,q,r,s,b,c,d,f,g,i,j,k,l]) S =
  ( some ([a,m,n,.int .i64 0,dem n,o,p,q,r,s,b,c,d,f,g,i,j,k,dem n],S)):=by
 kernel_rfl
theorem jF.rs:type_of% (ahs @jF.r0 (ahs @jF.r1 (ahs @jF.r2 (ahs @jF.r3 (@jF.r4))))):=ahs @jF.r0 (ahs @jF.r1 (ahs @jF.r2 (ahs @jF.r3 (@jF.r4))))
theorem jF.runs {a:Value} {S t:zx} {e:AEx} {T:List Value} (h:zD zi O false jF.code ([a,zh,zh,zh,zh,zh,zh,zh,zh,zh,zh,zh,zh,zh,zh,zh,zh,zh,zh]) zx.empty=some (e,T,t)) (he:e=.normal∨e=.ret)  (h0:jG (T.getD 2 zh)=true) (h1:jG (T.getD 3 zh)=true) (hca:[a].all (zX 16)=true) (hcv:zX 16 (Value.tuple #[T.getD 2 zh,T.getD 3 zh])=true):zU zi O 39 [a] S=some (Value.tuple #[T.getD 2 zh,T.getD 3 zh],S) :=
 yK rfl rfl Try.func39 (by decide) jF.body (by exact h) he ((qh ((show zJ zi T t Try.f39.results.toList=zJ zi T t [(ResultVar.tmp 2),(ResultVar.tmp 3)] from by kernel_rfl).trans (by simp only [zJ])) (by kernel_rfl) (by simp only [List.all_cons,List.all_nil,h0,h1,Bool.and_true])).trans rfl) hca hcv
end Go.Proofs.Ytgggklfbhmlapaa
namespace Go.Proofs.Ytgggklfbhmlapaa
open Go.Abs
abbrev jf.id:FuncId:=45
noncomputable def jf.code:Code:=(.seq (.region 0 (reg Try.f45 0) false) (.seq (.region 1 (reg Try.f45 1) false) (.seq (.seq (.region 2 (reg Try.f45 2) false) (.cond (.tmp 16) (.seq (.region 3 (reg Try.f45 3) false) Code.ret) Code.skip)) (.seq (.region 4 (reg Try.f45 4) true) (.seq (.region 5 (reg Try.f45 5) true) Code.ret)))))
theorem jf.body:Try.f45.body=some jf.code:=by kernel_rfl
variable (c E C H I b z D A F d f g i j k l m n o p q r s t u w x y:Value) (S:zx)
theorem jf.r0 :jl zi ⟨false,false,false⟩ (zU zi O) (reg Try.f45 0) (reg Try.f45 0).toList ([c,E,C,H,I,b,z,D,A,F,d,f,g,i,j,k,l,m,n,o,p,q,r,s,t,u,w,x,y]) S =
  (zO (yU zi 47 S) (fun J a=>some ([c,E,J,Value.slice none 0 0,Value.bool false,b,z,D,A,F,d,f,g,i,j,k,l,m,n,o,p,q,r,s,t,u,w,x,y],a)) ()):=by
 kernel_rfl
theorem jf.r1 :jl zi ⟨false,false,false⟩ (zU zi O) (reg Try.f45 1) (reg Try.f45 1).toList ([c,E,C,H,I,b,z,D,A,F,d,f,g,i,j,k,l,m,n,o,p,q,r,s,t,u,w,x,y]) S =
  (zO ((zU zi O) 33 [(dem (dem c)),(.int .i64 2)] S) (fun B a=>zO (zG B 0 a) (fun N K=>zO (zG (zL 0 B) 1 K) (fun G L=>zO (zG (zL 1 (zL 0 B)) 2 L) (fun P Q=>some ([c,E,C,H,I,N,G,P,A,zL 2 (zL 1 (zL 0 B)),dem c,dem B,dem N,dem G,dem P,k,l,m,n,o,p,q,r,s,t,u,w,x,y],Q)) ()) ()) ()) ()):=by
 kernel_rfl
theorem jf.r2 :jl zi ⟨false,false,false⟩ (zU zi O) (reg Try.f45 2) (reg Try.f45 2).toList ([c,E,C,H,I,b,z,D,A,F,d,f,g,i,j,k,l,m,n,o,p,q,r,s,t,u,w,x,y]) S =
  (zO (wE zi BinOp.neq 34 (dem D) (.int .i64 0) S) (fun B a=>some ([c,E,C,H,I,b,z,D,A,F,d,f,g,i,j,dem D,B,m,n,o,p,q,r,s,t,u,w,x,y],a)) ()):=by
 kernel_rfl
theorem jf.r3 :jl zi ⟨false,false,false⟩ (zU zi O) (reg Try.f45 3) (reg Try.f45 3).toList ([c,E,C,H,I,b,z,D,A,F,d,f,g,i,j,k,l,m,n,o,p,q,r,s,t,u,w,x,y]) S =
  (zO (wX zi 47 [] S) (fun J a=>zO (wQ zi 47 C (dem J) a) (fun B K=>some ([c,E,C,Value.slice none 0 0,Value.bool false,b,z,D,A,F,d,f,g,i,j,k,l,J,n,o,p,q,r,s,t,u,w,x,y],K)) ()) ()):=by
 kernel_rfl
theorem jf.d4:qY zi (reg Try.f45 4)=true:=by kernel_rfl
theorem jf.ff4:fixed zi (reg Try.f45 4)=false:=by kernel_rfl
theorem jf.k4:checked zi (reg Try.f45 4)=[0,1,2,3,4,5,6]:=by kernel_rfl
theorem jf.g4:again zi (reg Try.f45 4)=[(2,7),(5,7)]:=by kernel_rfl
theorem jf.r4 :zD zi O false (.region 4 (reg Try.f45 4) true) ([c,E,C,H,I,b,z,D,A,F,d,f,g,i,j,k,l,m,n,o,p,q,r,s,t,u,w,x,y]) S =
  Q9 (okK b ( zO (zV zi 53 (dem b) (.int .i64 0) S) (fun B a=>okK B ( zO (zZ zi false 3 B a) (fun M K=>okK M ( okK b ( zO (zV zi 53 (dem b) (.int .i64 1) K) (fun G L=>okK G ( zO (zZ zi false 3 G L) (fun P Q=>okK P ( zO (wX zi 47 [(0,(dem M)),(1,(dem P))] Q) (fun R W=>okK R ( zO (yU zi 47 W) (fun V U=>zO (wQ zi 47 V (dem R) U) (fun Y X=>ckK (yM B a U && (yM G L U && (true))) (some ([c,E,C,H,I,b,z,D,V,F,d,f,g,i,j,k,l,m,dem b,B,M,dem b,G,P,R,u,w,x,y],X)) ()) ()) ()) ()) ()) ()) ()) ()) ()) ()) ()) ()) ()) ()) ()):=by
 rw [kJ jf.d4 jf.ff4 jf.k4 jf.g4]
 refine congrArg Q9 ?_
 refine uPC Try.f45 4 0 (v:=b) (pe:=zh) ?_
 refine uDC Try.f45 4 1 (pe:=zh) (fun B a=>?_)
 refine uDC Try.f45 4 2 (pe:=B) (fun M K=>?_)
 refine uPC Try.f45 4 3 (v:=b) (pe:=zh) ?_
 refine uDC Try.f45 4 4 (pe:=zh) (fun G L=>?_)
 refine uDC Try.f45 4 5 (pe:=G) (fun P Q=>?_)
 refine uDC Try.f45 4 6 (pe:=zh) (fun R W=>?_)
 refine uD Try.f45 4 7 (pe:=zh) (fun V U=>?_)
 refine uD Try.f45 4 8 (pe:=zh) (fun Y X=>?_)
 kernel_rfl
theorem jf.d5:qY zi (reg Try.f45 5)=true:=by kernel_rfl
theorem jf.ff5:fixed zi (reg Try.f45 5)=false:=by kernel_rfl
theorem jf.k5:checked zi (reg Try.f45 5)=[0,1,1]:=by kernel_rfl
theorem jf.g5:again zi (reg Try.f45 5)=[(0,3)]:=by kernel_rfl
theorem jf.r5 :zD zi O false (.region 5 (reg Try.f45 5) true) ([c,E,C,H,I,b,z,D,A,F,d,f,g,i,j,k,l,m,n,o,p,q,r,s,t,u,w,x,y]) S =
  Q9 (zO (zZ zi false 47 A S) (fun J a=>okK J ( okK z ( zO (zZ zi false 47 A a) (fun M K=>zO ((zU zi O) 47 [(dem M)] K) (fun N L=>zO (wQ zi 47 C (dem J) L) (fun G Q=>ckK (yM A S L && (true)) (some ([c,E,C,z,N,b,dem z,D,A,F,d,f,g,i,j,k,l,m,n,o,p,q,r,s,t,J,dem z,M,dem N],Q)) ()) ()) ()) ()) ()) ()) ()):=by
 rw [kJ jf.d5 jf.ff5 jf.k5 jf.g5]
 refine congrArg Q9 ?_
 refine uDC Try.f45 5 0 (pe:=A) (fun J a=>?_)
 refine uPC Try.f45 5 1 (v:=z) (pe:=zh) ?_
 refine uD Try.f45 5 2 (pe:=A) (fun M K=>?_)
 refine uD Try.f45 5 3 (pe:=zh) (fun N L=>?_)
 refine uD Try.f45 5 4 (pe:=zh) (fun G Q=>?_)
 refine uP Try.f45 5 5 (v:=z) (pe:=zh) ?_
 refine uP Try.f45 5 6 (v:=N) (pe:=zh) ?_
 kernel_rfl
theorem jf.rs:type_of% (ahs @jf.r0 (ahs @jf.r1 (ahs @jf.r2 (ahs @jf.r3 (ahs @jf.r4 (@jf.r5)))))):=ahs @jf.r0 (ahs @jf.r1 (ahs @jf.r2 (ahs @jf.r3 (ahs @jf.r4 (@jf.r5)))))
theorem jf.runs {c:Value} {S a:zx} {e:AEx} {T:List Value} (h:zD zi O false jf.code ([c,zh,zh,zh,zh,zh,zh,zh,zh,zh,zh,zh,zh,zh,zh,zh,zh,zh,zh,zh,zh,zh,zh,zh,zh,zh,zh,zh,zh]) zx.empty=some (e,T,a)) (he:e=.normal∨e=.ret) {w0:Value} (c0:zZ zi false 47 (T.getD 2 zh) a=some (w0,a)) (h0:jG (w0)=true) (h1:jG (T.getD 3 zh)=true) (h2:jG (T.getD 4 zh)=true) (hca:[c].all (zX 16)=true) (hcv:zX 16 (Value.tuple #[w0,T.getD 3 zh,T.getD 4 zh])=true):zU zi O 45 [c] S=some (Value.tuple #[w0,T.getD 3 zh,T.getD 4 zh],S) :=
 yK rfl rfl Try.func45 (by decide) jf.body (by exact h) he ((qh ((show zJ zi T a Try.f45.results.toList=zJ zi T a [(ResultVar.cell 2 47),(ResultVar.tmp 3),(ResultVar.tmp 4)] from by kernel_rfl).trans (by simp only [zJ,c0])) (by kernel_rfl) (by simp only [List.all_cons,List.all_nil,h0,h1,h2,Bool.and_true])).trans rfl) hca hcv
end Go.Proofs.Ytgggklfbhmlapaa
namespace Go.Proofs.Ytgggklfbhmlapaa
open Go.Abs
abbrev jR.id:FuncId:=47
noncomputable def jR.code:Code:=(.seq (.region 0 (reg Try.f47 0) false) (.seq (.region 1 (reg Try.f47 1) false) Code.ret))
theorem jR.body:Try.f47.body=some jR.code:=by kernel_rfl
variable (c i Y J K L M N P Q l m n o p q r s t u w:Value) (S:zx)
theorem jR.r0 :jl zi ⟨false,false,false⟩ (zU zi O) (reg Try.f47 0) (reg Try.f47 0).toList ([c,i,Y,J,K,L,M,N,P,Q,l,m,n,o,p,q,r,s,t,u,w]) S =
  (zO (WR (dem c) S) (fun x d=>some ([c,x,Value.bool false,J,K,L,M,N,P,Q,l,m,n,o,p,q,r,s,t,u,w],d)) ()):=by
 kernel_rfl
theorem jR.r1 :jl zi ⟨false,false,false⟩ (zU zi O) (reg Try.f47 1) (reg Try.f47 1).toList ([c,i,Y,J,K,L,M,N,P,Q,l,m,n,o,p,q,r,s,t,u,w]) S =
  (zO (zM zi 47 i 0 S) (fun x d=>zO (zZ zi false 3 x d) (fun R Z=>zO (wE zi BinOp.geq 3 R (.int .i64 1) Z) (fun f S3=>gdK (dem f) true (zM zi 47 i 0) S3 (fun U S4=>gdK (dem f) true (zZ zi false 3 U) S4 (fun V S5=>gdK (dem f) true (wE zi BinOp.leq 3 V (.int .i64 1000000)) S5 (fun W S6=>zO (yX (dem f) W (Value.bool false) S6) (fun g S7=>gdK (dem g) true (zM zi 47 i 1) S7 (fun X S8=>gdK (dem g) true (zZ zi false 3 X) S8 (fun y S9=>gdK (dem g) true (wE zi BinOp.geq 3 y (.int .i64 0)) S9 (fun z D=>zO (yX (dem g) z (Value.bool false) D) (fun b E=>gdK (dem b) true (zM zi 47 i 1) E (fun A F=>gdK (dem b) true (zZ zi false 3 A) F (fun B G=>gdK (dem b) true (wE zi BinOp.leq 3 B (.int .i64 1000)) G (fun C H=>zO (yX (dem b) C (Value.bool false) H) (fun k I=>some ([c,i,k,x,R,f,dem f,U,V,W,g,dem g,X,y,z,b,dem b,A,B,C,dem k],I)) ()) ()) ()) ()) ()) ()) ()) ()) ()) ()) ()) ()) ()) ()) ()):=by
 refine sD Try.f47 1 0 (fun x d=>?_)
 refine sD Try.f47 1 1 (fun R Z=>?_)
 refine sD Try.f47 1 2 (fun f S3=>?_)
 refine sP Try.f47 1 3 (v:=f) ?_
 refine sG Try.f47 1 4 (j:=3) (fun U S4=>?_)
 refine sG Try.f47 1 5 (j:=3) (fun V S5=>?_)
 refine sG Try.f47 1 6 (j:=3) (fun W S6=>?_)
 refine sD Try.f47 1 7 (fun g S7=>?_)
 refine sP Try.f47 1 8 (v:=g) ?_
 refine sG Try.f47 1 9 (j:=8) (fun X S8=>?_)
 refine sG Try.f47 1 10 (j:=8) (fun y S9=>?_)
 refine sG Try.f47 1 11 (j:=8) (fun z D=>?_)
 refine sD Try.f47 1 12 (fun b E=>?_)
 refine sP Try.f47 1 13 (v:=b) ?_
 refine sG Try.f47 1 14 (j:=13) (fun A F=>?_)
 refine sG Try.f47 1 15 (j:=13) (fun B G=>?_)
 refine sG Try.f47 1 16 (j:=13) (fun C H=>?_)
 refine sD Try.f47 1 17 (fun k I=>?_)
 refine sP Try.f47 1 18 (v:=k) ?_
 kernel_rfl
theorem jR.rs:type_of% (ahs @jR.r0 (@jR.r1)):=ahs @jR.r0 (@jR.r1)
theorem jR.runs {c:Value} {S d:zx} {e:AEx} {T:List Value} (h:zD zi O false jR.code ([c,zh,zh,zh,zh,zh,zh,zh,zh,zh,zh,zh,zh,zh,zh,zh,zh,zh,zh,zh,zh]) zx.empty=some (e,T,d)) (he:e=.normal∨e=.ret) (hca:[c].all (zX 16)=true) (hcv:zX 16 (T.getD 2 zh)=true):zU zi O 47 [c] S=some (T.getD 2 zh,S) :=
 yK rfl rfl Try.func47 (by decide) jR.body (by exact h) he (yP (a:=T.getD 2 zh) ((show zJ zi T d Try.f47.results.toList=zJ zi T d [(ResultVar.tmp 2)] from by kernel_rfl).trans (by simp only [zJ])) (by kernel_rfl)) hca hcv
end Go.Proofs.Ytgggklfbhmlapaa
namespace Go.Proofs.Ytgggklfbhmlapaa
open Go.Abs
theorem agl {t:TypeId} {a b:List UInt8} {S:zx}:xB zi .eql t (.string ⟨a.toArray⟩) (.string ⟨b.toArray⟩) S=some (.bool (decide (a=b)),S):=by rw [VH]
theorem aez {a b:Bool} {S:zx}:xB zi .neq 4 (.bool a) (.bool b) S=some (.bool (a != b),S):=by cases a <;> cases b <;> kernel_rfl
end Go.Proofs.Ytgggklfbhmlapaa
namespace Go.Proofs.Ytgggklfbhmlapaa
open Go.Abs
structure TxV where
 id:Int
 fee:Int
 deriving DecidableEq
def fT (t:TxV):List Value:=[.int .i64 t.id,.int .i64 t.fee]
abbrev tv (t:TxV):Value:=.agg [Value.int .i64 t.id,.int .i64 t.fee].toArray
structure TxV.Ok (t:TxV):Prop where
 id:-9223372036854775808≤t.id∧t.id < 9223372036854775808
 fee:-9223372036854775808≤t.fee∧t.fee < 9223372036854775808
abbrev tTx:Ty:=.pair (.int .i64) (.pair (.int .i64) .unit)
def yB (t:TxV):Bool:=decide (1≤t.id) && decide (t.id≤1000000) && decide (0≤t.fee) && decide (t.fee≤1000)
theorem vM {t:TxV}:yB t=true ↔ 1≤t.id∧t.id≤1000000∧0≤t.fee∧t.fee≤1000:=by
 simp [yB,and_assoc]
abbrev mem1 (t:TxV):zx:=zx.empty.push (.cells [Value.int .i64 t.id,.int .i64 t.fee] (.own []) 0)
theorem box1 (t:TxV):WR (tv t) zx.empty=some (.pointer (some ⟨0,0,none⟩),mem1 t):=rfl
theorem Zz (t:TxV):(mem1 t).get 0=some (.cells [Value.int .i64 t.id,.int .i64 t.fee] (.own []) 0):=rfl
theorem jR.v (t:TxV) (S:zx):zU zi O jR.id [tv t] S=some (.bool (yB t),S):=by
 obtain ⟨T,hTe⟩:∃ T,T=(tv t::zh::zh::zh::zh::zh::zh::zh::zh::zh::zh::zh::zh::zh::zh::zh::zh::zh::zh::zh::zh::[]):=⟨_,rfl⟩
 have hr:zD zi O false jR.code T zx.empty=zD zi O false jR.code T zx.empty:=rfl
 have l0:=qx (t:=3) (o:=0+0) (Zz t) JD rfl
 have l1:=qx (t:=3) (o:=0+1) (Zz t) JD rfl
 by_cases h1:1≤t.id <;> by_cases h2:t.id≤1000000 <;> by_cases h3:0≤t.fee <;> by_cases h4:t.fee≤1000
 all_goals
  conv at hr =>
   rhs
   rw [hTe]
   simp only [jR.code,jR.rs,zSs,reduceIte,zk,zn,zo,zq,box1,xq,Zc,l0,l1,h1,h2,h3,h4]
  rw [hTe] at hr
  simp only [yB,h1,h2,h3,h4,decide_true,decide_false,Bool.and_true,Bool.and_false,Bool.false_and]
  exact jR.runs hr (.inr rfl) rfl rfl
theorem ag3 (x:tTx.Val) (hg:tTx.Good x):∃ t:TxV,tTx.Z8 x=fT t∧t.Ok:=by
 obtain ⟨a,b,u⟩:=x
 obtain ⟨h1,h2,_⟩:=hg
 exact ⟨⟨a,b⟩,rfl,abm h1,abm h2⟩
end Go.Proofs.Ytgggklfbhmlapaa
namespace Go.Proofs.Ytgggklfbhmlapaa
open Go.Abs
abbrev zy.id:FuncId:=33
noncomputable def zy.jm:Code:=(.seq (.region 6 (reg Try.f33 6) false) (.seq (.cond (.tmp 22) Code.skip (.exit 0)) (.seq (.block 1 (.seq (.region 7 (reg Try.f33 7) false) (.seq (.seq (.region 8 (reg Try.f33 8) false) (.cond (.tmp 34) (.seq (.region 9 (reg Try.f33 9) false) Code.ret) Code.skip)) (.seq (.region 10 (reg Try.f33 10) false) (.region 11 (reg Try.f33 11) false))))) (.region 12 (reg Try.f33 12) false))))
noncomputable def zy.code:Code:=(.seq (.region 0 (reg Try.f33 0) false) (.seq (.seq (.region 1 (reg Try.f33 1) false) (.cond (.tmp 17) (.seq (.region 2 (reg Try.f33 2) false) Code.ret) Code.skip)) (.seq (.region 3 (reg Try.f33 3) false) (.seq (.region 4 (reg Try.f33 4) false) (.seq (.seq (.region 5 (reg Try.f33 5) false) (.block 0 (.loop zy.jm))) (.seq (.region 13 (reg Try.f33 13) false) Code.ret))))))
theorem zy.body:Try.f33.body=some zy.code:=by kernel_rfl
theorem zy.eta {T:List Value} (h:T.length=45):T=[T.getD 0 zh,T.getD 1 zh,T.getD 2 zh,T.getD 3 zh,T.getD 4 zh,T.getD 5 zh,T.getD 6 zh,T.getD 7 zh,T.getD 8 zh,T.getD 9 zh,T.getD 10 zh,T.getD 11 zh,T.getD 12 zh,T.getD 13 zh,T.getD 14 zh,T.getD 15 zh,T.getD 16 zh,T.getD 17 zh,T.getD 18 zh,T.getD 19 zh,T.getD 20 zh,T.getD 21 zh,T.getD 22 zh,T.getD 23 zh,T.getD 24 zh,T.getD 25 zh,T.getD 26 zh,T.getD 27 zh,T.getD 28 zh,T.getD 29 zh,T.getD 30 zh,T.getD 31 zh,T.getD 32 zh,T.getD 33 zh,T.getD 34 zh,T.getD 35 zh,T.getD 36 zh,T.getD 37 zh,T.getD 38 zh,T.getD 39 zh,T.getD 40 zh,T.getD 41 zh,T.getD 42 zh,T.getD 43 zh,T.getD 44 zh]:=(y7 T 45 h).trans (by kernel_rfl)
variable (P N V W X Y Z Q R U b a f g i k l m n o c d p q r s t u w x y z A B C D E F G H I J K L M:Value) (S:zx)
theorem zy.r0 :jl zi ⟨false,false,false⟩ (zU zi O) (reg Try.f33 0) (reg Try.f33 0).toList ([P,N,V,W,X,Y,Z,Q,R,U,b,a,f,g,i,k,l,m,n,o,c,d,p,q,r,s,t,u,w,x,y,z,A,B,C,D,E,F,G,H,I,J,K,L,M]) S =
  ( some ([P,N,V,W,Value.slice none 0 0,Value.slice none 0 0,.int .i64 0,Q,R,U,b,a,f,g,i,k,l,m,n,o,c,d,p,q,r,s,t,u,w,x,y,z,A,B,C,D,E,F,G,H,I,J,K,L,M],S)):=by
 kernel_rfl
theorem zy.r1 :jl zi ⟨false,false,false⟩ (zU zi O) (reg Try.f33 1) (reg Try.f33 1).toList ([P,N,V,W,X,Y,Z,Q,R,U,b,a,f,g,i,k,l,m,n,o,c,d,p,q,r,s,t,u,w,x,y,z,A,B,C,D,E,F,G,H,I,J,K,L,M]) S =
  (zO (wE zi BinOp.lss 3 (dem N) (.int .i64 0) S) (fun v1 S1=>gdK (dem v1) false (ret N) S1 (fun v3 S2=>gdK (dem v1) false (wE zi BinOp.gtr 3 (dem v3) (.int .i64 64)) S2 (fun v4 S3=>zO (yX (dem v1) (Value.bool true) v4 S3) (fun v5 S4=>some ([P,N,V,W,X,Y,Z,Q,R,U,b,a,dem N,v1,dem v1,dem v3,v4,v5,n,o,c,d,p,q,r,s,t,u,w,x,y,z,A,B,C,D,E,F,G,H,I,J,K,L,M],S4)) ()) ()) ()) ()):=by
 refine sP Try.f33 1 0 (v:=N) ?_
 refine sD Try.f33 1 1 (fun v1 S1=>?_)
 refine sP Try.f33 1 2 (v:=v1) ?_
 refine sG Try.f33 1 3 (j:=2) (fun v3 S2=>?_)
 refine sG Try.f33 1 4 (j:=2) (fun v4 S3=>?_)
 refine sD Try.f33 1 5 (fun v5 S4=>?_)
 kernel_rfl
theorem zy.r2 :jl zi ⟨false,false,false⟩ (zU zi O) (reg Try.f33 2) (reg Try.f33 2).toList ([P,N,V,W,X,Y,Z,Q,R,U,b,a,f,g,i,k,l,m,n,o,c,d,p,q,r,s,t,u,w,x,y,z,A,B,C,D,E,F,G,H,I,J,K,L,M]) S =
  ( some ([P,N,V,W,Value.slice none 0 0,Value.slice none 0 0,.int .i64 11,Q,R,U,b,a,f,g,i,k,l,m,n,o,c,d,p,q,r,s,t,u,w,x,y,z,A,B,C,D,E,F,G,H,I,J,K,L,M],S)):=by
 kernel_rfl
theorem zy.r3 :jl zi ⟨false,false,false⟩ (zU zi O) (reg Try.f33 3) (reg Try.f33 3).toList ([P,N,V,W,X,Y,Z,Q,R,U,b,a,f,g,i,k,l,m,n,o,c,d,p,q,r,s,t,u,w,x,y,z,A,B,C,D,E,F,G,H,I,J,K,L,M]) S =
  (zO ((zU zi O) 43 [(dem (dem P))] S) (fun v1 S1=>some ([P,N,V,W,X,Y,Z,v1,R,U,b,a,f,g,i,k,l,m,dem P,dem v1,c,d,p,q,r,s,t,u,w,x,y,z,A,B,C,D,E,F,G,H,I,J,K,L,M],S1)) ()):=by
 kernel_rfl
theorem zy.r4 :jl zi ⟨false,false,false⟩ (zU zi O) (reg Try.f33 4) (reg Try.f33 4).toList ([P,N,V,W,X,Y,Z,Q,R,U,b,a,f,g,i,k,l,m,n,o,c,d,p,q,r,s,t,u,w,x,y,z,A,B,C,D,E,F,G,H,I,J,K,L,M]) S =
  ( some ([P,N,V,W,X,Y,Z,Q,Value.slice none 0 0,U,b,a,f,g,i,k,l,m,n,o,c,d,p,q,r,s,t,u,w,x,y,z,A,B,C,D,E,F,G,H,I,J,K,L,M],S)):=by
 kernel_rfl
theorem zy.r5 :jl zi ⟨false,false,false⟩ (zU zi O) (reg Try.f33 5) (reg Try.f33 5).toList ([P,N,V,W,X,Y,Z,Q,R,U,b,a,f,g,i,k,l,m,n,o,c,d,p,q,r,s,t,u,w,x,y,z,A,B,C,D,E,F,G,H,I,J,K,L,M]) S =
  ( some ([P,N,V,W,X,Y,Z,Q,R,U,b,a,f,g,i,k,l,m,n,o,dem N,.int .i64 0,p,q,r,s,t,u,w,x,y,z,A,B,C,D,E,F,G,H,I,J,K,L,M],S)):=by
 kernel_rfl
theorem zy.r6 :jl zi ⟨false,false,false⟩ (zU zi O) (reg Try.f33 6) (reg Try.f33 6).toList ([P,N,V,W,X,Y,Z,Q,R,U,b,a,f,g,i,k,l,m,n,o,c,d,p,q,r,s,t,u,w,x,y,z,A,B,C,D,E,F,G,H,I,J,K,L,M]) S =
  (zO (wE zi BinOp.lss 3 d c S) (fun v0 S1=>some ([P,N,V,W,X,Y,Z,Q,R,U,b,a,f,g,i,k,l,m,n,o,c,d,v0,q,r,s,t,u,w,x,y,z,A,B,C,D,E,F,G,H,I,J,K,L,M],S1)) ()):=by
 kernel_rfl
theorem zy.r7 :jl zi ⟨false,false,false⟩ (zU zi O) (reg Try.f33 7) (reg Try.f33 7).toList ([P,N,V,W,X,Y,Z,Q,R,U,b,a,f,g,i,k,l,m,n,o,c,d,p,q,r,s,t,u,w,x,y,z,A,B,C,D,E,F,G,H,I,J,K,L,M]) S =
  (zO ((zU zi O) 44 [(dem (dem Q))] S) (fun v1 S1=>zO (zG v1 0 S1) (fun v3 S2=>zO (zG (zL 0 v1) 1 S2) (fun v4 S3=>zO (zG (zL 1 (zL 0 v1)) 2 S3) (fun v5 S4=>some ([P,N,V,W,X,Y,Z,Q,R,v3,v4,v5,f,g,i,k,l,m,n,o,c,d,p,zL 2 (zL 1 (zL 0 v1)),dem Q,dem v1,dem v3,dem v4,dem v5,x,y,z,A,B,C,D,E,F,G,H,I,J,K,L,M],S4)) ()) ()) ()) ()):=by
 kernel_rfl
theorem zy.r8 :jl zi ⟨false,false,false⟩ (zU zi O) (reg Try.f33 8) (reg Try.f33 8).toList ([P,N,V,W,X,Y,Z,Q,R,U,b,a,f,g,i,k,l,m,n,o,c,d,p,q,r,s,t,u,w,x,y,z,A,B,C,D,E,F,G,H,I,J,K,L,M]) S =
  (zO (wE zi BinOp.neq 34 (dem a) (.int .i64 0) S) (fun v1 S1=>gdK (dem v1) false (ret U) S1 (fun v3 S2=>gdK (dem v1) false (wE zi BinOp.gtr 68 (dem v3) (Value.int IntKind.u64 4611686018427387905)) S2 (fun v4 S3=>zO (yX (dem v1) (Value.bool true) v4 S3) (fun v5 S4=>some ([P,N,V,W,X,Y,Z,Q,R,U,b,a,f,g,i,k,l,m,n,o,c,d,p,q,r,s,t,u,w,dem a,v1,dem v1,dem v3,v4,v5,D,E,F,G,H,I,J,K,L,M],S4)) ()) ()) ()) ()):=by
 refine sP Try.f33 8 0 (v:=a) ?_
 refine sD Try.f33 8 1 (fun v1 S1=>?_)
 refine sP Try.f33 8 2 (v:=v1) ?_
 refine sG Try.f33 8 3 (j:=2) (fun v3 S2=>?_)
 refine sG Try.f33 8 4 (j:=2) (fun v4 S3=>?_)
 refine sD Try.f33 8 5 (fun v5 S4=>?_)
 kernel_rfl
theorem zy.r9 :jl zi ⟨false,false,false⟩ (zU zi O) (reg Try.f33 9) (reg Try.f33 9).toList ([P,N,V,W,X,Y,Z,Q,R,U,b,a,f,g,i,k,l,m,n,o,c,d,p,q,r,s,t,u,w,x,y,z,A,B,C,D,E,F,G,H,I,J,K,L,M]) S =
  ( some ([P,N,V,W,Value.slice none 0 0,Value.slice none 0 0,.int .i64 11,Q,R,U,b,a,f,g,i,k,l,m,n,o,c,d,p,q,r,s,t,u,w,x,y,z,A,B,C,D,E,F,G,H,I,J,K,L,M],S)):=by
 kernel_rfl
theorem zy.r10 :jl zi ⟨false,false,false⟩ (zU zi O) (reg Try.f33 10) (reg Try.f33 10).toList ([P,N,V,W,X,Y,Z,Q,R,U,b,a,f,g,i,k,l,m,n,o,c,d,p,q,r,s,t,u,w,x,y,z,A,B,C,D,E,F,G,H,I,J,K,L,M]) S =
  (zO (yT zi false false 68 3 (dem U) S) (fun v2 S1=>zO (wE zi BinOp.sub 3 v2 (.int .i64 1) S1) (fun v3 S2=>zO (jI zi 53 1 [(0,v3)] S2) (fun v4 S3=>zO (wu zi 53 53 R v4 S3) (fun v5 S4=>some ([P,N,V,W,X,Y,Z,Q,v5,U,b,a,f,g,i,k,l,m,n,o,c,d,p,q,r,s,t,u,w,x,y,z,A,B,C,dem R,dem U,v2,v3,v4,dem v5,J,K,L,M],S4)) ()) ()) ()) ()):=by
 kernel_rfl
theorem zy.r11 :jl zi ⟨false,false,false⟩ (zU zi O) (reg Try.f33 11) (reg Try.f33 11).toList ([P,N,V,W,X,Y,Z,Q,R,U,b,a,f,g,i,k,l,m,n,o,c,d,p,q,r,s,t,u,w,x,y,z,A,B,C,D,E,F,G,H,I,J,K,L,M]) S =
  ( some ([P,N,V,W,X,Y,Z,b,R,U,dem b,a,f,g,i,k,l,m,n,o,c,d,p,q,r,s,t,u,w,x,y,z,A,B,C,D,E,F,G,H,I,dem b,K,L,M],S)):=by
 kernel_rfl
theorem zy.r12 :jl zi ⟨false,false,false⟩ (zU zi O) (reg Try.f33 12) (reg Try.f33 12).toList ([P,N,V,W,X,Y,Z,Q,R,U,b,a,f,g,i,k,l,m,n,o,c,d,p,q,r,s,t,u,w,x,y,z,A,B,C,D,E,F,G,H,I,J,K,L,M]) S =
  (zO (wE zi BinOp.add 3 d (.int .i64 1) S) (fun v0 S1=>some ([P,N,V,W,X,Y,Z,Q,R,U,b,a,f,g,i,k,l,m,n,o,c,dem v0,p,q,r,s,t,u,w,x,y,z,A,B,C,D,E,F,G,H,I,J,v0,L,M],S1)) ()):=by
 kernel_rfl
theorem zy.r13 :jl zi ⟨false,false,false⟩ (zU zi O) (reg Try.f33 13) (reg Try.f33 13).toList ([P,N,V,W,X,Y,Z,Q,R,U,b,a,f,g,i,k,l,m,n,o,c,d,p,q,r,s,t,u,w,x,y,z,A,B,C,D,E,F,G,H,I,J,K,L,M]) S =
  ( some ([P,N,V,W,R,Q,.int .i64 0,dem Q,dem R,U,b,a,f,g,i,k,l,m,n,o,c,d,p,q,r,s,t,u,w,x,y,z,A,B,C,D,E,F,G,H,I,J,K,dem R,dem Q],S)):=by
 kernel_rfl
theorem zy.rs:type_of% (ahs @zy.r0 (ahs @zy.r1 (ahs @zy.r2 (ahs @zy.r3 (ahs @zy.r4 (ahs @zy.r5 (ahs @zy.r6 (ahs @zy.r7 (ahs @zy.r8 (ahs @zy.r9 (ahs @zy.r10 (ahs @zy.r11 (ahs @zy.r12 (@zy.r13)))))))))))))):=ahs @zy.r0 (ahs @zy.r1 (ahs @zy.r2 (ahs @zy.r3 (ahs @zy.r4 (ahs @zy.r5 (ahs @zy.r6 (ahs @zy.r7 (ahs @zy.r8 (ahs @zy.r9 (ahs @zy.r10 (ahs @zy.r11 (ahs @zy.r12 (@zy.r13)))))))))))))
theorem zy.runs {P N:Value} {S S1:zx} {e:AEx} {T:List Value} (h:zD zi O false zy.code ([P,N,zh,zh,zh,zh,zh,zh,zh,zh,zh,zh,zh,zh,zh,zh,zh,zh,zh,zh,zh,zh,zh,zh,zh,zh,zh,zh,zh,zh,zh,zh,zh,zh,zh,zh,zh,zh,zh,zh,zh,zh,zh,zh,zh]) S=some (e,T,S1)) (he:e=.normal∨e=.ret)  (h0:jG (T.getD 4 zh)=true) (h1:jG (T.getD 5 zh)=true) (h2:jG (T.getD 6 zh)=true):zU zi O 33 [P,N] S=some (Value.tuple #[T.getD 4 zh,T.getD 5 zh,T.getD 6 zh],S1) :=
 yD rfl rfl Try.func33 (by decide) zy.body (by exact h) he ((qh ((show zJ zi T S1 Try.f33.results.toList=zJ zi T S1 [(ResultVar.tmp 4),(ResultVar.tmp 5),(ResultVar.tmp 6)] from by kernel_rfl).trans (by simp only [zJ])) (by kernel_rfl) (by simp only [List.all_cons,List.all_nil,h0,h1,h2,Bool.and_true])).trans rfl)
end Go.Proofs.Ytgggklfbhmlapaa
namespace Go.Proofs.Ytgggklfbhmlapaa
open Go.Abs
abbrev zF.id:FuncId:=28
noncomputable def zF.jm:Code:=(.seq (.region 5 (reg Try.f28 5) false) (.seq (.cond (.tmp 13) Code.skip (.exit 0)) (.seq (.block 1 (.seq (.region 6 (reg Try.f28 6) false) (.seq (.seq (.region 7 (reg Try.f28 7) false) (.cond (.tmp 17) (.seq (.region 8 (reg Try.f28 8) false) Code.ret) Code.skip)) (.region 9 (reg Try.f28 9) false)))) (.region 10 (reg Try.f28 10) false))))
noncomputable def zF.code:Code:=(.seq (.region 0 (reg Try.f28 0) false) (.seq (.seq (.region 1 (reg Try.f28 1) false) (.cond (.tmp 9) (.seq (.region 2 (reg Try.f28 2) false) Code.ret) Code.skip)) (.seq (.region 3 (reg Try.f28 3) false) (.seq (.seq (.region 4 (reg Try.f28 4) false) (.block 0 (.loop zF.jm))) (.seq (.region 11 (reg Try.f28 11) false) Code.ret)))))
theorem zF.body:Try.f28.body=some zF.code:=by kernel_rfl
theorem zF.eta {T:List Value} (h:T.length=26):T=[T.getD 0 zh,T.getD 1 zh,T.getD 2 zh,T.getD 3 zh,T.getD 4 zh,T.getD 5 zh,T.getD 6 zh,T.getD 7 zh,T.getD 8 zh,T.getD 9 zh,T.getD 10 zh,T.getD 11 zh,T.getD 12 zh,T.getD 13 zh,T.getD 14 zh,T.getD 15 zh,T.getD 16 zh,T.getD 17 zh,T.getD 18 zh,T.getD 19 zh,T.getD 20 zh,T.getD 21 zh,T.getD 22 zh,T.getD 23 zh,T.getD 24 zh,T.getD 25 zh]:=(y7 T 26 h).trans (by kernel_rfl)
variable (s v A B u w t x y z b c a d f g i j k l m n o p q r:Value) (S:zx)
theorem zF.r0 :jl zi ⟨false,false,false⟩ (zU zi O) (reg Try.f28 0) (reg Try.f28 0).toList ([s,v,A,B,u,w,t,x,y,z,b,c,a,d,f,g,i,j,k,l,m,n,o,p,q,r]) S =
  ( some ([s,v,Value.slice none 0 0,.int .i64 0,u,w,t,x,y,z,b,c,a,d,f,g,i,j,k,l,m,n,o,p,q,r],S)):=by
 kernel_rfl
theorem zF.r1 :jl zi ⟨false,false,false⟩ (zU zi O) (reg Try.f28 1) (reg Try.f28 1).toList ([s,v,A,B,u,w,t,x,y,z,b,c,a,d,f,g,i,j,k,l,m,n,o,p,q,r]) S =
  (zO (Jc zi 53 (dem s) S) (fun D C=>zO (wE zi BinOp.gtr 3 D (.int .i64 64) C) (fun G F=>some ([s,v,A,B,u,w,t,dem s,D,G,b,c,a,d,f,g,i,j,k,l,m,n,o,p,q,r],F)) ()) ()):=by
 kernel_rfl
theorem zF.r2 :jl zi ⟨false,false,false⟩ (zU zi O) (reg Try.f28 2) (reg Try.f28 2).toList ([s,v,A,B,u,w,t,x,y,z,b,c,a,d,f,g,i,j,k,l,m,n,o,p,q,r]) S =
  ( some ([s,v,Value.slice none 0 0,.int .i64 11,u,w,t,x,y,z,b,c,a,d,f,g,i,j,k,l,m,n,o,p,q,r],S)):=by
 kernel_rfl
theorem zF.r3 :jl zi ⟨false,false,false⟩ (zU zi O) (reg Try.f28 3) (reg Try.f28 3).toList ([s,v,A,B,u,w,t,x,y,z,b,c,a,d,f,g,i,j,k,l,m,n,o,p,q,r]) S =
  ( some ([s,v,A,B,Value.slice none 0 0,w,t,x,y,z,b,c,a,d,f,g,i,j,k,l,m,n,o,p,q,r],S)):=by
 kernel_rfl
theorem zF.r4 :jl zi ⟨false,false,false⟩ (zU zi O) (reg Try.f28 4) (reg Try.f28 4).toList ([s,v,A,B,u,w,t,x,y,z,b,c,a,d,f,g,i,j,k,l,m,n,o,p,q,r]) S =
  (zO (Jc zi 53 (dem s) S) (fun D C=>some ([s,v,A,B,u,w,t,x,y,z,dem s,D,.int .i64 0,d,f,g,i,j,k,l,m,n,o,p,q,r],C)) ()):=by
 kernel_rfl
theorem zF.r5 :jl zi ⟨false,false,false⟩ (zU zi O) (reg Try.f28 5) (reg Try.f28 5).toList ([s,v,A,B,u,w,t,x,y,z,b,c,a,d,f,g,i,j,k,l,m,n,o,p,q,r]) S =
  (zO (wE zi BinOp.lss 3 a c S) (fun E C=>some ([s,v,A,B,u,w,t,x,y,z,b,c,a,E,f,g,i,j,k,l,m,n,o,p,q,r],C)) ()):=by
 kernel_rfl
theorem zF.r6 :jl zi ⟨false,false,false⟩ (zU zi O) (reg Try.f28 6) (reg Try.f28 6).toList ([s,v,A,B,u,w,t,x,y,z,b,c,a,d,f,g,i,j,k,l,m,n,o,p,q,r]) S =
  (zO (zV zi 53 b a S) (fun E C=>zO (zZ zi false 3 E C) (fun D F=>some ([s,v,A,B,u,w,D,x,y,z,b,c,a,d,E,dem D,i,j,k,l,m,n,o,p,q,r],F)) ()) ()):=by
 kernel_rfl
theorem zF.r7 :jl zi ⟨false,false,false⟩ (zU zi O) (reg Try.f28 7) (reg Try.f28 7).toList ([s,v,A,B,u,w,t,x,y,z,b,c,a,d,f,g,i,j,k,l,m,n,o,p,q,r]) S =
  (zO (wE zi BinOp.lss 3 (dem t) (.int .i64 (-1)) S) (fun D C=>some ([s,v,A,B,u,w,t,x,y,z,b,c,a,d,f,g,dem t,D,k,l,m,n,o,p,q,r],C)) ()):=by
 kernel_rfl
theorem zF.r8 :jl zi ⟨false,false,false⟩ (zU zi O) (reg Try.f28 8) (reg Try.f28 8).toList ([s,v,A,B,u,w,t,x,y,z,b,c,a,d,f,g,i,j,k,l,m,n,o,p,q,r]) S =
  ( some ([s,v,Value.slice none 0 0,.int .i64 11,u,w,t,x,y,z,b,c,a,d,f,g,i,j,k,l,m,n,o,p,q,r],S)):=by
 kernel_rfl
theorem zF.r9 :jl zi ⟨false,false,false⟩ (zU zi O) (reg Try.f28 9) (reg Try.f28 9).toList ([s,v,A,B,u,w,t,x,y,z,b,c,a,d,f,g,i,j,k,l,m,n,o,p,q,r]) S =
  (zO (yT zi false false 3 68 (dem t) S) (fun G C=>zO (wE zi BinOp.add 68 G (Value.int IntKind.u64 1) C) (fun H F=>zO ((zU zi O) 40 [(dem H)] F) (fun I K=>zO (wu zi 33 33 u I K) (fun J L=>some ([s,v,A,B,J,w,t,x,y,z,b,c,a,d,f,g,i,j,dem u,dem t,G,H,I,dem J,q,r],L)) ()) ()) ()) ()):=by
 kernel_rfl
theorem zF.r10 :jl zi ⟨false,false,false⟩ (zU zi O) (reg Try.f28 10) (reg Try.f28 10).toList ([s,v,A,B,u,w,t,x,y,z,b,c,a,d,f,g,i,j,k,l,m,n,o,p,q,r]) S =
  (zO (wE zi BinOp.add 3 a (.int .i64 1) S) (fun E C=>some ([s,v,A,B,u,w,t,x,y,z,b,c,dem E,d,f,g,i,j,k,l,m,n,o,p,E,r],C)) ()):=by
 kernel_rfl
theorem zF.r11 :jl zi ⟨false,false,false⟩ (zU zi O) (reg Try.f28 11) (reg Try.f28 11).toList ([s,v,A,B,u,w,t,x,y,z,b,c,a,d,f,g,i,j,k,l,m,n,o,p,q,r]) S =
  ( some ([s,v,u,.int .i64 0,dem u,w,t,x,y,z,b,c,a,d,f,g,i,j,k,l,m,n,o,p,q,dem u],S)):=by
 kernel_rfl
theorem zF.rs:type_of% (ahs @zF.r0 (ahs @zF.r1 (ahs @zF.r2 (ahs @zF.r3 (ahs @zF.r4 (ahs @zF.r5 (ahs @zF.r6 (ahs @zF.r7 (ahs @zF.r8 (ahs @zF.r9 (ahs @zF.r10 (@zF.r11)))))))))))):=ahs @zF.r0 (ahs @zF.r1 (ahs @zF.r2 (ahs @zF.r3 (ahs @zF.r4 (ahs @zF.r5 (ahs @zF.r6 (ahs @zF.r7 (ahs @zF.r8 (ahs @zF.r9 (ahs @zF.r10 (@zF.r11)))))))))))
theorem zF.runs {s:Value} {S C:zx} {e:AEx} {T:List Value} (h:zD zi O false zF.code ([s,zh,zh,zh,zh,zh,zh,zh,zh,zh,zh,zh,zh,zh,zh,zh,zh,zh,zh,zh,zh,zh,zh,zh,zh,zh]) S=some (e,T,C)) (he:e=.normal∨e=.ret)  (h0:jG (T.getD 2 zh)=true) (h1:jG (T.getD 3 zh)=true):zU zi O 28 [s] S=some (Value.tuple #[T.getD 2 zh,T.getD 3 zh],C) :=
 yD rfl rfl Try.func28 (by decide) zF.body (by exact h) he ((qh ((show zJ zi T C Try.f28.results.toList=zJ zi T C [(ResultVar.tmp 2),(ResultVar.tmp 3)] from by kernel_rfl).trans (by simp only [zJ])) (by kernel_rfl) (by simp only [List.all_cons,List.all_nil,h0,h1,Bool.and_true])).trans rfl)
end Go.Proofs.Ytgggklfbhmlapaa
namespace Go.Proofs.Ytgggklfbhmlapaa
open Go.Abs
abbrev slices_Clone.id:FuncId:=43
noncomputable def slices_Clone.code:Code:=(.seq (.region 0 (reg Try.f43 0) false) (.seq (.seq (.region 1 (reg Try.f43 1) false) (.cond (.tmp 4) (.seq (.region 2 (reg Try.f43 2) false) Code.ret) Code.skip)) (.seq (.region 3 (reg Try.f43 3) false) Code.ret)))
theorem slices_Clone.body:Try.f43.body=some slices_Clone.code:=by kernel_rfl
variable (b c l f g i j k:Value) (S:zx)
theorem slices_Clone.r0 :jl zi ⟨false,false,false⟩ (zU zi O) (reg Try.f43 0) (reg Try.f43 0).toList ([b,c,l,f,g,i,j,k]) S =
  ( some ([b,c,Value.slice none 0 0,f,g,i,j,k],S)):=by
 kernel_rfl
theorem slices_Clone.r1 :jl zi ⟨false,false,false⟩ (zU zi O) (reg Try.f43 1) (reg Try.f43 1).toList ([b,c,l,f,g,i,j,k]) S =
  (zO (wE zi BinOp.eql 33 (dem b) (Value.slice none 0 0) S) (fun o d=>some ([b,c,l,dem b,o,i,j,k],d)) ()):=by
 kernel_rfl
theorem slices_Clone.r2 :jl zi ⟨false,false,false⟩ (zU zi O) (reg Try.f43 2) (reg Try.f43 2).toList ([b,c,l,f,g,i,j,k]) S =
  ( some ([b,c,Value.slice none 0 0,f,g,i,j,k],S)):=by
 kernel_rfl
theorem slices_Clone.r3 :jl zi ⟨false,false,false⟩ (zU zi O) (reg Try.f43 3) (reg Try.f43 3).toList ([b,c,l,f,g,i,j,k]) S =
  (zO (jI zi 33 0 [] S) (fun m d=>zO (wu zi 33 33 m (dem b) d) (fun n p=>some ([b,c,n,f,g,dem m,dem b,dem n],p)) ()) ()):=by
 kernel_rfl
theorem slices_Clone.runs {b:Value} {S d:zx} {e:AEx} {T:List Value} (h:zD zi O false slices_Clone.code ([b,zh,zh,zh,zh,zh,zh,zh]) S=some (e,T,d)) (he:e=.normal∨e=.ret):zU zi O 43 [b] S=some (T.getD 2 zh,d) :=
 yD rfl rfl Try.func43 (by decide) slices_Clone.body (by exact h) he (yP (a:=T.getD 2 zh) ((show zJ zi T d Try.f43.results.toList=zJ zi T d [(ResultVar.tmp 2)] from by kernel_rfl).trans (by simp only [zJ])) (by kernel_rfl))
end Go.Proofs.Ytgggklfbhmlapaa
namespace Go.Proofs.Ytgggklfbhmlapaa
open Go.Abs
abbrev zB.id:FuncId:=44
noncomputable def zB.jm:Code:=(.seq (.region 3 (reg Try.f44 3) false) (.seq (.cond (.tmp 11) Code.skip (.exit 0)) (.seq (.block 1 (.seq (.region 4 (reg Try.f44 4) false) (.seq (.seq (.region 5 (reg Try.f44 5) false) (.cond (.tmp 28) (.exit 0) Code.skip)) (.seq (.region 6 (reg Try.f44 6) false) (.seq (.region 7 (reg Try.f44 7) false) (.cond (.tmp 38) (.seq (.region 8 (reg Try.f44 8) false) Code.ret) Code.skip)))))) (.region 9 (reg Try.f44 9) false))))
noncomputable def zB.code:Code:=(.seq (.region 0 (reg Try.f44 0) false) (.seq (.region 1 (reg Try.f44 1) false) (.seq (.seq (.region 2 (reg Try.f44 2) false) (.block 0 (.loop zB.jm))) (.seq (.region 10 (reg Try.f44 10) false) Code.ret))))
theorem zB.body:Try.f44.body=some zB.code:=by kernel_rfl
theorem zB.eta {T:List Value} (h:T.length=46):T=[T.getD 0 zh,T.getD 1 zh,T.getD 2 zh,T.getD 3 zh,T.getD 4 zh,T.getD 5 zh,T.getD 6 zh,T.getD 7 zh,T.getD 8 zh,T.getD 9 zh,T.getD 10 zh,T.getD 11 zh,T.getD 12 zh,T.getD 13 zh,T.getD 14 zh,T.getD 15 zh,T.getD 16 zh,T.getD 17 zh,T.getD 18 zh,T.getD 19 zh,T.getD 20 zh,T.getD 21 zh,T.getD 22 zh,T.getD 23 zh,T.getD 24 zh,T.getD 25 zh,T.getD 26 zh,T.getD 27 zh,T.getD 28 zh,T.getD 29 zh,T.getD 30 zh,T.getD 31 zh,T.getD 32 zh,T.getD 33 zh,T.getD 34 zh,T.getD 35 zh,T.getD 36 zh,T.getD 37 zh,T.getD 38 zh,T.getD 39 zh,T.getD 40 zh,T.getD 41 zh,T.getD 42 zh,T.getD 43 zh,T.getD 44 zh,T.getD 45 zh]:=(y7 T 46 h).trans (by kernel_rfl)
theorem zB.list {T:List Value} (h:T.length=46):∃ P V Y Z x4 U Q R W X a b c d f g i k l m n o p q r s t u w x y z A B C D E F G H I J K L M N,T=[P,V,Y,Z,x4,U,Q,R,W,X,a,b,c,d,f,g,i,k,l,m,n,o,p,q,r,s,t,u,w,x,y,z,A,B,C,D,E,F,G,H,I,J,K,L,M,N]:=⟨_,_,_,_,_,_,_,_,_,_,_,_,_,_,_,_,_,_,_,_,_,_,_,_,_,_,_,_,_,_,_,_,_,_,_,_,_,_,_,_,_,_,_,_,_,_,zB.eta h⟩
variable (P V Y Z x4 U Q R W X a b c d f g i k l m n o p q r s t u w x y z A B C D E F G H I J K L M N:Value) (S:zx)
theorem zB.r0 :jl zi ⟨false,false,false⟩ (zU zi O) (reg Try.f44 0) (reg Try.f44 0).toList ([P,V,Y,Z,x4,U,Q,R,W,X,a,b,c,d,f,g,i,k,l,m,n,o,p,q,r,s,t,u,w,x,y,z,A,B,C,D,E,F,G,H,I,J,K,L,M,N]) S =
  ( some ([P,V,Value.int IntKind.u64 0,Value.slice none 0 0,.int .i64 0,U,Q,R,W,X,a,b,c,d,f,g,i,k,l,m,n,o,p,q,r,s,t,u,w,x,y,z,A,B,C,D,E,F,G,H,I,J,K,L,M,N],S)):=by
 kernel_rfl
theorem zB.r1 :jl zi ⟨false,false,false⟩ (zU zi O) (reg Try.f44 1) (reg Try.f44 1).toList ([P,V,Y,Z,x4,U,Q,R,W,X,a,b,c,d,f,g,i,k,l,m,n,o,p,q,r,s,t,u,w,x,y,z,A,B,C,D,E,F,G,H,I,J,K,L,M,N]) S =
  ( some ([P,V,Y,Z,x4,Value.int IntKind.u64 0,Q,R,W,X,a,b,c,d,f,g,i,k,l,m,n,o,p,q,r,s,t,u,w,x,y,z,A,B,C,D,E,F,G,H,I,J,K,L,M,N],S)):=by
 kernel_rfl
theorem zB.r2 :jl zi ⟨false,false,false⟩ (zU zi O) (reg Try.f44 2) (reg Try.f44 2).toList ([P,V,Y,Z,x4,U,Q,R,W,X,a,b,c,d,f,g,i,k,l,m,n,o,p,q,r,s,t,u,w,x,y,z,A,B,C,D,E,F,G,H,I,J,K,L,M,N]) S =
  (zO (Jc zi 33 (dem P) S) (fun v1 S1=>some ([P,V,Y,Z,x4,U,Q,R,dem P,v1,.int .i64 0,b,c,d,f,g,i,k,l,m,n,o,p,q,r,s,t,u,w,x,y,z,A,B,C,D,E,F,G,H,I,J,K,L,M,N],S1)) ()):=by
 kernel_rfl
theorem zB.r3 :jl zi ⟨false,false,false⟩ (zU zi O) (reg Try.f44 3) (reg Try.f44 3).toList ([P,V,Y,Z,x4,U,Q,R,W,X,a,b,c,d,f,g,i,k,l,m,n,o,p,q,r,s,t,u,w,x,y,z,A,B,C,D,E,F,G,H,I,J,K,L,M,N]) S =
  (zO (wE zi BinOp.lss 3 a X S) (fun v0 S1=>some ([P,V,Y,Z,x4,U,Q,R,W,X,a,v0,c,d,f,g,i,k,l,m,n,o,p,q,r,s,t,u,w,x,y,z,A,B,C,D,E,F,G,H,I,J,K,L,M,N],S1)) ()):=by
 kernel_rfl
theorem zB.r4 :jl zi ⟨false,false,false⟩ (zU zi O) (reg Try.f44 4) (reg Try.f44 4).toList ([P,V,Y,Z,x4,U,Q,R,W,X,a,b,c,d,f,g,i,k,l,m,n,o,p,q,r,s,t,u,w,x,y,z,A,B,C,D,E,F,G,H,I,J,K,L,M,N]) S =
  (zO (zV zi 33 W (dem a) S) (fun v1 S1=>zO (zZ zi false 5 v1 S1) (fun v2 S2=>some ([P,V,Y,Z,x4,U,a,v2,W,X,dem a,b,dem a,v1,dem v2,g,i,k,l,m,n,o,p,q,r,s,t,u,w,x,y,z,A,B,C,D,E,F,G,H,I,J,K,L,M,N],S2)) ()) ()):=by
 kernel_rfl
theorem zB.r5 :jl zi ⟨false,false,false⟩ (zU zi O) (reg Try.f44 5) (reg Try.f44 5).toList ([P,V,Y,Z,x4,U,Q,R,W,X,a,b,c,d,f,g,i,k,l,m,n,o,p,q,r,s,t,u,w,x,y,z,A,B,C,D,E,F,G,H,I,J,K,L,M,N]) S =
  (zO (wE zi BinOp.eql 3 (dem Q) (.int .i64 9) S) (fun v1 S1=>gdK (dem v1) true (ret R) S1 (fun v3 S2=>gdK (dem v1) true (wE zi BinOp.gtr 5 (dem v3) (Value.int IntKind.u8 1)) S2 (fun v4 S3=>zO (yX (dem v1) v4 (Value.bool false) S3) (fun v5 S4=>gdK (dem v5) false (ret Q) S4 (fun v7 S5=>gdK (dem v5) false (wE zi BinOp.gtr 3 (dem v7) (.int .i64 0)) S5 (fun v8 S6=>gdK (dem v5) false (ret v8) S6 (fun v9 S7=>gdK (dem v9) true (ret R) S7 (fun a0 S8=>gdK (dem v9) true (wE zi BinOp.eql 5 (dem a0) (Value.int IntKind.u8 0)) S8 (fun a1 S9=>gdK (dem v5) false (yX (dem v9) a1 (Value.bool false)) S9 (fun a2 a3=>zO (yX (dem v5) (Value.bool true) a2 a3) (fun a4 a5=>some ([P,V,Y,Z,x4,U,Q,R,W,X,a,b,c,d,f,dem Q,v1,dem v1,dem v3,v4,v5,dem v5,dem v7,v8,dem v9,dem a0,a1,a2,a4,x,y,z,A,B,C,D,E,F,G,H,I,J,K,L,M,N],a5)) ()) ()) ()) ()) ()) ()) ()) ()) ()) ()) ()):=by
 refine sP Try.f44 5 0 (v:=Q) ?_
 refine sD Try.f44 5 1 (fun v1 S1=>?_)
 refine sP Try.f44 5 2 (v:=v1) ?_
 refine sG Try.f44 5 3 (j:=2) (fun v3 S2=>?_)
 refine sG Try.f44 5 4 (j:=2) (fun v4 S3=>?_)
 refine sD Try.f44 5 5 (fun v5 S4=>?_)
 refine sP Try.f44 5 6 (v:=v5) ?_
 refine sG Try.f44 5 7 (j:=6) (fun v7 S5=>?_)
 refine sG Try.f44 5 8 (j:=6) (fun v8 S6=>?_)
 refine sG Try.f44 5 9 (j:=6) (fun v9 S7=>?_)
 refine sG Try.f44 5 10 (j:=9) (fun a0 S8=>?_)
 refine sG Try.f44 5 11 (j:=9) (fun a1 S9=>?_)
 refine sG Try.f44 5 12 (j:=6) (fun a2 a3=>?_)
 refine sD Try.f44 5 13 (fun a4 a5=>?_)
 kernel_rfl
theorem zB.r6 :jl zi ⟨false,false,false⟩ (zU zi O) (reg Try.f44 6) (reg Try.f44 6).toList ([P,V,Y,Z,x4,U,Q,R,W,X,a,b,c,d,f,g,i,k,l,m,n,o,p,q,r,s,t,u,w,x,y,z,A,B,C,D,E,F,G,H,I,J,K,L,M,N]) S =
  (zO (wE zi BinOp.and 5 (dem R) (Value.int IntKind.u8 127) S) (fun v2 S1=>zO (yT zi false false 5 68 v2 S1) (fun v3 S2=>zO (wE zi BinOp.mul 3 (.int .i64 7) (dem Q) S2) (fun v5 S3=>zO (wE zi BinOp.shl 68 v3 v5 S3) (fun v6 S4=>zO (wE zi BinOp.or 68 (dem U) v6 S4) (fun v7 S5=>some ([P,V,Y,Z,x4,v7,Q,R,W,X,a,b,c,d,f,g,i,k,l,m,n,o,p,q,r,s,t,u,w,dem U,dem R,v2,v3,dem Q,v5,v6,dem v7,F,G,H,I,J,K,L,M,N],S5)) ()) ()) ()) ()) ()):=by
 kernel_rfl
theorem zB.r7 :jl zi ⟨false,false,false⟩ (zU zi O) (reg Try.f44 7) (reg Try.f44 7).toList ([P,V,Y,Z,x4,U,Q,R,W,X,a,b,c,d,f,g,i,k,l,m,n,o,p,q,r,s,t,u,w,x,y,z,A,B,C,D,E,F,G,H,I,J,K,L,M,N]) S =
  (zO (wE zi BinOp.lss 5 (dem R) (Value.int IntKind.u8 128) S) (fun v1 S1=>some ([P,V,Y,Z,x4,U,Q,R,W,X,a,b,c,d,f,g,i,k,l,m,n,o,p,q,r,s,t,u,w,x,y,z,A,B,C,D,E,dem R,v1,H,I,J,K,L,M,N],S1)) ()):=by
 kernel_rfl
theorem zB.r8 :jl zi ⟨false,false,false⟩ (zU zi O) (reg Try.f44 8) (reg Try.f44 8).toList ([P,V,Y,Z,x4,U,Q,R,W,X,a,b,c,d,f,g,i,k,l,m,n,o,p,q,r,s,t,u,w,x,y,z,A,B,C,D,E,F,G,H,I,J,K,L,M,N]) S =
  (zO (wE zi BinOp.add 3 (dem Q) (.int .i64 1) S) (fun v3 S1=>zO (kL zi false 33 (dem P) (some v3) none S1) (fun v4 S2=>zO ((zU zi O) 43 [(dem v4)] S2) (fun v5 S3=>some ([P,V,U,v5,.int .i64 0,dem U,Q,R,W,X,a,b,c,d,f,g,i,k,l,m,n,o,p,q,r,s,t,u,w,x,y,z,A,B,C,D,E,F,G,dem U,dem P,dem Q,v3,v4,dem v5,N],S3)) ()) ()) ()):=by
 kernel_rfl
theorem zB.r9 :jl zi ⟨false,false,false⟩ (zU zi O) (reg Try.f44 9) (reg Try.f44 9).toList ([P,V,Y,Z,x4,U,Q,R,W,X,a,b,c,d,f,g,i,k,l,m,n,o,p,q,r,s,t,u,w,x,y,z,A,B,C,D,E,F,G,H,I,J,K,L,M,N]) S =
  (zO (wE zi BinOp.add 3 a (.int .i64 1) S) (fun v0 S1=>some ([P,V,Y,Z,x4,U,Q,R,W,X,dem v0,b,c,d,f,g,i,k,l,m,n,o,p,q,r,s,t,u,w,x,y,z,A,B,C,D,E,F,G,H,I,J,K,L,M,v0],S1)) ()):=by
 kernel_rfl
theorem zB.r10 :jl zi ⟨false,false,false⟩ (zU zi O) (reg Try.f44 10) (reg Try.f44 10).toList ([P,V,Y,Z,x4,U,Q,R,W,X,a,b,c,d,f,g,i,k,l,m,n,o,p,q,r,s,t,u,w,x,y,z,A,B,C,D,E,F,G,H,I,J,K,L,M,N]) S =
  ( some ([P,V,Value.int IntKind.u64 0,Value.slice none 0 0,.int .i64 11,U,Q,R,W,X,a,b,c,d,f,g,i,k,l,m,n,o,p,q,r,s,t,u,w,x,y,z,A,B,C,D,E,F,G,H,I,J,K,L,M,N],S)):=by
 kernel_rfl
theorem zB.runs {P:Value} {S S1:zx} {e:AEx} {T:List Value} (h:zD zi O false zB.code ([P,zh,zh,zh,zh,zh,zh,zh,zh,zh,zh,zh,zh,zh,zh,zh,zh,zh,zh,zh,zh,zh,zh,zh,zh,zh,zh,zh,zh,zh,zh,zh,zh,zh,zh,zh,zh,zh,zh,zh,zh,zh,zh,zh,zh,zh]) S=some (e,T,S1)) (he:e=.normal∨e=.ret)  (h0:jG (T.getD 2 zh)=true) (h1:jG (T.getD 3 zh)=true) (h2:jG (T.getD 4 zh)=true):zU zi O 44 [P] S=some (Value.tuple #[T.getD 2 zh,T.getD 3 zh,T.getD 4 zh],S1) :=
 yD rfl rfl Try.func44 (by decide) zB.body (by exact h) he ((qh ((show zJ zi T S1 Try.f44.results.toList=zJ zi T S1 [(ResultVar.tmp 2),(ResultVar.tmp 3),(ResultVar.tmp 4)] from by kernel_rfl).trans (by simp only [zJ])) (by kernel_rfl) (by simp only [List.all_cons,List.all_nil,h0,h1,h2,Bool.and_true])).trans rfl)
end Go.Proofs.Ytgggklfbhmlapaa
namespace Go.Proofs.Ytgggklfbhmlapaa
open Go.Abs
abbrev jg.id:FuncId:=40
noncomputable def jg.jm:Code:=(.seq (.seq (.region 2 (reg Try.f40 2) false) (.cond (.tmp 5) Code.skip (.exit 0))) (.block 1 (.seq (.region 3 (reg Try.f40 3) false) (.region 4 (reg Try.f40 4) false))))
noncomputable def jg.code:Code:=(.seq (.region 0 (reg Try.f40 0) false) (.seq (.region 1 (reg Try.f40 1) false) (.seq (.block 0 (.loop jg.jm)) (.seq (.region 5 (reg Try.f40 5) false) Code.ret))))
theorem jg.body:Try.f40.body=some jg.code:=by kernel_rfl
theorem jg.eta {T:List Value} (h:T.length=19):T=[T.getD 0 zh,T.getD 1 zh,T.getD 2 zh,T.getD 3 zh,T.getD 4 zh,T.getD 5 zh,T.getD 6 zh,T.getD 7 zh,T.getD 8 zh,T.getD 9 zh,T.getD 10 zh,T.getD 11 zh,T.getD 12 zh,T.getD 13 zh,T.getD 14 zh,T.getD 15 zh,T.getD 16 zh,T.getD 17 zh,T.getD 18 zh]:=(y7 T 19 h).trans (by kernel_rfl)
theorem jg.list {T:List Value} (h:T.length=19):∃ b o v n p q r s t u c d f g i j k l m,T=[b,o,v,n,p,q,r,s,t,u,c,d,f,g,i,j,k,l,m]:=⟨_,_,_,_,_,_,_,_,_,_,_,_,_,_,_,_,_,_,_,jg.eta h⟩
variable (b o v n p q r s t u c d f g i j k l m:Value) (S:zx)
theorem jg.r0 :jl zi ⟨false,false,false⟩ (zU zi O) (reg Try.f40 0) (reg Try.f40 0).toList ([b,o,v,n,p,q,r,s,t,u,c,d,f,g,i,j,k,l,m]) S =
  ( some ([b,o,Value.slice none 0 0,n,p,q,r,s,t,u,c,d,f,g,i,j,k,l,m],S)):=by
 kernel_rfl
theorem jg.r1 :jl zi ⟨false,false,false⟩ (zU zi O) (reg Try.f40 1) (reg Try.f40 1).toList ([b,o,v,n,p,q,r,s,t,u,c,d,f,g,i,j,k,l,m]) S =
  ( some ([b,o,v,Value.slice none 0 0,p,q,r,s,t,u,c,d,f,g,i,j,k,l,m],S)):=by
 kernel_rfl
theorem jg.r2 :jl zi ⟨false,false,false⟩ (zU zi O) (reg Try.f40 2) (reg Try.f40 2).toList ([b,o,v,n,p,q,r,s,t,u,c,d,f,g,i,j,k,l,m]) S =
  (zO (wE zi BinOp.geq 68 (dem b) (Value.int IntKind.u64 128) S) (fun A w=>some ([b,o,v,n,dem b,A,r,s,t,u,c,d,f,g,i,j,k,l,m],w)) ()):=by
 kernel_rfl
theorem jg.r3 :jl zi ⟨false,false,false⟩ (zU zi O) (reg Try.f40 3) (reg Try.f40 3).toList ([b,o,v,n,p,q,r,s,t,u,c,d,f,g,i,j,k,l,m]) S =
  (zO (yT zi false false 68 5 (dem b) S) (fun x w=>zO (wE zi BinOp.or 5 x (Value.int IntKind.u8 128) w) (fun y B=>zO (jI zi 33 1 [(0,y)] B) (fun z C=>zO (wu zi 33 33 n z C) (fun D E=>some ([b,o,v,D,p,q,dem n,dem b,x,y,z,dem D,f,g,i,j,k,l,m],E)) ()) ()) ()) ()):=by
 kernel_rfl
theorem jg.r4 :jl zi ⟨false,false,false⟩ (zU zi O) (reg Try.f40 4) (reg Try.f40 4).toList ([b,o,v,n,p,q,r,s,t,u,c,d,f,g,i,j,k,l,m]) S =
  (zO (wE zi BinOp.shr 68 (dem b) (Value.int IntKind.u64 7) S) (fun A w=>some ([A,o,v,n,p,q,r,s,t,u,c,d,dem b,dem A,i,j,k,l,m],w)) ()):=by
 kernel_rfl
theorem jg.r5 :jl zi ⟨false,false,false⟩ (zU zi O) (reg Try.f40 5) (reg Try.f40 5).toList ([b,o,v,n,p,q,r,s,t,u,c,d,f,g,i,j,k,l,m]) S =
  (zO (yT zi false false 68 5 (dem b) S) (fun x w=>zO (jI zi 33 1 [(0,x)] w) (fun y B=>zO (wu zi 33 33 n y B) (fun z C=>some ([b,o,z,dem n,p,q,r,s,t,u,c,d,f,g,dem n,dem b,x,y,dem z],C)) ()) ()) ()):=by
 kernel_rfl
theorem jg.runs {b:Value} {S w:zx} {e:AEx} {T:List Value} (h:zD zi O false jg.code ([b,zh,zh,zh,zh,zh,zh,zh,zh,zh,zh,zh,zh,zh,zh,zh,zh,zh,zh]) S=some (e,T,w)) (he:e=.normal∨e=.ret):zU zi O 40 [b] S=some (T.getD 2 zh,w) :=
 yD rfl rfl Try.func40 (by decide) jg.body (by exact h) he (yP (a:=T.getD 2 zh) ((show zJ zi T w Try.f40.results.toList=zJ zi T w [(ResultVar.tmp 2)] from by kernel_rfl).trans (by simp only [zJ])) (by kernel_rfl))
end Go.Proofs.Ytgggklfbhmlapaa
namespace Go.Proofs.Ytgggklfbhmlapaa
open Go.Abs
def enc (n:Nat):List UInt8:=if n < 128 then [UInt8.ofNat n] else UInt8.ofNat (n % 128+128)::enc (n / 128)
termination_by n
decreasing_by omega
theorem kV {n:Nat} (h:n < 128):enc n=[UInt8.ofNat n]:=by rw [enc,if_pos h]
theorem Jw {n:Nat} (h:¬ n < 128):enc n=UInt8.ofNat (n % 128+128)::enc (n / 128):=by rw [enc,if_neg h]
theorem wrap_u8 (n:Nat):IntKind.u8.wrap (n:Int)=((n % 256:Nat):Int):=by
 simp [IntKind.wrap,IntKind.bits,IntKind.signed]
theorem wrap_u64 (n:Nat):IntKind.u64.wrap (n:Int)=((n % 2 ^ 64:Nat):Int):=by
 simp [IntKind.wrap,IntKind.bits,IntKind.signed]
theorem aha:∀ m:Fin 256,orI .u8 (m.val:Int) 128=((m.val % 128+128:Nat):Int):=by decide +kernel
theorem ae2 (n:Nat):orI .u8 (IntKind.u8.wrap (n:Int)) 128=((UInt8.ofNat (n % 128+128)).toNat:Int):=by
 rw [wrap_u8,aha ⟨n % 256,by omega⟩]
 simp only [UInt8.toNat_ofNat']
 omega
theorem ae9 {n:Nat}:IntKind.u8.wrap (n:Int)=((UInt8.ofNat n).toNat:Int):=by
 rw [wrap_u8]
 simp
theorem ahq (n:Nat):(n:Int).fdiv (2 ^ min (Int.toNat 7) (IntKind.bits .u64))=((n / 128:Nat):Int):=by
 have:(2:Int) ^ min (Int.toNat 7) (IntKind.bits .u64)=128:=by decide
 rw [this,Int.fdiv_eq_ediv_of_nonneg _ (by omega)]
 omega
theorem afc (k:Nat):∀ n,n < 128 ^ (k+1)→(enc n).length≤k+1:=by
 induction k with
 | zero=>intro n h;rw [kV (by omega)];simp
 | succ k ih =>
  intro n h
  by_cases hn:n < 128
  ·
   rw [kV hn];simp
  ·
   rw [Jw hn]
   have:=ih (n / 128) (by rw [Nat.div_lt_iff_lt_mul (by omega)];exact h)
   simp only [List.length_cons];omega
theorem JF {n:Nat} (h:n < 2 ^ 64):(enc n).length≤10:=afc 9 n (Nat.lt_of_lt_of_le h (by decide))
theorem agt:sv 2 1 0 []=by_ 2 []:=rfl
theorem agH (x:UInt8):sv 2 1 1 [.int .u8 x.toNat]=by_ 2 [x]:=rfl
theorem abL {k:Nat} {l:List UInt8} {x:UInt8} {S:zx} (h:Okl k l) (hk:k≠1) (hl:l.length≤140737488355000):wu zi 33 33 (by_ k l) (by_ 2 [x]) S=some (by_ 2 (l++[x]),S):=by
 rw [vk h hk Okl.own (by simp;omega),if_neg (fun h=>by have:=h.2;simp at this)]
theorem jg.round:∀ (n:Nat) (l:List UInt8) (k:Nat) {T:List Value} {S:zx} {r:St},yN (zD zi O false jg.jm) T S=r→T.length=19→T.getD 0 zh=.int .u64 n→T.getD 3 zh=by_ k l →
  Okl k l→k≠1→n * 2 ^ l.length < 2 ^ 64→∃ T' l' k' n',r=some (.exit 0,T',S)∧T'.length=19∧T'.getD 0 zh=.int .u64 (n':Nat)∧T'.getD 3 zh=by_ k' l' ∧
   Okl k' l'∧k'≠1∧n' < 128∧l'++[UInt8.ofNat n']=l++enc n:=by
 intro n
 induction n using Nat.strongRecOn with
 | _ n ih =>
  intro l k T S r hL hT h0 h3 hs hk hl
  obtain ⟨x0,x1,x2,x3,x4,x5,x6,x7,x8,x9,x10,x11,x12,x13,x14,x15,x16,x17,x18,hTe⟩:=jg.list hT
  rw [hTe] at h0 h3
  simp only [List.getD_cons_succ,List.getD_cons_zero] at h0 h3
  subst h0 h3
  have hr:zD zi O false jg.jm T S=zD zi O false jg.jm T S:=rfl
  by_cases hlt:n < 128
  ·
   have hd:decide ((128:Int)≤(n:Int))=false:=by simp;omega
   conv at hr =>
    rhs
    rw [hTe]
    simp only [jg.jm,zSs,reduceIte,zk,zn,zo,zq,jg.r2,hd]
   exact ⟨_,l,k,n,hL.symm.trans (jK hr (by simp)),rfl,rfl,rfl,hs,hk,hlt,by rw [kV hlt]⟩
  ·
   have hd:decide ((128:Int)≤(n:Int))=true:=by simp;omega
   have hll:l.length < 64:=by
    have:2 ^ l.length < 2 ^ 64:=Nat.lt_of_le_of_lt (Nat.le_mul_of_pos_left _ (by omega)) hl
    exact (Nat.pow_lt_pow_iff_right (by omega)).1 this
   have e1:∀ x S,wu zi 33 33 (by_ k l) (by_ 2 [x]) S=some (by_ 2 (l++[x]),S):=fun x S=>abL hs hk (by omega)
   conv at hr =>
    rhs
    rw [hTe]
    simp only [jg.jm,zSs,reduceIte,zk,zn,zo,zq,jg.r2,hd,jg.r3,xY,acy,ae2,Ja,agH,e1,jg.r4,acO _ _ _ _ (show (0:Int)≤7 by omega),ahq]
   have hmul:n / 128 * 2 ^ (l.length+1) < 2 ^ 64:=by
    refine Nat.lt_of_le_of_lt ?_ hl
    rw [Nat.pow_succ,Nat.mul_comm (2 ^ l.length) 2,← Nat.mul_assoc]
    exact Nat.mul_le_mul_right _ (by omega)
   obtain ⟨T',l',k',n',g1,g2,g3,g4,g5,g6,g7,g8⟩:=ih (n / 128) (by omega) _ 2 ((yc hr).symm.trans hL) rfl rfl rfl Okl.own (by decide) (by simpa using hmul)
   refine ⟨T',l',k',n',g1,g2,g3,g4,g5,g6,g7,?_⟩
   rw [g8,Jw hlt,List.append_assoc];rfl
theorem jg.v (n:Nat) (hn:n < 2 ^ 64) (S:zx):zU zi O jg.id [.int .u64 n] S=some (by_ 2 (enc n),S):=by
 obtain ⟨T,hTe⟩:∃ T,T=(.int .u64 n::zh::zh::zh::zh::zh::zh::zh::zh::zh::zh::zh::zh::zh::zh::zh::zh::zh::zh::[]):=⟨_,rfl⟩
 have hr:zD zi O false jg.code T S=zD zi O false jg.code T S:=rfl
 conv at hr =>
  rhs
  rw [hTe]
  simp only [jg.code,zSs,reduceIte,zk,zn,zo,zq,jg.r0,jg.r1]
 generalize hL:yN (zD zi O false jg.jm) _ _=r at hr
 obtain ⟨T',l',k',n',rfl,g2,g3,g4,g5,g6,g7,g8⟩:=jg.round n [] 0 hL rfl rfl rfl Okl.none (by decide) (by simpa using hn)
 obtain ⟨x0,x1,x2,x3,x4,x5,x6,x7,x8,x9,x10,x11,x12,x13,x14,x15,x16,x17,x18,hT'⟩:=jg.list g2
 rw [hT'] at g3 g4
 simp only [List.getD_cons_succ,List.getD_cons_zero] at g3 g4
 subst g3 g4
 have hlen:l'.length+1=(enc n).length:=by simpa using congrArg List.length g8
 have h10:=JF hn
 have e1:∀ x S,wu zi 33 33 (by_ k' l') (by_ 2 [x]) S=some (by_ 2 (l'++[x]),S):=fun x S=>abL g5 g6 (by omega)
 conv at hr =>
  rhs
  rw [hT']
  simp only [zSs,reduceIte,zk,zn,zo,zq,jg.r5,xY,ae9,Ja,agH,e1]
 rw [hTe] at hr
 have:=jg.runs hr (.inr rfl)
 rw [List.nil_append] at g8
 rw [← g8]
 exact this
end Go.Proofs.Ytgggklfbhmlapaa
namespace Go.Proofs.Ytgggklfbhmlapaa
open Go.Abs
theorem slices_Clone.v {k:Nat} {l:List UInt8} (h:Okl k l) (hk:k≠2) (hl:l.length≤140737488355328) (S:zx):zU zi O slices_Clone.id [by_ k l] S=some (by_ (if k=0 then 0 else 2) l,S):=by
 obtain ⟨T,hTe⟩:∃ T,T=(by_ k l::zh::zh::zh::zh::zh::zh::zh::[]):=⟨_,rfl⟩
 have hr:zD zi O false slices_Clone.code T S=zD zi O false slices_Clone.code T S:=rfl
 conv at hr =>
  rhs
  rw [hTe]
  simp only [slices_Clone.code,zSs,reduceIte,zk,zn,zo,zq,slices_Clone.r0,slices_Clone.r1,if_neg hk,adF h]
 by_cases h0:k=0
 ·
  have hl0:=h.nil h0
  subst h0 hl0
  conv at hr =>
   rhs
   simp only [decide_true,zSs,reduceIte,zk,zn,zo,zq,slices_Clone.r2]
  rw [hTe] at hr
  exact slices_Clone.runs hr (.inr rfl)
 ·
  have e1:∀ S,wu zi 33 33 (by_ 2 []) (by_ k l) S=some (by_ 2 l,S):=fun S=>by
   rw [vk Okl.own (by decide) h (by simpa using hl)];rfl
  conv at hr =>
   rhs
   simp only [h0,decide_false,zSs,reduceIte,zk,zn,zo,zq,slices_Clone.r3,ZX,agt,if_neg hk,e1]
  rw [hTe] at hr
  rw [if_neg h0]
  exact slices_Clone.runs hr (.inr rfl)
def scan:Nat→Nat→List UInt8→Option (Nat×List UInt8)
 | _,_,[]=>none
 | i,acc,x::r=>if (i=9∧1 < x.toNat)∨(0 < i∧x.toNat=0) then none else if x.toNat < 128 then some (acc+x.toNat * 128 ^ i,r) else scan (i+1) (acc+(x.toNat - 128) * 128 ^ i) r
def adf (l:List UInt8):Value :=
 match scan 0 0 l with
 | none=>.tuple #[.int .u64 0,.slice none 0 0,.int .i64 11]
 | some (m,rest)=>.tuple #[.int .u64 (m:Nat),by_ 2 rest,.int .i64 0]
theorem zB.stop (x0 x1 x2 x3 x4 x5 x6 x7 x8 x9 x10 x11 x12 x13 x14 x15 x16 x17 x18 x19 x20 x21 x22 x23 x24 x25 x26 x27 x28 x29 x30 x31 x32 x33 x34 x35 x36 x37 x38 x39 x40 x41 x42 x43 x44 x45:Value) (i x:Int) (S:zx) (h6:x6=.int .i64 i) (h7:x7=.int .u8 x):∃ y15 y16 y17 y18 y19 y20 y21 y22 y23 y24 y25 y26 y27,jl zi ⟨false,false,false⟩ (zU zi O) (reg Try.f44 5) (reg Try.f44 5).toList (x0::x1::x2::x3::x4::x5::x6::x7::x8::x9::x10::x11::x12::x13::x14::x15::x16::x17::x18::x19::x20::x21::x22::x23::x24::x25::x26::x27::x28::x29::x30::x31::x32::x33::x34::x35::x36::x37::x38::x39::x40::x41::x42::x43::x44::x45::[]) S =
  some ((x0::x1::x2::x3::x4::x5::x6::x7::x8::x9::x10::x11::x12::x13::x14::y15::y16::y17::y18::y19::y20::y21::y22::y23::y24::y25::y26::y27::.bool (decide ((i=9∧1 < x)∨(0 < i∧x=0)))::x29::x30::x31::x32::x33::x34::x35::x36::x37::x38::x39::x40::x41::x42::x43::x44::x45::[]),S):=by
 subst h6 h7
 rw [zB.r5]
 simp only [zSs,reduceIte,zk,zn,zo,zq]
 rcases Bool.eq_false_or_eq_true (decide (i=9)) with d1 | d1 <;> rcases Bool.eq_false_or_eq_true (decide (1 < x)) with d2 | d2 <;> rcases Bool.eq_false_or_eq_true (decide (0 < i)) with d3 | d3 <;> rcases Bool.eq_false_or_eq_true (decide (x=0)) with d4 | d4 <;>
  simp only [d1,d2,d3,d4,zSs,reduceIte,zk,zn,zo,zq] <;> simp only [decide_eq_true_eq,decide_eq_false_iff_not] at d1 d2 d3 d4 <;>
  simp only [d1,d2,d3,d4,true_and,false_and,and_true,and_false,or_true,true_or,or_false,false_or,decide_true,decide_false,not_true,not_false_iff,zo,zn,and_self,or_self] <;> first | exact ⟨_,_,_,_,_,_,_,_,_,_,_,_,_,rfl⟩ | omega
theorem af8:∀ m:Fin 256,agN .u8 (m.val:Int) 127=((m.val % 128:Nat):Int):=by decide +kernel
theorem adh (x:UInt8):agN .u8 (x.toNat:Int) 127=((x.toNat % 128:Nat):Int):=af8 ⟨x.toNat,x.toNat_lt⟩
theorem JQ {n:Nat} (h:n < 2 ^ 64):IntKind.u64.wrap (n:Int)=(n:Int):=by
 rw [wrap_u64,Nat.mod_eq_of_lt h]
theorem ae7 {a c i:Nat} (ha:a < 2 ^ i) (h:c * 2 ^ i < 2 ^ 64) (h2:a < 2 ^ 64):orI .u64 (a:Int) ((c * 2 ^ i:Nat):Int)=((a+c * 2 ^ i:Nat):Int):=by
 have hor:a ||| c * 2 ^ i=a+c * 2 ^ i:=by
  have:=Nat.shiftLeft_add_eq_or_of_lt ha c
  rw [Nat.shiftLeft_eq] at this
  rw [Nat.or_comm,← this,Nat.add_comm]
 have hlt:a ||| c * 2 ^ i < 2 ^ 64:=Nat.or_lt_two_pow h2 h
 unfold orI
 rw [BitVec.ofInt_natCast,BitVec.ofInt_natCast,BitVec.toNat_or,BitVec.toNat_ofNat,BitVec.toNat_ofNat]
 rw [show IntKind.bits .u64=64 from rfl,Nat.mod_eq_of_lt h2,Nat.mod_eq_of_lt h,JQ hlt,hor]
theorem ahn {c i:Nat} (hi:i≤9) (h:c * 128 ^ i < 2 ^ 64):IntKind.u64.wrap ((c:Int) * 2 ^ (min (Int.toNat (7 * (i:Int))) (IntKind.bits .u64)))=((c * 2 ^ (7 * i):Nat):Int):=by
 have e1:min (Int.toNat (7 * (i:Int))) (IntKind.bits .u64)=7 * i:=by
  rw [show IntKind.bits .u64=64 from rfl];omega
 have e2:(128:Nat) ^ i=2 ^ (7 * i):=by rw [Nat.pow_mul]
 rw [e1,show (c:Int) * 2 ^ (7 * i)=((c * 2 ^ (7 * i):Nat):Int) by simp,JQ (by rw [← e2];exact h)]
theorem adT {l pre suf:List UInt8} {x:UInt8} (hl:l=pre++x::suf):(l.drop ((pre.length:Int)+1).toNat).take ((l.length:Int).toNat - ((pre.length:Int)+1).toNat)=suf:=by
 rw [show ((pre.length:Int)+1).toNat=pre.length+1 by omega,show (l.length:Int).toNat=l.length by omega,hl]
 rw [show pre++x::suf=(pre++[x])++suf by simp,show pre.length+1=(pre++[x]).length by simp,List.drop_left]
 rw [List.take_of_length_le];simp;omega
theorem zB.round {k:Nat} {l:List UInt8} (hv:Okl k l) (hk:k≠2) (hlen:l.length≤140737488355328) {S:zx}:∀ (suf pre:List UInt8) (acc:Nat) {T:List Value} {r:St},yN (zD zi O false zB.jm) T S=r→T.length=46 →
  T.getD 0 zh=by_ k l→T.getD 8 zh=by_ k l→T.getD 9 zh=.int .i64 l.length→T.getD 10 zh=.int .i64 pre.length→T.getD 5 zh=.int .u64 acc→l=pre++suf→acc < 128 ^ pre.length→pre.length≤9 →
  ∃ e T',r=some (e,T',S)∧match scan pre.length acc suf with
   | none=>e=.exit 0∧T'.length=46
   | some (m,rest)=>e=.ret∧m < 2 ^ 64∧T'.getD 2 zh=.int .u64 m∧T'.getD 3 zh=by_ 2 rest∧T'.getD 4 zh=.int .i64 0:=by
 intro suf
 induction suf with
 | nil =>
  intro pre acc T r hL hT h0 h8 h9 h10 h5 hl hacc hpre
  obtain ⟨x0,x1,x2,x3,x4,x5,x6,x7,x8,x9,x10,x11,x12,x13,x14,x15,x16,x17,x18,x19,x20,x21,x22,x23,x24,x25,x26,x27,x28,x29,x30,x31,x32,x33,x34,x35,x36,x37,x38,x39,x40,x41,x42,x43,x44,x45,hTe⟩:=zB.list hT
  rw [hTe] at h0 h8 h9 h10 h5
  simp only [List.getD_cons_succ,List.getD_cons_zero] at h0 h8 h9 h10 h5
  subst h0 h8 h9 h10 h5
  have hr:zD zi O false zB.jm T S=zD zi O false zB.jm T S:=rfl
  have hd:decide ((pre.length:Int) < (l.length:Int))=false:=by rw [hl];simp
  conv at hr =>
   rhs
   rw [hTe]
   simp only [zB.jm,zSs,reduceIte,zk,zn,zo,zq,zB.r3,hd]
  exact ⟨_,_,hL.symm.trans (jK hr (by simp)),rfl,rfl⟩
 | cons x suf ih =>
  intro pre acc T r hL hT h0 h8 h9 h10 h5 hl hacc hpre
  obtain ⟨x0,x1,x2,x3,x4,x5,x6,x7,x8,x9,x10,x11,x12,x13,x14,x15,x16,x17,x18,x19,x20,x21,x22,x23,x24,x25,x26,x27,x28,x29,x30,x31,x32,x33,x34,x35,x36,x37,x38,x39,x40,x41,x42,x43,x44,x45,hTe⟩:=zB.list hT
  rw [hTe] at h0 h8 h9 h10 h5
  simp only [List.getD_cons_succ,List.getD_cons_zero] at h0 h8 h9 h10 h5
  subst h0 h8 h9 h10 h5
  have hr:zD zi O false zB.jm T S=zD zi O false zB.jm T S:=rfl
  have hlt:(pre.length:Int) < (l.length:Int):=by rw [hl];simp;omega
  have hd:decide ((pre.length:Int) < (l.length:Int))=true:=by simpa using hlt
  have k0:k≠0:=fun h=>by have:=hv.nil h;rw [this] at hl;simp at hl
  have e1:∀ S,zV zi 33 (by_ k l) (.int .i64 pre.length) S=some (EP [.int .u8 x.toNat],S):=fun S=>by
   rw [ag9 hv (by omega) hlt];rw [aeG hl]
  obtain ⟨y15,y16,y17,y18,y19,y20,y21,y22,y23,y24,y25,y26,y27,e3⟩:=zB.stop (by_ k l) x1 x2 x3 x4 (.int .u64 acc) (.int .i64 pre.length) (.int .u8 x.toNat) (by_ k l) (.int .i64 l.length) (.int .i64 pre.length) (.bool true) (.int .i64 pre.length) (EP [.int .u8 x.toNat]) (.int .u8 x.toNat) x15 x16 x17 x18 x19 x20 x21 x22 x23 x24 x25 x26 x27 x28 x29 x30 x31 x32 x33 x34 x35 x36 x37 x38 x39 x40 x41 x42 x43 x44 x45 (pre.length:Int) (x.toNat:Int) S rfl rfl
  conv at hr =>
   rhs
   rw [hTe]
   simp only [zB.jm,zSs,reduceIte,zk,zn,zo,zq,zB.r3,hd,zB.r4,e1,aeT,if_neg hk,e3]
  have hst:((pre.length:Int)=9∧1 < (x.toNat:Int)∨0 < (pre.length:Int)∧(x.toNat:Int)=0) ↔ ((pre.length=9∧1 < x.toNat)∨(0 < pre.length∧x.toNat=0)):=by omega
  by_cases hs:(pre.length=9∧1 < x.toNat)∨(0 < pre.length∧x.toNat=0)
  ·
   have hs2:=decide_eq_true (hst.2 hs)
   conv at hr =>
    rhs
    simp only [hs2,zSs,reduceIte,zk,zn,zo,zq]
   refine ⟨_,_,hL.symm.trans (jK hr (by simp)),?_⟩
   rw [scan,if_pos hs]
   exact ⟨rfl,rfl⟩
  ·
   have hs2:=decide_eq_false (fun h=>hs (hst.1 h))
   have hx256:=x.toNat_lt
   have hpw:128 ^ pre.length≤128 ^ 9:=Nat.pow_le_pow_right (by omega) hpre
   have hc64:x.toNat % 128 * 128 ^ pre.length < 2 ^ 64:=by
    by_cases h9:pre.length=9
    ·
     rw [h9];have:x.toNat % 128≤1:=by omega
     exact Nat.lt_of_le_of_lt (Nat.mul_le_mul_right _ this) (by decide)
    ·
     have h8:128 ^ pre.length≤128 ^ 8:=Nat.pow_le_pow_right (by omega) (by omega)
     exact Nat.lt_of_le_of_lt (Nat.mul_le_mul (by omega:x.toNat % 128≤127) h8) (by decide)
   have hm:IntKind.i64.wrap (7 * (pre.length:Int))=7 * (pre.length:Int):=wrap_i64 (by omega) (by omega)
   have e128:(128:Nat) ^ pre.length=2 ^ (7 * pre.length):=by rw [Nat.pow_mul]
   have hor:=ae7 (a:=acc) (c:=x.toNat % 128) (i:=7 * pre.length) (by rw [← e128];exact hacc) (by rw [← e128];exact hc64) (Nat.lt_of_lt_of_le hacc (Nat.le_trans hpw (by decide)))
   conv at hr =>
    rhs
    simp only [hs2,zSs,reduceIte,zk,zn,zo,zq,zB.r6,ad5,adh,JR,JQ (show x.toNat % 128 < 2 ^ 64 by omega),hm,adl _ _ _ _ (show (0:Int)≤7 * (pre.length:Int) by omega),ahn hpre hc64,acy,hor,zB.r7]
   rw [← e128] at hr
   have hadd:acc+x.toNat % 128 * 128 ^ pre.length < 128 ^ (pre.length+1):=by
    rw [Nat.pow_succ]
    have:x.toNat % 128 * 128 ^ pre.length≤127 * 128 ^ pre.length:=Nat.mul_le_mul_right _ (by omega)
    omega
   have hi1:IntKind.i64.wrap ((pre.length:Int)+1)=(pre.length:Int)+1:=wrap_i64 (by omega) (by omega)
   by_cases hxs:x.toNat < 128
   ·
    have hd2:decide ((x.toNat:Int) < 128)=true:=by simp;omega
    have e4:∀ S,xI zi 33 (by_ k l) (some (.int .i64 ((pre.length:Int)+1))) none S=some (by_ k suf,S):=fun S=>by
     rw [acV hv (lo:=some (.int .i64 ((pre.length:Int)+1))) (hi:=none) (i:=(pre.length:Int)+1) (j:=l.length) rfl rfl (by omega) (by omega) (by omega),adT hl,if_neg hk]
    have ok2:Okl k suf:=⟨hv.le,fun h=>absurd h k0⟩
    have e5:∀ S,zU zi O slices_Clone.id [by_ k suf] S=some (by_ 2 suf,S):=fun S=>by
     rw [slices_Clone.v ok2 hk (by have:=congrArg List.length hl;simp at this;omega),if_neg k0]
    conv at hr =>
     rhs
     simp only [hd2,zSs,reduceIte,zk,zn,zo,zq,zB.r8,hi1,if_neg hk,e4,e5]
    refine ⟨_,_,hL.symm.trans (jK hr (by simp)),?_⟩
    rw [scan,if_neg hs,if_pos hxs]
    have hxm:x.toNat % 128=x.toNat:=by omega
    rw [hxm]
    refine ⟨rfl,?_,rfl,rfl,rfl⟩
    rw [hxm] at hadd
    by_cases h9:pre.length=9
    ·
     rw [h9] at hacc ⊢
     have:x.toNat≤1:=by omega
     have h1:x.toNat * 128 ^ 9≤1 * 128 ^ 9:=Nat.mul_le_mul_right _ this
     have h2:(128:Nat) ^ 9+1 * 128 ^ 9=2 ^ 64:=by decide
     omega
    ·
     have h8:128 ^ (pre.length+1)≤128 ^ 9:=Nat.pow_le_pow_right (by omega) (by omega)
     exact Nat.lt_of_lt_of_le hadd (Nat.le_trans h8 (by decide))
   ·
    have hd2:decide ((x.toNat:Int) < 128)=false:=by simp;omega
    conv at hr =>
     rhs
     simp only [hd2,zSs,reduceIte,zk,zn,zo,zq,zB.r9,hi1]
    obtain ⟨e,T',g1,g3⟩:=ih (pre++[x]) (acc+x.toNat % 128 * 128 ^ pre.length) ((yc hr).symm.trans hL) rfl rfl rfl rfl (by simp) rfl (by simp [hl]) (by simpa using hadd) (by simp;omega)
    refine ⟨e,T',g1,?_⟩
    rw [scan,if_neg hs,if_neg hxs]
    have hxm:x.toNat % 128=x.toNat - 128:=by omega
    rw [hxm] at g3
    simpa using g3
theorem zB.v {k:Nat} {l:List UInt8} (hv:Okl k l) (hk:k≠2) (hlen:l.length≤140737488355328) (S:zx):zU zi O zB.id [by_ k l] S=some (adf l,S):=by
 obtain ⟨T,hTe⟩:∃ T,T=(by_ k l::zh::zh::zh::zh::zh::zh::zh::zh::zh::zh::zh::zh::zh::zh::zh::zh::zh::zh::zh::zh::zh::zh::zh::zh::zh::zh::zh::zh::zh::zh::zh::zh::zh::zh::zh::zh::zh::zh::zh::zh::zh::zh::zh::zh::zh::[]):=⟨_,rfl⟩
 have hr:zD zi O false zB.code T S=zD zi O false zB.code T S:=rfl
 conv at hr =>
  rhs
  rw [hTe]
  simp only [zB.code,zSs,reduceIte,zk,zn,zo,zq,zB.r0,zB.r1,zB.r2,if_neg hk,Ve hv]
 generalize hL:yN (zD zi O false zB.jm) _ _=r at hr
 obtain ⟨e,T',rfl,g3⟩:=zB.round hv hk hlen l [] 0 hL rfl rfl rfl rfl rfl rfl rfl (by simp) (by simp)
 simp only [List.length_nil] at g3
 unfold adf
 cases hsc:scan 0 0 l with
 | none =>
  rw [hsc] at g3
  obtain ⟨rfl,hT'⟩:=g3
  obtain ⟨x0,x1,x2,x3,x4,x5,x6,x7,x8,x9,x10,x11,x12,x13,x14,x15,x16,x17,x18,x19,x20,x21,x22,x23,x24,x25,x26,x27,x28,x29,x30,x31,x32,x33,x34,x35,x36,x37,x38,x39,x40,x41,x42,x43,x44,x45,hTe'⟩:=zB.list hT'
  conv at hr =>
   rhs
   rw [hTe']
   simp only [zSs,reduceIte,zk,zn,zo,zq,zB.r10]
  rw [hTe] at hr
  exact zB.runs hr (.inr rfl) rfl rfl rfl
 | some mr =>
  obtain ⟨m,rest⟩:=mr
  rw [hsc] at g3
  obtain ⟨rfl,hm,h2,h3,h4⟩:=g3
  conv at hr =>
   rhs
   simp only [zSs,reduceIte,zk,zn,zo,zq]
  rw [hTe] at hr
  have hrun:=zB.runs hr (.inr rfl) (by rw [h2];rfl) (by rw [h3];exact jH) (by rw [h4];rfl)
  rw [h2,h3,h4] at hrun
  exact hrun
theorem aaV:∀ (suf:List UInt8) (i acc:Nat),acc < 128 ^ i→i≤9→∀ m rest,scan i acc suf=some (m,rest)→m < 2 ^ 64∧rest.length < suf.length:=by
 intro suf
 induction suf with
 | nil=>intro i acc _ _ m rest h;cases h
 | cons x suf ih =>
  intro i acc hacc hi m rest h
  rw [scan] at h
  have hx256:=x.toNat_lt
  split at h
  ·
   cases h
  ·
   rename_i hs
   split at h
   ·
    rename_i hx
    cases h
    refine ⟨?_,by simp⟩
    by_cases h9:i=9
    ·
     subst h9
     have:x.toNat≤1:=by omega
     have h1:x.toNat * 128 ^ 9≤1 * 128 ^ 9:=Nat.mul_le_mul_right _ this
     have h2:(128:Nat) ^ 9+1 * 128 ^ 9=2 ^ 64:=by decide
     omega
    ·
     have h8:128 ^ (i+1)≤128 ^ 9:=Nat.pow_le_pow_right (by omega) (by omega)
     have h3:acc+x.toNat * 128 ^ i < 128 ^ (i+1):=by
      rw [Nat.pow_succ]
      have:x.toNat * 128 ^ i≤127 * 128 ^ i:=Nat.mul_le_mul_right _ (by omega)
      omega
     exact Nat.lt_of_lt_of_le h3 (Nat.le_trans h8 (by decide))
   ·
    rename_i hx
    have h9:i≠9:=by omega
    have hadd:acc+(x.toNat - 128) * 128 ^ i < 128 ^ (i+1):=by
     rw [Nat.pow_succ]
     have:(x.toNat - 128) * 128 ^ i≤127 * 128 ^ i:=Nat.mul_le_mul_right _ (by omega)
     omega
    obtain ⟨h1,h2⟩:=ih (i+1) _ hadd (by omega) m rest h
    exact ⟨h1,by simp;omega⟩
end Go.Proofs.Ytgggklfbhmlapaa
namespace Go.Proofs.Ytgggklfbhmlapaa
open Go.Abs
theorem afv (n:Nat):0 < (enc n).length:=by
 by_cases h:n < 128
 ·
  rw [kV h];simp
 ·
  rw [Jw h];simp
section
variable {k:Nat} {l:List UInt8} {S:zx}
end
end Go.Proofs.Ytgggklfbhmlapaa
namespace Go.Proofs.Ytgggklfbhmlapaa
open Go.Abs
theorem JZ {n:Nat} (h:n < 256):(UInt8.ofNat n).toNat=n:=by rw [UInt8.toNat_ofNat'];omega
theorem KZ:∀ (n i acc:Nat) (r:List UInt8),i≤9→(0 < i→0 < n)→n * 128 ^ i < 2 ^ 64→scan i acc (enc n++r)=some (acc+n * 128 ^ i,r):=by
 intro n
 induction n using Nat.strongRecOn with
 | _ n ih =>
  intro i acc r hi hn hlt
  have h9:i=9→n≤1:=by
   intro h;subst h
   have:(128:Nat) ^ 9=2 ^ 63:=by decide
   omega
  by_cases hs:n < 128
  ·
   rw [kV hs,List.singleton_append,scan,JZ (by omega),if_neg (by rintro (⟨h1,h2⟩ | ⟨h1,h2⟩);exact absurd (h9 h1) (by omega);exact absurd (hn h1) (by omega)),if_pos hs]
  ·
   rw [Jw hs,List.cons_append,scan,JZ (by omega)]
   have hi9:i≠9:=fun h=>by have:=h9 h;omega
   rw [if_neg (by rintro (⟨h1,h2⟩ | ⟨h1,h2⟩);exact hi9 h1;omega),if_neg (by omega)]
   have hmul:n / 128 * 128 ^ (i+1)≤n * 128 ^ i:=by
    rw [Nat.pow_succ,← Nat.mul_assoc,Nat.mul_right_comm]
    exact Nat.mul_le_mul_right _ (by omega)
   rw [ih (n / 128) (by omega) (i+1) _ r (by omega) (fun _=>by omega) (Nat.lt_of_le_of_lt hmul hlt)]
   congr 2
   have:n=n % 128+n / 128 * 128:=by omega
   have e1:(n % 128+128 - 128) * 128 ^ i+n / 128 * 128 ^ (i+1)=n * 128 ^ i:=by
    rw [Nat.pow_succ]
    conv=>rhs;rw [this,Nat.add_mul]
    rw [Nat.add_sub_cancel,Nat.mul_comm (128 ^ i) 128,← Nat.mul_assoc]
   omega
theorem ado {n:Nat} (h:n < 2 ^ 64) (r:List UInt8):scan 0 0 (enc n++r)=some (n,r):=by
 rw [KZ n 0 0 r (by omega) (by omega) (by simpa using h)];simp
theorem Ky:∀ (l:List UInt8) (i acc m:Nat) (r:List UInt8),scan i acc l=some (m,r)→∃ n,l=enc n++r∧m=acc+n * 128 ^ i∧(0 < i→0 < n):=by
 intro l
 induction l with
 | nil=>intro i acc m r h;cases h
 | cons x l ih =>
  intro i acc m r h
  rw [scan] at h
  have hx:=x.toNat_lt
  split at h
  ·
   cases h
  ·
   rename_i hs
   split at h
   ·
    rename_i hx2
    cases h
    refine ⟨x.toNat,?_,rfl,fun hi=>by omega⟩
    rw [kV hx2];simp
   ·
    rename_i hx2
    obtain ⟨n,h1,h2,h3⟩:=ih _ _ _ _ h
    refine ⟨x.toNat - 128+n * 128,?_,?_,fun _=>?_⟩
    ·
     have hn:=h3 (by omega)
     rw [Jw (by omega),show (x.toNat - 128+n * 128) / 128=n by omega,show (x.toNat - 128+n * 128) % 128+128=x.toNat by omega,h1]
     simp
    ·
     rw [h2,Nat.pow_succ,Nat.add_mul]
     rw [Nat.mul_comm (128 ^ i) 128,← Nat.mul_assoc];omega
    ·
     have:=h3 (by omega);omega
theorem aa2 {l r:List UInt8} {m:Nat} (h:scan 0 0 l=some (m,r)):l=enc m++r∧m < 2 ^ 64:=by
 obtain ⟨n,h1,h2,_⟩:=Ky l 0 0 m r h
 have:m=n:=by simpa using h2
 subst this
 exact ⟨h1,(aaV l 0 0 (by decide) (by omega) m r h).1⟩
end Go.Proofs.Ytgggklfbhmlapaa
namespace Go.Proofs.Ytgggklfbhmlapaa
open Go.Abs
structure Tb where
 k:Nat
 b:List UInt8
structure Tb.Ok (t:Tb):Prop where
 okl:Okl t.k t.b
 ne:t.k≠2
 le:t.b.length≤140737488351232
end Go.Proofs.Ytgggklfbhmlapaa
namespace Go.Proofs.Ytgggklfbhmlapaa
open Go.Abs
def encs (l:List Int):List UInt8:=l.flatMap fun n=>enc (n+1).toNat
def ad8 (k:Nat) (l:List Int):Value:=if 64 < l.length∨∃ n ∈ l,n < -1 then .tuple #[.slice none 0 0,.int .i64 11] else .tuple #[by_ (if l=[] then k else 2) (encs l),.int .i64 0]
theorem VK {n:Int} (h:-1≤n) (h2:n < 9223372036854775808):IntKind.u64.wrap (IntKind.u64.wrap n+1)=((n+1).toNat:Int):=by
 simp [IntKind.wrap,IntKind.bits,IntKind.signed]
 omega
theorem qO (a b:List Int):encs (a++b)=encs a++encs b:=by simp [encs]
theorem adn (n:Int):encs [n]=enc (n+1).toNat:=by simp [encs]
theorem vF {l:List Int} (h:∀ n ∈ l,n < 9223372036854775808):(encs l).length≤l.length * 10:=by
 induction l with
 | nil=>simp [encs]
 | cons n l ih =>
  have h1:=ih fun m hm=>h m (by simp [hm])
  have h2:(enc (n+1).toNat).length≤10:=JF (by have:=h n (by simp);omega)
  simp only [encs,List.flatMap_cons,List.length_append,List.length_cons] at *
  omega
theorem zF.round {k:Nat} {l:List Int} (hv:Okl k l) (hk:k≠2) (h64:l.length≤64) (hb:∀ n ∈ l,n < 9223372036854775808) {S:zx}:∀ (suf pre:List Int) {T:List Value} {r:St},yN (zD zi O false zF.jm) T S=r→T.length=26 →
  T.getD 10 zh=iz k l→T.getD 11 zh=.int .i64 l.length→T.getD 12 zh=.int .i64 pre.length→T.getD 4 zh=by_ (if pre=[] then 0 else 2) (encs pre)→l=pre++suf →
  ∃ e T',r=some (e,T',S)∧if (∃ n ∈ suf,n < -1) then e=.ret∧T'.getD 2 zh=.slice none 0 0∧T'.getD 3 zh=.int .i64 11 else e=.exit 0∧T'.length=26∧T'.getD 4 zh=by_ (if l=[] then 0 else 2) (encs l):=by
 intro suf
 induction suf with
 | nil =>
  intro pre T r hL hT ha hb hc h4 hl
  have hTe:=zF.eta hT
  rw [ha,hb,hc,h4] at hTe
  have hr:zD zi O false zF.jm T S=zD zi O false zF.jm T S:=rfl
  have hd:¬ (pre.length:Int) < (l.length:Int):=by rw [hl];simp
  conv at hr =>
   rhs
   rw [hTe]
   simp only [zF.jm,zF.code,zF.rs,zSs,reduceIte,zk,zn,zo,zq,hd]
  refine ⟨_,_,hL.symm.trans (jK hr (by simp)),?_⟩
  rw [if_neg (by simp)]
  simp only [List.append_nil] at hl
  subst hl
  exact ⟨rfl,rfl,rfl⟩
 | cons n suf ih =>
  intro pre T r hL hT ha hbb hc h4 hl
  have hTe:=zF.eta hT
  rw [ha,hbb,hc,h4] at hTe
  have hr:zD zi O false zF.jm T S=zD zi O false zF.jm T S:=rfl
  have hll:l.length=pre.length+(suf.length+1):=by rw [hl];simp
  have hlt:(pre.length:Int) < (l.length:Int):=by omega
  have e1:∀ S,zV zi 53 (iz k l) (.int .i64 pre.length) S=some (EP [.int .i64 n],S):=fun S=>by
   rw [abj hv (by omega) hlt];rw [abq hl]
  have hn:=hb n (by rw [hl];simp)
  by_cases h1:n < -1
  ·
   conv at hr =>
    rhs
    rw [hTe]
    simp only [zF.jm,zF.code,zF.rs,zSs,reduceIte,zk,zn,zo,zq,hlt,e1,xC,h1]
   refine ⟨_,_,hL.symm.trans (jK hr (by simp)),?_⟩
   rw [if_pos ⟨n,by simp,h1⟩]
   exact ⟨rfl,rfl,rfl⟩
  ·
   have w1:=VK (n:=n) (by omega) (by omega)
   have hpb:(encs pre).length≤pre.length * 10:=vF fun m hm=>hb m (by rw [hl];simp [hm])
   have hp10:(enc (n+1).toNat).length≤10:=JF (by omega)
   have hpp:=afv (n+1).toNat
   have g1:=fun S=>jg.v (n+1).toNat (by omega) S
   have e2:∀ S,wu zi 33 33 (by_ (if pre=[] then 0 else 2) (encs pre)) (by_ 2 (enc (n+1).toNat)) S=some (by_ 2 (encs (pre++[n])),S):=fun S=>by
    have ok:Okl (if pre=[] then 0 else 2) (encs pre):=⟨by split <;> omega,fun h=>by split at h <;> first | (rename_i hp;subst hp;rfl) | omega⟩
    rw [vk ok (by split <;> omega) Okl.own (by omega),if_neg (fun h=>by have:=h.2;omega),qO,adn]
   have wi:IntKind.i64.wrap ((pre.length:Int)+1)=((pre++[n]).length:Int):=by rw [wrap_i64 (by omega) (by omega)];simp
   conv at hr =>
    rhs
    rw [hTe]
    simp only [zF.jm,zF.code,zF.rs,zSs,reduceIte,zk,zn,zo,zq,hlt,e1,xC,h1,YS,w1,g1,e2,wi]
   obtain ⟨e,T',g1,g2⟩:=ih (pre++[n]) ((yc hr).symm.trans hL) rfl rfl rfl rfl (by rw [if_neg (show ¬ pre++[n]=[] by simp)];rfl) (by simp [hl])
   refine ⟨e,T',g1,?_⟩
   by_cases h2:∃ m ∈ suf,m < -1
   ·
    rw [if_pos h2] at g2
    obtain ⟨m,hm,hm2⟩:=h2
    rw [if_pos ⟨m,by simp [hm],hm2⟩]
    exact g2
   ·
    rw [if_neg h2] at g2
    rw [if_neg (by rintro ⟨m,hm,hm2⟩;rcases List.mem_cons.1 hm with rfl | hm;exact h1 hm2;exact h2 ⟨m,hm,hm2⟩)]
    exact g2
theorem zF.v {k:Nat} {l:List Int} (hv:Okl k l) (hk:k≠2) (hb:∀ n ∈ l,n < 9223372036854775808) (S:zx):zU zi O zF.id [iz k l] S=some (ad8 0 l,S):=by
 obtain ⟨T,hTe⟩:∃ T,T=(iz k l::zh::zh::zh::zh::zh::zh::zh::zh::zh::zh::zh::zh::zh::zh::zh::zh::zh::zh::zh::zh::zh::zh::zh::zh::zh::[]):=⟨_,rfl⟩
 have hr:zD zi O false zF.code T S=zD zi O false zF.code T S:=rfl
 unfold ad8
 by_cases h1:64 < l.length
 ·
  have d1:(64:Int) < (l.length:Int):=by omega
  conv at hr =>
   rhs
   rw [hTe]
   simp only [zF.code,zF.rs,zSs,reduceIte,zk,zn,zo,zq,if_neg hk,aej hv,goInt,d1]
  rw [hTe] at hr
  rw [if_pos (.inl h1)]
  exact zF.runs hr (.inr rfl) (by simp only [List.getD_cons_succ,List.getD_cons_zero,jH,jE,jh,jq,jD]) (by simp only [List.getD_cons_succ,List.getD_cons_zero,jH,jE,jh,jq,jD])
 ·
  have d1:¬ (64:Int) < (l.length:Int):=by omega
  conv at hr =>
   rhs
   rw [hTe]
   simp only [zF.code,zF.rs,zSs,reduceIte,zk,zn,zo,zq,if_neg hk,aej hv,goInt,d1,ZX,agt]
  generalize hL:yN (zD zi O false zF.jm) _ _=r at hr
  obtain ⟨e,T',rfl,g⟩:=zF.round hv hk (by omega) hb l [] hL rfl rfl rfl rfl rfl rfl
  by_cases h2:∃ n ∈ l,n < -1
  ·
   rw [if_pos h2] at g
   obtain ⟨rfl,g2,g3⟩:=g
   conv at hr =>
    rhs
    simp only [zSs,reduceIte,zk,zn,zo,zq]
   rw [hTe] at hr
   rw [if_pos (.inr h2)]
   have hrun:=zF.runs hr (.inr rfl) (by rw [g2];rfl) (by rw [g3];rfl)
   rw [g2,g3] at hrun
   exact hrun
  ·
   rw [if_neg h2] at g
   obtain ⟨rfl,g2,g3⟩:=g
   have hTe':=zF.eta g2
   rw [g3] at hTe'
   conv at hr =>
    rhs
    rw [hTe']
    simp only [zF.code,zF.rs,zSs,reduceIte,zk,zn,zo,zq]
   rw [hTe] at hr
   rw [if_neg (by rintro (h | h);exact h1 h;exact h2 h)]
   exact zF.runs hr (.inr rfl) (by simp only [List.getD_cons_succ,List.getD_cons_zero,jH,jE,jh,jq,jD]) (by simp only [List.getD_cons_succ,List.getD_cons_zero,jH,jE,jh,jq,jD])
end Go.Proofs.Ytgggklfbhmlapaa
namespace Go.Proofs.Ytgggklfbhmlapaa
open Go.Abs
def wJ:Nat→List UInt8→Option (List Int×List UInt8)
 | 0,l=>some ([],l)
 | m+1,l=>match scan 0 0 l with
  | some (n,r)=>if n≤4611686018427387905 then (match wJ m r with
   | some (a,b)=>some (((n:Int) - 1)::a,b)
   | none=>none) else none
  | none=>none
def Zg (k0 k1:Nat) (many:Int) (l:List UInt8):Value :=
 if many < 0∨64 < many then .tuple #[.slice none 0 0,.slice none 0 0,.int .i64 11]
 else match wJ many.toNat l with
  | some (a,b)=>.tuple #[iz (if many=0 then k0 else 2) a,by_ (if many=0 then k1 else 2) b,.int .i64 0]
  | none=>.tuple #[.slice none 0 0,.slice none 0 0,.int .i64 11]
theorem zy.round {many:Int} (hmany:many≤64) {S:zx}:∀ (m:Nat) (i:Int) (rest:List UInt8) (kr:Nat) (out:List Int) (ko:Nat) {T:List Value} {r:St},yN (zD zi O false zy.jm) T S=r→T.length=45 →
  T.getD 20 zh=.int .i64 many→T.getD 21 zh=.int .i64 i→T.getD 7 zh=by_ kr rest→T.getD 8 zh=iz ko out→0≤i→many=i+m→Okl kr rest→rest.length≤140737488355328→Okl ko out→ko≠1→(out.length:Int)=i →
  ∃ e T',r=some (e,T',S)∧match wJ m rest with
   | none=>e=.ret∧T'.getD 4 zh=.slice none 0 0∧T'.getD 5 zh=.slice none 0 0∧T'.getD 6 zh=.int .i64 11
   | some (a,b)=>e=.exit 0∧T'.length=45∧T'.getD 8 zh=iz (if m=0 then ko else 2) (out++a)∧T'.getD 7 zh=by_ (if m=0 then kr else 2) b:=by
 intro m
 induction m with
 | zero =>
  intro i rest kr out ko T r hL hT h1 h2 h3 h4 h0 hm hkr hlen hko hk1 hol
  have hTe:=zy.eta hT
  rw [h1,h2,h3,h4] at hTe
  have hr:zD zi O false zy.jm T S=zD zi O false zy.jm T S:=rfl
  have hd:¬ i < many:=by omega
  conv at hr =>
   rhs
   rw [hTe]
   simp only [zy.jm,zy.code,zy.rs,zSs,reduceIte,zk,zn,zo,zq,hd]
  exact ⟨_,_,hL.symm.trans (jK hr (by simp)),rfl,rfl,by simp,rfl⟩
 | succ m ih =>
  intro i rest kr out ko T r hL hT h1 h2 h3 h4 h0 hm hkr hlen hko hk1 hol
  have hTe:=zy.eta hT
  rw [h1,h2,h3,h4] at hTe
  have hr:zD zi O false zy.jm T S=zD zi O false zy.jm T S:=rfl
  have hd:i < many:=by omega
  have g1:∀ S,zU zi O zB.id [by_ (if kr=2 then 1 else kr) rest] S=some (adf rest,S):=zB.v hkr.dem (by split <;> omega) hlen
  unfold adf at g1
  rw [wJ]
  cases hsc:scan 0 0 rest with
  | none =>
   rw [hsc] at g1
   have d11:¬ (11:Int)=0:=by omega
   conv at hr =>
    rhs
    rw [hTe]
    simp only [zy.jm,zy.code,zy.rs,zSs,reduceIte,zk,zn,zo,zq,aen,hd,g1,d11]
   exact ⟨_,_,hL.symm.trans (jK hr (by simp)),rfl,rfl,rfl,rfl⟩
  | some nr =>
   obtain ⟨n,r'⟩:=nr
   rw [hsc] at g1
   obtain ⟨hn,hrl⟩:=aaV rest 0 0 (by decide) (by omega) n r' hsc
   dsimp only
   by_cases h5:n≤4611686018427387905
   ·
    have d1:¬ (4611686018427387905:Int) < (n:Int):=by omega
    have w1:IntKind.i64.wrap (n:Int)=(n:Int):=wrap_i64 (by omega) (by omega)
    have w2:IntKind.i64.wrap ((n:Int) - 1)=(n:Int) - 1:=wrap_i64 (by omega) (by omega)
    have w3:IntKind.i64.wrap (i+1)=i+1:=wrap_i64 (by omega) (by omega)
    have e1:∀ x S,wu zi 53 53 (iz ko out) (iz 2 [x]) S=some (iz 2 (out++[x]),S):=fun x S=>aeX hko hk1 (by omega)
    conv at hr =>
     rhs
     rw [hTe]
     simp only [zy.jm,zy.code,zy.rs,zSs,reduceIte,zk,zn,zo,zq,aen,hd,g1,d1,YX,w1,w2,w3,WU,af7,e1]
    obtain ⟨e,T',g2,g3⟩:=ih (i+1) r' 2 (out++[(n:Int) - 1]) 2 ((yc hr).symm.trans hL) rfl rfl rfl rfl rfl (by omega) (by omega) Okl.own (by omega) Okl.own (by decide) (by simp;omega)
    refine ⟨e,T',g2,?_⟩
    rw [if_pos h5]
    cases hrn:wJ m r' with
    | none=>rw [hrn] at g3;exact g3
    | some ab =>
     obtain ⟨a,b⟩:=ab
     rw [hrn] at g3
     obtain ⟨q1,q2,q3,q4⟩:=g3
     refine ⟨q1,q2,?_,?_⟩
     ·
      rw [q3];simp
     ·
      rw [q4];simp
   ·
    have d1:(4611686018427387905:Int) < (n:Int):=by omega
    conv at hr =>
     rhs
     rw [hTe]
     simp only [zy.jm,zy.code,zy.rs,zSs,reduceIte,zk,zn,zo,zq,aen,hd,g1,d1]
    refine ⟨_,_,hL.symm.trans (jK hr (by simp)),?_⟩
    rw [if_neg h5]
    exact ⟨rfl,rfl,rfl,rfl⟩
theorem zy.v {k:Nat} {l:List UInt8} {many:Int} (hv:Okl k l) (hk:k≠2) (hlen:l.length≤140737488355328) (S:zx):zU zi O zy.id [by_ k l,.int .i64 many] S=some (Zg 0 (if k=0 then 0 else 2) many l,S):=by
 obtain ⟨T,hTe⟩:∃ T,T=(by_ k l::.int .i64 many::zh::zh::zh::zh::zh::zh::zh::zh::zh::zh::zh::zh::zh::zh::zh::zh::zh::zh::zh::zh::zh::zh::zh::zh::zh::zh::zh::zh::zh::zh::zh::zh::zh::zh::zh::zh::zh::zh::zh::zh::zh::zh::zh::[]):=⟨_,rfl⟩
 have hr:zD zi O false zy.code T S=zD zi O false zy.code T S:=rfl
 have c1:∀ S,zU zi O 43 [by_ k l] S=some (by_ (if k=0 then 0 else 2) l,S):=slices_Clone.v hv hk hlen
 unfold Zg
 by_cases h1:many < 0
 ·
  conv at hr =>
   rhs
   rw [hTe]
   simp only [zy.code,zy.rs,zSs,reduceIte,zk,zn,zo,zq,h1]
  rw [hTe] at hr
  rw [if_pos (.inl h1)]
  exact zy.runs hr (.inr rfl) (by simp only [List.getD_cons_succ,List.getD_cons_zero,jH,jE,jh,jq,jD]) (by simp only [List.getD_cons_succ,List.getD_cons_zero,jH,jE,jh,jq,jD]) (by simp only [List.getD_cons_succ,List.getD_cons_zero,jH,jE,jh,jq,jD])
 ·
  by_cases h2:64 < many
  ·
   conv at hr =>
    rhs
    rw [hTe]
    simp only [zy.code,zy.rs,zSs,reduceIte,zk,zn,zo,zq,h1,h2]
   rw [hTe] at hr
   rw [if_pos (.inr h2)]
   exact zy.runs hr (.inr rfl) (by simp only [List.getD_cons_succ,List.getD_cons_zero,jH,jE,jh,jq,jD]) (by simp only [List.getD_cons_succ,List.getD_cons_zero,jH,jE,jh,jq,jD]) (by simp only [List.getD_cons_succ,List.getD_cons_zero,jH,jE,jh,jq,jD])
  ·
   rw [if_neg (by omega)]
   conv at hr =>
    rhs
    rw [hTe]
    simp only [zy.code,zy.rs,zSs,reduceIte,zk,zn,zo,zq,h1,h2,if_neg hk,c1]
   generalize hL:yN (zD zi O false zy.jm) _ _=r at hr
   have okr:Okl (if k=0 then 0 else 2) l:=⟨by split <;> omega,fun h=>by split at h <;> first | (rename_i hp;exact hv.nil hp) | omega⟩
   obtain ⟨e,T',rfl,g⟩:=zy.round (many:=many) (by omega) many.toNat 0 l (if k=0 then 0 else 2) [] 0 hL rfl rfl rfl rfl rfl (by omega) (by omega) okr hlen Okl.none (by decide) rfl
   cases hrn:wJ many.toNat l with
   | none =>
    rw [hrn] at g
    obtain ⟨rfl,g2,g3,g4⟩:=g
    conv at hr =>
     rhs
     simp only [zSs,reduceIte,zk,zn,zo,zq]
    rw [hTe] at hr
    have hrun:=zy.runs hr (.inr rfl) (by rw [g2];rfl) (by rw [g3];rfl) (by rw [g4];rfl)
    rw [g2,g3,g4] at hrun
    exact hrun
   | some ab =>
    obtain ⟨a,b⟩:=ab
    rw [hrn] at g
    obtain ⟨rfl,g2,g3,g4⟩:=g
    have hTe':=zy.eta g2
    rw [g3,g4] at hTe'
    have hz:(many.toNat=0) ↔ (many=0):=by omega
    simp only [hz,List.nil_append] at hTe'
    conv at hr =>
     rhs
     rw [hTe']
     simp only [zy.code,zy.rs,zSs,reduceIte,zk,zn,zo,zq]
    rw [hTe] at hr
    exact zy.runs hr (.inr rfl) (by simp only [List.getD_cons_succ,List.getD_cons_zero,jH,jE,jh,jq,jD]) (by simp only [List.getD_cons_succ,List.getD_cons_zero,jH,jE,jh,jq,jD]) (by simp only [List.getD_cons_succ,List.getD_cons_zero,jH,jE,jh,jq,jD])
end Go.Proofs.Ytgggklfbhmlapaa
namespace Go.Proofs.Ytgggklfbhmlapaa
open Go.Abs
def Few (n:Int):Prop:=-1≤n∧n≤4611686018427387904
theorem yg:∀ (m:Nat) (l:List UInt8) (a:List Int) (b:List UInt8),wJ m l=some (a,b) ↔ a.length=m∧l=encs a++b∧∀ n ∈ a,Few n:=by
 intro m
 induction m with
 | zero =>
  intro l a b
  constructor
  ·
   intro h;cases h;exact ⟨rfl,rfl,fun n h=>by cases h⟩
  ·
   rintro ⟨h1,h2,_⟩
   have:a=[]:=List.length_eq_zero_iff.mp h1
   subst this
   rw [h2];rfl
 | succ m ih =>
  intro l a b
  rw [wJ]
  constructor
  ·
   intro h
   cases hsc:scan 0 0 l with
   | none=>rw [hsc] at h;cases h
   | some nr =>
    obtain ⟨n,r⟩:=nr
    rw [hsc] at h
    dsimp only at h
    split at h
    ·
     rename_i hn
     cases hr:wJ m r with
     | none=>rw [hr] at h;cases h
     | some ab =>
      obtain ⟨a',b'⟩:=ab
      rw [hr] at h
      obtain ⟨h1,h2,h3⟩:=(ih r a' b').mp hr
      cases h
      obtain ⟨f1,f2⟩:=aa2 hsc
      refine ⟨by simp [h1],?_,fun x hx=>?_⟩
      ·
       rw [f1,h2]
       have:((n:Int) - 1+1).toNat=n:=by omega
       simp [encs,this]
      ·
       rcases List.mem_cons.1 hx with rfl | hx
       ·
        unfold Few;omega
       ·
        exact h3 x hx
    ·
     cases h
  ·
   rintro ⟨h1,h2,h3⟩
   cases a with
   | nil=>simp at h1
   | cons x a =>
    have hx:Few x:=h3 x (by simp)
    unfold Few at hx
    have he:encs (x::a)++b=enc (x+1).toNat++(encs a++b):=by simp [encs]
    rw [h2,he,ado (by omega)]
    dsimp only
    rw [if_pos (by omega),(ih (encs a++b) a b).mpr ⟨by simpa using h1,rfl,fun n hn=>h3 n (by simp [hn])⟩]
    have:((x+1).toNat:Int) - 1=x:=by omega
    simp only [this]
theorem ZR {m:Nat} {l:List UInt8} {a:List Int} {b:List UInt8} (h:wJ m l=some (a,b)):a.length=m∧b.length≤l.length:=by
 obtain ⟨h1,h2,_⟩:=(yg m l a b).mp h
 exact ⟨h1,by rw [h2];simp⟩
theorem Jp {a c:List Int} {b d:List UInt8} (h:a.length=c.length) (ha:∀ n ∈ a,Few n) (hc:∀ n ∈ c,Few n) (he:encs a++b=encs c++d):a=c∧b=d:=by
 have h1:=(yg a.length (encs a++b) a b).mpr ⟨rfl,rfl,ha⟩
 have h2:=(yg a.length (encs a++b) c d).mpr ⟨h.symm,he,hc⟩
 rw [h1] at h2
 simpa using h2
theorem Y4 {k:Nat} {l:List Int} (h:l.length≤64) (h1:∀ n ∈ l,-1≤n) (h0:l≠[]):ad8 k l=.tuple #[by_ 2 (encs l),.int .i64 0]:=by
 unfold ad8
 rw [if_neg (by rintro (h2 | ⟨n,h2,h3⟩);{ omega };{ have:=h1 n h2;omega }),if_neg h0]
theorem Zi {k0 k1 m:Nat} {l:List UInt8} (h0:0 < m) (h:m≤64):Zg k0 k1 m l=match wJ m l with
  | some (a,b)=>.tuple #[iz 2 a,by_ 2 b,.int .i64 0]
  | none=>.tuple #[.slice none 0 0,.slice none 0 0,.int .i64 11]:=by
 unfold Zg
 rw [if_neg (by omega),Int.toNat_natCast]
 have:(m:Int)≠0:=by omega
 simp only [if_neg this]
 all_goals (cases wJ m l <;> rfl)
noncomputable def rd {α:Type} (ok:α→Prop) (e:α→List UInt8) (b:List UInt8):Option α:=open Classical in if h:∃ x,ok x∧b=e x then some h.choose else none
theorem aeC {α:Type} {ok:α→Prop} {e:α→List UInt8} (inj:∀ x y,ok x→ok y→e x=e y→x=y) (b:List UInt8) (x:α):rd ok e b=some x ↔ ok x∧b=e x:=by
 unfold rd
 constructor
 ·
  intro h
  split at h
  ·
   rename_i he
   cases h
   exact he.choose_spec
  ·
   cases h
 ·
  intro h
  have he:∃ x,ok x∧b=e x:=⟨x,h⟩
  rw [dif_pos he]
  exact congrArg some (inj _ _ he.choose_spec.1 h.1 (he.choose_spec.2.symm.trans h.2))
end Go.Proofs.Ytgggklfbhmlapaa
namespace Go.Proofs.Ytgggklfbhmlapaa
open Go.Abs
def txB (t:TxV):List UInt8:=encs [t.id,t.fee]
def agP (t:TxV):Value:=if yB t then .tuple #[by_ 2 (txB t),.int .i64 0] else .tuple #[.slice none 0 0,.int .i64 61]
theorem afP {t:TxV} (h:yB t=true):(txB t).length≤20:=by
 obtain ⟨h1,h2,h3,h4⟩:=vM.mp h
 have:=vF (l:=[t.id,t.fee]) (by intro n hn;simp at hn;rcases hn with rfl | rfl <;> omega)
 exact this
theorem afl (x y:Int):sv 2 1 2 [.int .i64 x,.int .i64 y]=iz 2 [x,y]:=rfl
theorem jF.v (t:TxV) (S:zx):zU zi O jF.id [tv t] S=some (agP t,S):=by
 obtain ⟨T,hTe⟩:∃ T,T=(tv t::zh::zh::zh::zh::zh::zh::zh::zh::zh::zh::zh::zh::zh::zh::zh::zh::zh::zh::[]):=⟨_,rfl⟩
 have hr:zD zi O false jF.code T zx.empty=zD zi O false jF.code T zx.empty:=rfl
 have l0:=qx (t:=3) (o:=0+0) (Zz t) JD rfl
 have l1:=qx (t:=3) (o:=0+1) (Zz t) JD rfl
 have lt:=Ku (Zz t)
 unfold agP
 by_cases h:yB t=true
 ·
  have hh:=vM.mp h
  have c1:=fun S=>zF.v (l:=[t.id,t.fee]) Okl.read (by decide) (by simp;omega) S
  conv at hr =>
   rhs
   rw [hTe]
   simp only [jF.code,jF.rs,zSs,reduceIte,zk,zn,zo,zq,box1,lt,vK,jR.v,h,xq,Zc,l0,l1,aah,afl,c1,Y4 (l:=[t.id,t.fee]) (by simp) (by simp;omega) (by simp)]
  rw [hTe] at hr
  rw [if_pos h]
  exact jF.runs hr (.inr rfl) (by simp only [List.getD_cons_succ,List.getD_cons_zero,jH,jE,jh,jq,jD]) rfl rfl (qo (all2 (kK (k:=2) (Nat.le_refl 2)) rfl))
 ·
  rw [Bool.not_eq_true] at h
  conv at hr =>
   rhs
   rw [hTe]
   simp only [jF.code,jF.rs,zSs,reduceIte,zk,zn,zo,zq,box1,lt,vK,jR.v,h]
  rw [hTe] at hr
  rw [if_neg (by rw [h];decide)]
  exact jF.runs hr (.inr rfl) rfl rfl rfl rfl
theorem Y0 (S:zx):yU zi 47 S=some (.pointer (some ⟨S.next,0,none⟩),S.push (.cells (fT ⟨0,0⟩) (.own []) 0)):=by kernel_rfl
theorem acA (S:zx) (t:TxV):∃ S2,wQ zi 47 (.pointer (some ⟨S.next,0,none⟩)) (tv t) (S.push (.cells (fT ⟨0,0⟩) (.own []) 0))=some (zh,S2)∧S2.get S.next=some (.cells (fT t) (.own []) 0)∧Ext S S2∧S.next < S2.next :=
 J7 S (by rw [qV,List.toList_toArray];rfl) kE rfl rfl
theorem agy {S S0:zx} {q:Nat} {u:TxV} (t:TxV) (hg:S.get q=some (.cells (fT u) (.own []) 0)) (hE:Ext S0 S) (hq:S0.next≤q):∃ S2,wQ zi 47 (.pointer (some ⟨q,0,none⟩)) (tv t) S=some (zh,S2)∧S2.get q=some (.cells (fT t) (.own []) 0)∧Ext S0 S2∧S2.next=S.next∧∀ k,k≠q→S2.get k=S.get k :=
 ZG hg kE rfl rfl (by simp [fT]) hE hq
theorem af5 {R:Type} {a b:Int} (r:Option R) (p:ZB r):okK (.agg [Value.int .i64 a,.int .i64 b].toArray) r p=r:=aeh rfl r p
theorem VW {S:zx} {q:Nat} {t:TxV} (h:S.get q=some (.cells (fT t) (.own []) 0)):zZ zi false 47 (.pointer (some ⟨q,0,none⟩)) S=some (tv t,S):=Ku h
theorem aex {S:zx} {q:Nat} {t:TxV} (h:S.get q=some (.cells (fT t) (.own []) 0)):zZ zi false 3 (.pointer (some ⟨q,0+0,none⟩)) S=some (.int .i64 t.id,S):=qx (t:=3) (o:=0+0) h JD rfl
theorem aho (k:Nat) (hk:k≤2) (a b:Int) (h:k≠0) (S:zx):zV zi 53 (iz k [a,b]) (.int .i64 0) S=some (EP [.int .i64 a],S):=abj ⟨hk,fun h0=>absurd h0 h⟩ (by decide) (by simp)
theorem ahp (k:Nat) (hk:k≤2) (a b:Int) (h:k≠0) (S:zx):zV zi 53 (iz k [a,b]) (.int .i64 1) S=some (EP [.int .i64 b],S):=abj ⟨hk,fun h0=>absurd h0 h⟩ (by decide) (by simp)
def afu (l:List UInt8):Value:=match wJ 2 l with
 | some ([a,b],r)=>.tuple #[tv ⟨a,b⟩,by_ 2 r,.bool (yB ⟨a,b⟩)]
 | _=>.tuple #[tv ⟨0,0⟩,.slice none 0 0,.bool false]
theorem Xb (l:List UInt8):wJ 2 l=none∨∃ a b r,wJ 2 l=some ([a,b],r)∧r.length≤l.length:=by
 cases h:wJ 2 l with
 | none=>exact .inl rfl
 | some ar =>
  obtain ⟨a,r⟩:=ar
  obtain ⟨h1,h2⟩:=ZR h
  match a,h1 with
  | [x,y],_=>exact .inr ⟨x,y,r,rfl,h2⟩
theorem jf.v {k:Nat} {l:List UInt8} (hk:Okl k l) (k2:k≠2) (hl:l.length≤140737488355328) (S:zx):zU zi O jf.id [by_ k l] S=some (afu l,S):=by
 obtain ⟨T,hTe⟩:∃ T,T=(by_ k l::zh::zh::zh::zh::zh::zh::zh::zh::zh::zh::zh::zh::zh::zh::zh::zh::zh::zh::zh::zh::zh::zh::zh::zh::zh::zh::zh::zh::[]):=⟨_,rfl⟩
 have hr:zD zi O false jf.code T zx.empty=zD zi O false jf.code T zx.empty:=rfl
 have c1:=fun S=>zy.v (many:=2) hk k2 hl S
 have a1:=Y0 zx.empty
 have g1:(zx.empty.push (.cells (fT ⟨0,0⟩) (.own []) 0)).get 0=some (.cells (fT ⟨0,0⟩) (.own []) 0):=by kernel_rfl
 have n1:(zx.empty.push (.cells (fT ⟨0,0⟩) (.own []) 0)).next=1:=by kernel_rfl
 rw [show zx.empty.next=0 from rfl] at a1
 have r1:Zg 0 (if k=0 then 0 else 2) 2 l=_:=Zi (m:=2) (by decide) (by decide)
 rw [r1] at c1
 unfold afu
 generalize hS1:zx.empty.push (.cells (fT ⟨0,0⟩) (.own []) 0)=S1 at a1 g1 n1
 rcases Xb l with h | ⟨a,b,r,h,hlr⟩
 ·
  rw [h] at c1 ⊢
  obtain ⟨S2,p1,p2,p3,p4⟩:=agy ⟨0,0⟩ g1 (Ext.refl zx.empty |>.trans (hS1 ▸ Ext.push _ _)) (Nat.zero_le _)
  conv at hr =>
   rhs
   rw [hTe]
   simp only [jf.code,jf.rs,zSs,reduceIte,zk,zn,zo,zq,if_neg k2,a1,c1,aaO,p1]
  rw [hTe] at hr
  exact jf.runs hr (.inr rfl) (VW p2) rfl rfl rfl (all1 (kK (k:=k) hk.le)) rfl
 ·
  rw [h] at c1 ⊢
  have e0:=aho 1 (by decide) a b (by decide)
  have e1:=ahp 1 (by decide) a b (by decide)
  have c2:∀ S,zU zi O 47 [.agg [Value.int .i64 a,.int .i64 b].toArray] S=some (.bool (yB ⟨a,b⟩),S):=fun S=>jR.v ⟨a,b⟩ S
  obtain ⟨S2,p1,p2,p3,p4⟩:=acA S1 ⟨a,b⟩
  have g2:S2.get 0=some (.cells (fT ⟨0,0⟩) (.own []) 0):=by rw [p3.get 0 (by omega),g1]
  obtain ⟨S3,q1,q2,q3,q4,q5⟩:=agy ⟨a,b⟩ g2 (Ext.trans (hS1 ▸ Ext.push _ _:Ext zx.empty S1) p3) (Nat.zero_le _)
  conv at hr =>
   rhs
   rw [hTe]
   simp only [jf.code,jf.rs,zSs,reduceIte,zk,zn,zo,zq,if_neg k2,a1,c1,e0,e1,xC,YO (xk) (xk),Y0,p1,VW p2,q1,c2,Xh p2,af5]
  rw [hTe] at hr
  exact jf.runs hr (.inr rfl) (VW q2) rfl (by simp only [List.getD_cons_succ,List.getD_cons_zero,jH,jE,jh,jq,jD]) rfl (all1 (kK (k:=k) hk.le)) (qo (ahm rfl (kK (k:=2) (Nat.le_refl 2)) rfl))
end Go.Proofs.Ytgggklfbhmlapaa
namespace Go.Abs
variable {K:Type}
def MapAt (enc:K→Value) (S:zx) (q:Nat) (m:List (K×Value)):Prop :=
 ∃ es c,S.get q=some (.map es c)∧es.map (fun e=>(e.key,e.val))=m.map fun p=>(enc p.1,p.2)
theorem afy {P:Program} {t:TypeId} (enc:K→Value) (S:zx):∃ S2,qJ P t none S=some (.map (some S.next),S2)∧MapAt enc S2 S.next []∧S2.next=S.next+1∧(∀ j,j < S.next→S2.get j=S.get j)∧Ext S S2 :=
 ⟨_,rfl,⟨[],0,by rw [zx.jc,if_pos rfl],rfl⟩,by simp,fun j hj=>by rw [zx.jc,if_neg (by omega)],Ext.push _ _⟩
theorem MapAt.keep {enc:K→Value} {S:zx} {q:Nat} {m:List (K×Value)} {S2:zx} (h:MapAt enc S q m) (hg:S2.get q=S.get q):MapAt enc S2 q m:=by
 obtain ⟨es,c,h1,h2⟩:=h
 exact ⟨es,c,hg.trans h1,h2⟩
variable [DecidableEq K]
def VJ:List (K×Value)→K→Option Value
 | [],_=>none
 | (a,v)::m,k=>if a=k then some v else VJ m k
def midx:List (K×Value)→K→Nat
 | [],_=>0
 | (a,_)::m,k=>if a=k then 0 else midx m k+1
def af2:List (K×Value)→K→Value→List (K×Value)
 | [],k,x=>[(k,x)]
 | (a,v)::m,k,x=>if a=k then (k,x)::m else (a,v)::af2 m k x
theorem Vp {m:List (K×Value)} {k:K} {x:Value} (h:VJ m k=none):af2 m k x=m++[(k,x)]:=by
 induction m with
 | nil=>rfl
 | cons p m ih =>
  obtain ⟨a,v⟩:=p
  unfold VJ at h
  split at h
  ·
   cases h
  ·
   rename_i hn
   simp only [af2,if_neg hn,ih h,List.cons_append]
structure adY (enc:K→Value) (kd:TypeDesc):Prop where
 kind:∀ k,Zf kd (enc k)=true
 same:∀ a b,Instr.sameNow kd (enc a) (enc b)=some (decide (a=b))
theorem abN:adY (fun n:Int=>Value.int .i64 n) (.int .i64):=⟨fun _=>rfl,fun a b=>by
 show (if IntKind.i64=IntKind.i64 then some (a == b) else none)=_
 rw [if_pos rfl];by_cases h:a=b <;> simp [h]⟩
theorem JJ {enc:K→Value} {kd:TypeDesc} (hK:adY enc kd) (k:K):∀ (es:List MapEntry) (m:List (K×Value)) (i:Nat),es.map (fun e=>(e.key,e.val))=m.map (fun p=>(enc p.1,p.2)) →
  Instr.findNow kd (enc k) es i=some ((VJ m k).map fun v=>(i+midx m k,v)):=by
 intro es
 induction es with
 | nil =>
  intro m i h
  cases m with
  | nil=>rfl
  | cons p m=>simp at h
 | cons e es ih =>
  intro m i h
  cases m with
  | nil=>simp at h
  | cons p m =>
   obtain ⟨a,v⟩:=p
   simp only [List.map_cons,List.cons.injEq,Prod.mk.injEq] at h
   obtain ⟨⟨h1,h2⟩,h3⟩:=h
   simp only [Instr.findNow,h1,hK.same,VJ,midx]
   by_cases hk:k=a
   ·
    simp [hk,h2]
   ·
    rw [decide_eq_false hk,if_neg (fun h=>hk h.symm),if_neg (fun h=>hk h.symm)]
    simp only []
    rw [ih m (i+1) h3]
    congr 2
    funext x
    congr 1
    omega
theorem abM {enc:K→Value} {k:K} {x:Value}:∀ (es:List MapEntry) (m:List (K×Value)),es.map (fun e=>(e.key,e.val))=m.map (fun p=>(enc p.1,p.2))→VJ m k≠none →
  (es.modify (midx m k) fun e=>{ e with key:=enc k,val:=x }).map (fun e=>(e.key,e.val))=(af2 m k x).map fun p=>(enc p.1,p.2):=by
 intro es
 induction es with
 | nil =>
  intro m h hn
  cases m with
  | nil=>exact absurd rfl hn
  | cons p m=>simp at h
 | cons e es ih =>
  intro m h hn
  cases m with
  | nil=>simp at h
  | cons p m =>
   obtain ⟨a,v⟩:=p
   simp only [List.map_cons,List.cons.injEq,Prod.mk.injEq] at h
   obtain ⟨⟨h1,h2⟩,h3⟩:=h
   simp only [midx,af2]
   by_cases hk:a=k
   ·
    simp [hk,h3]
   ·
    rw [if_neg hk,if_neg hk,List.modify_succ_cons]
    have hn':VJ m k≠none:=by unfold VJ at hn;rwa [if_neg hk] at hn
    simp only [List.map_cons,ih m h3 hn',h1,h2]
variable {P:Program} {t kt et:TypeId} {kd:TypeDesc} {z:Value} {enc:K→Value} {S S0:zx} {q:Nat} {m:List (K×Value)}
theorem afd (hK:adY enc kd) (hm:MapAt enc S q m) (ht:P.underlying t=some (.map kt et)) (hk:P.underlying kt=some kd) (hz:zeroOf P et=some z) (hg:ground z=true) (k:K) :
  kQ P false t (.map (some q)) (enc k) false S=some ((VJ m k).getD z,S):=by
 obtain ⟨es,c,h1,h2⟩:=hm
 unfold kQ jW
 simp only [Bool.false_eq_true,if_false,ht,hk,hK.kind,if_true,h1,JJ hK k es m 0 h2]
 cases VJ m k with
 | none=>simp [hz,hg]
 | some v=>simp
theorem afG (hK:adY enc kd) (hm:MapAt enc S q m) (ht:P.underlying t=some (.map kt et)) (hk:P.underlying kt=some kd) (k:K) (x:Value) :
  ∃ S2,jU P t (.map (some q)) (enc k) x S=some (zh,S2)∧MapAt enc S2 q (af2 m k x)∧S2.next=S.next∧(∀ j,j≠q→S2.get j=S.get j)∧(∀ S0,Ext S0 S→S0.next≤q→Ext S0 S2):=by
 obtain ⟨es,c,h1,h2⟩:=hm
 unfold jU
 simp only [ht,hk,hK.kind,if_true,h1,JJ hK k es m 0 h2]
 cases hg:VJ m k with
 | none =>
  refine ⟨_,rfl,⟨es++[{ key:=enc k,val:=x,born:=c }],c+1,by rw [zx.jJ,if_pos rfl],?_⟩,by simp,fun j hj=>by rw [zx.jJ,if_neg hj],fun S0 hE hq=>hE.set hq _⟩
  rw [Vp hg]
  simp [h2]
 | some v =>
  refine ⟨_,rfl,⟨_,c,by simp only [Option.map_some,Nat.zero_add,zx.jJ,if_true],abM es m h2 (by rw [hg];simp)⟩,by simp,fun j hj=>by rw [zx.jJ,if_neg hj],fun S0 hE hq=>hE.set hq _⟩
end Go.Abs
namespace Go.Proofs.Ytgggklfbhmlapaa
open Go.Abs
abbrev tl (k:Nat) (l:List TxV):Value:=vs fT 2 k l
theorem abv (t:TxV):(fT t).length=2:=rfl
theorem agJ (t:TxV):(fT t).all (·.oneCell')=true:=rfl
theorem JW {k:Nat} {l:List TxV} {S:zx} (h:Okl k l):Jc zi 27 (tl k l) S=some (.int .i64 l.length,S):=aaR yF h
theorem XB {k:Nat} {l pre suf:List TxV} {t:TxV} {S:zx} (h:Okl k l) (hl:l=pre++t::suf):zV zi 27 (tl k l) (.int .i64 pre.length) S=some (EP [.int .i64 t.id,.int .i64 t.fee],S):=by
 have h1:(pre.length:Int) < (l.length:Int):=by rw [hl];simp;omega
 rw [ae6 yF kE abv h (by omega) h1,aeG hl];rfl
theorem afD {k:Nat} {l:List TxV} {t:TxV} {S:zx} (h:Okl k l) (hk:k≠1) (hl:l.length≤8796093022000):wu zi 27 27 (tl k l) (tl 2 [t]) S=some (tl 2 (l++[t]),S):=by
 rw [Jv yF kE Vq rfl XR (by omega) yF abv agJ h hk Okl.own (by simp;omega) (by simp;omega),if_neg (fun h=>by have:=h.2;simp at this)]
theorem XG {α:Type} (g:α→Int) (v:Value) (l:List α) (k:Int):VJ (l.map fun t=>(g t,v)) k=if k ∈ l.map g then some v else none:=by
 induction l with
 | nil=>rfl
 | cons t l ih =>
  simp only [List.map_cons,VJ,ih,List.mem_cons]
  by_cases h:g t=k
  ·
   simp [h]
  ·
   have h':¬ k=g t:=fun e=>h e.symm
   simp [h,h']
abbrev kI:Int→Value:=fun n=>.int .i64 n
def unl (l:List TxV):Bool:=decide ((l.map TxV.id).Nodup) && decide (l.length≤3)
theorem zH.round {k:Nat} {l:List TxV} (hk:Okl k l) (hl:l.length≤8796093022208) {q:Nat}:∀ (suf pre:List TxV) {T:List Value} {S:zx} {r:St},yN (zD zi O false zH.jm) T S=r→T.length=24 →
  T.getD 0 zh=tl k l→T.getD 3 zh=.map (some q)→T.getD 7 zh=tl k l→T.getD 8 zh=.int .i64 l.length→T.getD 9 zh=.int .i64 pre.length→l=pre++suf →
  MapAt kI S q (pre.map fun t=>(t.id,.bool true))→q < S.next→(pre.map TxV.id).Nodup →
  ∃ e T' S',r=some (e,T',S')∧if (l.map TxV.id).Nodup then e=.exit 0∧T'.length=24∧T'.getD 0 zh=tl k l else e=.ret∧T'.getD 2 zh=.bool false:=by
 intro suf
 induction suf with
 | nil =>
  intro pre T S r hL hT h0 h3 h7 h8 h9 hpre hm hq hn
  have hTe:=zH.eta hT
  rw [h0,h3,h7,h8,h9] at hTe
  have hr:zD zi O false zH.jm T S=zD zi O false zH.jm T S:=rfl
  have d1:¬ (pre.length:Int) < (l.length:Int):=by rw [hpre];simp
  conv at hr =>
   rhs
   rw [hTe]
   simp only [zH.jm,zH.code,zH.rs,zSs,reduceIte,zk,zn,zo,zq,d1]
  refine ⟨_,_,_,hL.symm.trans (jK hr (by simp)),?_⟩
  rw [if_pos (by rw [hpre,List.append_nil];exact hn)]
  exact ⟨rfl,rfl,rfl⟩
 | cons t suf ih =>
  intro pre T S r hL hT h0 h3 h7 h8 h9 hpre hm hq hn
  have hTe:=zH.eta hT
  rw [h0,h3,h7,h8,h9] at hTe
  have hr:zD zi O false zH.jm T S=zD zi O false zH.jm T S:=rfl
  have d1:(pre.length:Int) < (l.length:Int):=by rw [hpre];simp;omega
  have e1:=fun S=>XB (S:=S) hk hpre
  have wi:IntKind.i64.wrap ((pre.length:Int)+1)=((pre++[t]).length:Int):=by rw [wrap_i64 (by omega) (by omega)];simp
  obtain ⟨S2,p1,p2,p3,p4⟩:=acA S t
  have hm2:MapAt kI S2 q (pre.map fun t=>(t.id,.bool true)):=hm.keep (p3.get q hq)
  have m1:kQ zi false 77 (.map (some q)) (.int .i64 t.id) false S2=_:=afd abN hm2 Z4 adV agi rfl t.id
  rw [XG] at m1
  by_cases ht:t.id ∈ pre.map TxV.id
  ·
   rw [if_pos ht] at m1
   conv at hr =>
    rhs
    rw [hTe]
    simp only [zH.jm,zH.code,zH.rs,zSs,reduceIte,zk,zn,zo,zq,d1,e1,kX,Y0,p1,xq,aex p2,m1,Option.getD_some]
   refine ⟨_,_,_,hL.symm.trans (jK hr (by simp)),?_⟩
   rw [if_neg (by rw [hpre];simp only [List.map_append,List.map_cons,List.nodup_append];intro h;exact h.2.2 _ ht _ (by simp) rfl)]
   exact ⟨rfl,rfl⟩
  ·
   rw [if_neg ht] at m1
   obtain ⟨S3,u1,u2,u3,u4,u5⟩:=afG abN hm2 Z4 adV t.id (.bool true)
   have u1':jU zi 77 (.map (some q)) (.int .i64 t.id) (.bool true) S2=some (zh,S3):=u1
   rw [Vp (by rw [XG,if_neg ht])] at u2
   conv at hr =>
    rhs
    rw [hTe]
    simp only [zH.jm,zH.code,zH.rs,zSs,reduceIte,zk,zn,zo,zq,d1,e1,kX,Y0,p1,xq,aex p2,m1,Option.getD_none,u1',wi]
   refine ih (pre++[t]) ((yc hr).symm.trans hL) rfl rfl rfl rfl rfl rfl (by simp [hpre]) (by simpa using u2) (by omega) ?_
   simp only [List.map_append,List.map_cons,List.map_nil,List.nodup_append]
   exact ⟨hn,by simp,fun a ha b hb=>by simp at hb;subst hb;exact fun h=>ht (h ▸ ha)⟩
theorem zH.v {k:Nat} {l:List TxV} (hk:Okl k l) (k2:k≠2) (hl:l.length≤8796093022208) (S:zx):zU zi O zH.id [tl k l] S=some (.bool (unl l),S):=by
 obtain ⟨T,hTe⟩:∃ T,T=(tl k l::zh::zh::zh::zh::zh::zh::zh::zh::zh::zh::zh::zh::zh::zh::zh::zh::zh::zh::zh::zh::zh::zh::zh::[]):=⟨_,rfl⟩
 have hr:zD zi O false zH.code T zx.empty=zD zi O false zH.code T zx.empty:=rfl
 obtain ⟨S1,m1,m2,m3,m4,m5⟩:=afy (P:=zi) (t:=77) kI zx.empty
 conv at hr =>
  rhs
  rw [hTe]
  simp only [zH.code,zH.rs,zSs,reduceIte,zk,zn,zo,zq,m1,if_neg k2,JW hk]
 generalize hL:yN (zD zi O false zH.jm) _ _=r at hr
 obtain ⟨e,T',S',rfl,g⟩:=zH.round hk hl l [] hL rfl rfl rfl rfl rfl rfl rfl m2 (by omega) List.nodup_nil
 unfold unl
 by_cases h:(l.map TxV.id).Nodup
 ·
  rw [if_pos h] at g
  obtain ⟨rfl,g2,g3⟩:=g
  have hTe':=zH.eta g2
  rw [g3] at hTe'
  have d3:decide ((l.length:Int)≤3)=decide (l.length≤3):=decide_eq_decide.mpr (by omega)
  conv at hr =>
   rhs
   rw [hTe']
   simp only [zH.code,zH.rs,zSs,reduceIte,zk,zn,zo,zq,if_neg k2,JW hk,d3]
  rw [hTe] at hr
  rw [decide_eq_true h,Bool.true_and]
  exact zH.runs hr (.inr rfl) (all1 (vw hk.le fun _ _=>rfl)) rfl
 ·
  rw [if_neg h] at g
  obtain ⟨rfl,g2⟩:=g
  conv at hr =>
   rhs
   simp only [zSs,reduceIte,zk,zn,zo,zq]
  rw [hTe] at hr
  rw [decide_eq_false h,Bool.false_and]
  have hrun:=zH.runs (S:=S) hr (.inr rfl) (all1 (vw hk.le fun _ _=>rfl)) (by rw [g2];rfl)
  rw [g2] at hrun
  exact hrun
def kD (l:List TxV):Bool:=unl l && l.all yB
def flat (l:List TxV):List Int:=l.flatMap fun t=>[t.id,t.fee]
def Vm (l:List TxV):List UInt8:=encs ((l.length:Int)::flat l)
def agQ (l:List TxV):Value:=if kD l then .tuple #[by_ 2 (Vm l),.int .i64 0] else .tuple #[.slice none 0 0,.int .i64 61]
theorem Xm (a b:List TxV):flat (a++b)=flat a++flat b:=by simp [flat]
theorem Y1 (l:List TxV):(flat l).length=2 * l.length:=by
 induction l with
 | nil=>rfl
 | cons t l ih=>rw [show flat (t::l)=[t.id,t.fee]++flat l from rfl,List.length_append,ih];simp;omega
theorem XA {l:List TxV} (h:∀ t ∈ l,yB t=true):∀ n ∈ flat l,0≤n∧n≤1000000:=by
 intro n hn
 simp only [flat,List.mem_flatMap] at hn
 obtain ⟨t,h1,h2⟩:=hn
 obtain ⟨b1,b2,b3,b4⟩:=vM.mp (h t h1)
 simp at h2
 omega
theorem qp (l:List TxV):Vm l=encs [(l.length:Int)]++encs (flat l):=qO [(l.length:Int)] (flat l)
theorem ZA {l:List TxV} (h:∀ t ∈ l,yB t=true):(encs (flat l)).length≤20 * l.length:=by
 have h1:=vF (l:=flat l) (fun n hn=>by have:=XA h n hn;omega)
 rw [Y1] at h1
 omega
theorem zN.round {k:Nat} {l:List TxV} (hk:Okl k l) (hl:l.length≤3) {A:List UInt8} (hA:A.length≤100):∀ (suf pre:List TxV) {T:List Value} {S:zx} {r:St},yN (zD zi O false zN.jm) T S=r→T.length=39 →
  T.getD 4 zh=by_ 2 (A++encs (flat pre))→T.getD 20 zh=tl k l→T.getD 21 zh=.int .i64 l.length→T.getD 22 zh=.int .i64 pre.length→l=pre++suf→(∀ t ∈ pre,yB t=true) →
  ∃ e T' S',r=some (e,T',S')∧if l.all yB=true then e=.exit 0∧T'.length=39∧T'.getD 4 zh=by_ 2 (A++encs (flat l)) else e=.ret∧T'.getD 2 zh=.slice none 0 0∧T'.getD 3 zh=.int .i64 61:=by
 intro suf
 induction suf with
 | nil =>
  intro pre T S r hL hT h4 h20 h21 h22 hpre hp
  have hTe:=zN.eta hT
  rw [h4,h20,h21,h22] at hTe
  have hr:zD zi O false zN.jm T S=zD zi O false zN.jm T S:=rfl
  have d1:¬ (pre.length:Int) < (l.length:Int):=by rw [hpre];simp
  conv at hr =>
   rhs
   rw [hTe]
   simp only [zN.jm,zN.code,zN.rs,zSs,reduceIte,zk,zn,zo,zq,d1]
  refine ⟨_,_,_,hL.symm.trans (jK hr (by simp)),?_⟩
  rw [List.append_nil] at hpre
  rw [hpre,if_pos (List.all_eq_true.mpr hp)]
  exact ⟨rfl,rfl,rfl⟩
 | cons t suf ih =>
  intro pre T S r hL hT h4 h20 h21 h22 hpre hp
  have hTe:=zN.eta hT
  rw [h4,h20,h21,h22] at hTe
  have hr:zD zi O false zN.jm T S=zD zi O false zN.jm T S:=rfl
  have d1:(pre.length:Int) < (l.length:Int):=by rw [hpre];simp;omega
  have e1:=fun S=>XB (S:=S) hk hpre
  have wi:IntKind.i64.wrap ((pre.length:Int)+1)=((pre++[t]).length:Int):=by rw [wrap_i64 (by omega) (by omega)];simp
  obtain ⟨S2,p1,p2,p3,p4⟩:=acA S t
  have c1:∀ S,zU zi O 39 [.agg [Value.int .i64 t.id,.int .i64 t.fee].toArray] S=some (agP t,S):=fun S=>jF.v t S
  unfold agP at c1
  by_cases ht:yB t=true
  ·
   rw [if_pos ht] at c1
   have hb:=afP ht
   have hf:=ZA hp
   have hpl:pre.length≤3:=by omega
   have ap:∀ S,wu zi 33 33 (by_ 2 (A++encs (flat pre))) (by_ 1 (txB t)) S=some (by_ 2 (A++encs (flat (pre++[t]))),S):=fun S=>by
    rw [vk Okl.own (by decide) Okl.read (by simp;omega),Xm,qO,← List.append_assoc];rfl
   conv at hr =>
    rhs
    rw [hTe]
    simp only [zN.jm,zN.code,zN.rs,zSs,reduceIte,zk,zn,zo,zq,d1,e1,kX,Y0,p1,VW p2,c1,ap,wi]
   exact ih (pre++[t]) ((yc hr).symm.trans hL) rfl rfl rfl rfl rfl (by simp [hpre]) (fun x hx=>by rcases List.mem_append.1 hx with h | h;{ exact hp x h };{ simp at h;rw [h];exact ht })
  ·
   rw [if_neg ht] at c1
   conv at hr =>
    rhs
    rw [hTe]
    simp only [zN.jm,zN.code,zN.rs,zSs,reduceIte,zk,zn,zo,zq,d1,e1,kX,Y0,p1,VW p2,c1]
   refine ⟨_,_,_,hL.symm.trans (jK hr (by simp)),?_⟩
   rw [if_neg (by rw [hpre];simp [ht])]
   exact ⟨rfl,rfl,rfl⟩
theorem zN.v {k:Nat} {l:List TxV} (hk:Okl k l) (k2:k≠2) (hl:l.length≤8796093022208) (S:zx):zU zi O zN.id [tl k l] S=some (agQ l,S):=by
 obtain ⟨T,hTe⟩:∃ T,T=(tl k l::zh::zh::zh::zh::zh::zh::zh::zh::zh::zh::zh::zh::zh::zh::zh::zh::zh::zh::zh::zh::zh::zh::zh::zh::zh::zh::zh::zh::zh::zh::zh::zh::zh::zh::zh::zh::zh::zh::[]):=⟨_,rfl⟩
 have hr:zD zi O false zN.code T zx.empty=zD zi O false zN.code T zx.empty:=rfl
 have c1:=fun S=>zH.v hk k2 hl S
 have cl:zX 16 (tl k l)=true:=vw hk.le fun _ _=>rfl
 unfold agQ kD
 by_cases hu:unl l=true
 ·
  have h3:l.length≤3:=by unfold unl at hu;simp at hu;exact hu.2
  have c2:=fun S=>zF.v (l:=[(l.length:Int)]) Okl.read (by decide) (by simp;omega) S
  have hA:(encs [(l.length:Int)]).length≤100:=by
   have:=vF (l:=[(l.length:Int)]) (by simp;omega)
   simp at this;omega
  conv at hr =>
   rhs
   rw [hTe]
   simp only [zN.code,zN.rs,zSs,reduceIte,zk,zn,zo,zq,if_neg k2,c1,hu,JW hk,WU,af7,c2,Y4 (l:=[(l.length:Int)]) (by simp) (by intro n hn;simp at hn;omega) (by simp)]
  generalize hL:yN (zD zi O false zN.jm) _ _=r at hr
  obtain ⟨e,T',S',rfl,g⟩:=zN.round hk h3 hA l [] hL rfl (by rw [show flat []=[] from rfl,show encs []=[] from rfl,List.append_nil];rfl) rfl rfl rfl rfl (fun t h=>by cases h)
  by_cases ha:l.all yB=true
  ·
   rw [if_pos ha] at g
   obtain ⟨rfl,g2,g3⟩:=g
   have hTe':=zN.eta g2
   rw [g3] at hTe'
   conv at hr =>
    rhs
    rw [hTe']
    simp only [zN.code,zN.rs,zSs,reduceIte,zk,zn,zo,zq]
   rw [hTe] at hr
   rw [if_pos (by rw [hu,ha];rfl),qp]
   exact zN.runs hr (.inr rfl) (by simp only [List.getD_cons_succ,List.getD_cons_zero,jH,jE,jh,jq,jD]) rfl (all1 cl) (qo (all2 (kK (k:=2) (Nat.le_refl 2)) rfl))
  ·
   rw [if_neg ha] at g
   obtain ⟨rfl,g2,g3⟩:=g
   conv at hr =>
    rhs
    simp only [zSs,reduceIte,zk,zn,zo,zq]
   rw [hTe] at hr
   rw [if_neg (by rw [hu,Bool.true_and];exact ha)]
   have hrun:=zN.runs (S:=S) hr (.inr rfl) (by rw [g2];rfl) (by rw [g3];rfl) (all1 cl) (by rw [g2,g3];rfl)
   rw [g2,g3] at hrun
   exact hrun
 ·
  rw [Bool.not_eq_true] at hu
  conv at hr =>
   rhs
   rw [hTe]
   simp only [zN.code,zN.rs,zSs,reduceIte,zk,zn,zo,zq,if_neg k2,c1,hu]
  rw [hTe] at hr
  rw [if_neg (by rw [hu];simp)]
  exact zN.runs hr (.inr rfl) rfl rfl (all1 cl) rfl
def good (l:List TxV):Prop:=(l.map TxV.id).Nodup∧∀ t ∈ l,yB t=true
theorem kT {l:List TxV}:kD l=true ↔ good l∧l.length≤3:=by
 unfold kD unl good
 simp [and_assoc,and_comm,and_left_comm]
end Go.Proofs.Ytgggklfbhmlapaa
namespace Go.Abs
variable {P:Program} {t:TypeId} {xs ys:Array Value} {d:Nat}
theorem ZO (P:Program):jY P program=some P:=rfl
def FEq (P:Program) (d:Nat) (xs ys:Array Value):List Field→List Bool→Prop
 | [],[]=>True
 | f::fs,b::bs=>(f.name≠ "_"∧∃ v w,jY P (part f.type xs f.offset)=some v∧jY P (part f.type ys f.offset)=some w∧jY P (Op.equalIn d f.type v w)=some b)∧FEq P d xs ys fs bs
 | _,_=>False
theorem aaK {fs:List Field} (hu:P.underlying t=some (.struct fs.toArray)) (hs:P.stoodInHeld t=false) {bs:List Bool} (h:FEq P d xs ys fs bs):jY P (Op.equalIn (d+1) t (.agg xs) (.agg ys))=some (bs.all id):=by
 rw [Op.equalIn]
 simp only [jZ,qg hu,Option.bind_some,ZO,hs,Bool.false_eq_true,if_false,List.forIn_toArray]
 clear hu hs
 induction fs generalizing bs with
 | nil =>
  cases bs with
  | nil=>rfl
  | cons b bs=>exact absurd h id
 | cons f fs ih =>
  cases bs with
  | nil=>exact absurd h id
  | cons b bs =>
   obtain ⟨⟨h1,v,w,h2,h3,h4⟩,h5⟩:=h
   rw [List.forIn_cons]
   simp only [jZ,if_pos h1,h2,h3,h4,Option.bind_some]
   cases b with
   | true =>
    simp only [Bool.not_true,Bool.false_eq_true,if_false,jk,Option.bind_some,List.all_cons,id,Bool.true_and]
    exact ih h5
   | false =>
    simp only [Bool.not_false,if_true,jk,Option.bind_some,List.all_cons,id,Bool.false_and]
theorem VU {fs:List Field} {S:zx} (hu:P.underlying t=some (.struct fs.toArray)) (hs:P.stoodInHeld t=false) (hg:P.eqGuardType P.depth t=false) {bs:List Bool} (h:FEq P 9999 xs ys fs bs)
  (gx:ground (.agg xs)=true) (gy:ground (.agg ys)=true):wE P .eql t (.agg xs) (.agg ys) S=some (.bool (bs.all id),S)∧wE P .neq t (.agg xs) (.agg ys) S=some (.bool (!bs.all id),S):=by
 rw [XQ,XQ]
 have e:jY P (Op.equal t (.agg xs) (.agg ys))=some (bs.all id):=aaK hu hs h
 have g:jY P (eqGuard .eql t (.tmp 0) (.tmp 0) (.agg xs) (.agg ys))=some ():=by
  unfold eqGuard
  simp only [Bool.not_true,Bool.false_eq_true,if_false,jZ,ZO,Option.bind_some,hg,Bool.not_false,if_true]
  rfl
 have g':jY P (eqGuard .neq t (.tmp 0) (.tmp 0) (.agg xs) (.agg ys))=some ():=by
  unfold eqGuard
  simp only [Bool.not_true,Bool.false_eq_true,if_false,jZ,ZO,Option.bind_some,hg,Bool.not_false,if_true]
  rfl
 have ha:[Value.agg xs,.agg ys].all ground=true:=by simp [gx,gy]
 constructor
 ·
  unfold xB yJ
  simp only [hu]
  show jT P [Value.agg xs,.agg ys] _ S=_
  refine jr ha ?_ rfl
  simp only [jZ,g,Option.bind_some]
  unfold binOp
  simp only [jZ,e,Option.bind_some,jk]
 ·
  unfold xB yJ
  simp only [hu]
  show jT P [Value.agg xs,.agg ys] _ S=_
  refine jr ha ?_ rfl
  simp only [jZ,g',Option.bind_some]
  unfold binOp
  simp only [jZ,e,Option.bind_some,jk]
end Go.Abs
namespace Go.Proofs.Ytgggklfbhmlapaa
open Go.Abs
theorem TxV.ext_iff' {t u:TxV}:t=u ↔ t.id=u.id∧t.fee=u.fee:=by cases t;cases u;simp
theorem ag8 (t u:TxV) (S:zx):wE zi .eql 47 (tv t) (tv u) S=some (.bool (decide (t=u)),S)∧wE zi .neq 47 (tv t) (tv u) S=some (.bool (!decide (t=u)),S):=by
 have h:=VU (S:=S) (xs:=#[Value.int .i64 t.id,.int .i64 t.fee]) (ys:=#[Value.int .i64 u.id,.int .i64 u.fee]) (bs:=[t.id == u.id,t.fee == u.fee]) adt (by kernel_rfl) (by kernel_rfl)
  ⟨⟨by decide,.int .i64 t.id,.int .i64 u.id,by kernel_rfl,by kernel_rfl,by kernel_rfl⟩,⟨by decide,.int .i64 t.fee,.int .i64 u.fee,by kernel_rfl,by kernel_rfl,by kernel_rfl⟩,trivial⟩ rfl rfl
 have e:[t.id == u.id,t.fee == u.fee].all id=decide (t=u):=by
  rw [Bool.eq_iff_iff]
  simp [TxV.ext_iff']
 rw [e] at h
 exact h
theorem slices_Equal.round {k j:Nat} {a b:List TxV} (hk:Okl k a) (hj:Okl j b) (k2:k≠2) (j2:j≠2) (hab:a.length=b.length) (hlen:a.length≤17592186044416) {S:zx}:∀ (sa sb pa pb:List TxV) {T:List Value} {r:St},yN (zD zi O false slices_Equal.jm) T S=r→T.length=26 →
  T.getD 0 zh=tl k a→T.getD 1 zh=tl j b→T.getD 12 zh=.int .i64 a.length→T.getD 13 zh=.int .i64 pa.length→a=pa++sa→b=pb++sb→pa.length=pb.length→pa=pb →
  ∃ e T',r=some (e,T',S)∧if a=b then e=.exit 0∧T'.length=26 else e=.ret∧T'.getD 4 zh=.bool false:=by
 intro sa
 induction sa with
 | nil =>
  intro sb pa pb T r hL hT h0 h1 h12 h13 ha hb hp hpp
  have hTe:=slices_Equal.eta hT
  rw [h0,h1,h12,h13] at hTe
  have hr:zD zi O false slices_Equal.jm T S=zD zi O false slices_Equal.jm T S:=rfl
  have hd:¬ (pa.length:Int) < (a.length:Int):=by rw [ha];simp
  conv at hr =>
   rhs
   rw [hTe]
   simp only [slices_Equal.jm,slices_Equal.code,slices_Equal.rs,zSs,reduceIte,zk,zn,zo,zq,hd]
  have hsb:sb=[]:=by rw [ha,hb] at hab;simp [hp] at hab;exact hab
  refine ⟨_,_,hL.symm.trans (jK hr (by simp)),?_⟩
  rw [if_pos (by rw [ha,hb,hsb,hpp])]
  exact ⟨rfl,rfl⟩
 | cons x sa ih =>
  intro sb pa pb T r hL hT h0 h1 h12 h13 ha hb hp hpp
  have hTe:=slices_Equal.eta hT
  rw [h0,h1,h12,h13] at hTe
  have hr:zD zi O false slices_Equal.jm T S=zD zi O false slices_Equal.jm T S:=rfl
  have hd:(pa.length:Int) < (a.length:Int):=by rw [ha];simp;omega
  cases sb with
  | nil=>rw [ha,hb] at hab;simp [hp] at hab
  | cons y sb =>
   have e1:=fun S=>XB (S:=S) hk ha
   have e2:∀ S,zV zi 27 (tl j b) (.int .i64 pa.length) S=some (EP [.int .i64 y.id,.int .i64 y.fee],S):=fun S=>by rw [hp];exact XB hj hb
   have wi:IntKind.i64.wrap ((pa.length:Int)+1)=((pa++[x]).length:Int):=by rw [wrap_i64 (by omega) (by omega)];simp
   have q:∀ S,wE zi .neq 47 (.agg [Value.int .i64 x.id,.int .i64 x.fee].toArray) (.agg [Value.int .i64 y.id,.int .i64 y.fee].toArray) S=some (.bool (!decide (x=y)),S):=fun S=>(ag8 x y S).2
   by_cases hxy:x=y
   ·
    conv at hr =>
     rhs
     rw [hTe]
     simp only [slices_Equal.jm,slices_Equal.code,slices_Equal.rs,zSs,reduceIte,zk,zn,zo,zq,hd,if_neg k2,if_neg j2,e1,e2,kX,q,decide_eq_true hxy,wi]
    subst hxy
    exact ih sb (pa++[x]) (pb++[x]) ((yc hr).symm.trans hL) rfl rfl rfl rfl rfl (by simp [ha]) (by simp [hb]) (by simp [hp]) (by rw [hpp])
   ·
    conv at hr =>
     rhs
     rw [hTe]
     simp only [slices_Equal.jm,slices_Equal.code,slices_Equal.rs,zSs,reduceIte,zk,zn,zo,zq,hd,if_neg k2,if_neg j2,e1,e2,kX,q,decide_eq_false hxy]
    refine ⟨_,_,hL.symm.trans (jK hr (by simp)),?_⟩
    rw [if_neg (by rw [ha,hb,hpp];simp [hxy])]
    exact ⟨rfl,rfl⟩
theorem slices_Equal.v {k j:Nat} {a b:List TxV} (hk:Okl k a) (hj:Okl j b) (k2:k≠2) (j2:j≠2) (hlen:a.length≤17592186044416) (S:zx):zU zi O slices_Equal.id [tl k a,tl j b] S=some (.bool (decide (a=b)),S):=by
 obtain ⟨T,hTe⟩:∃ T,T=(tl k a::tl j b::zh::zh::zh::zh::zh::zh::zh::zh::zh::zh::zh::zh::zh::zh::zh::zh::zh::zh::zh::zh::zh::zh::zh::zh::[]):=⟨_,rfl⟩
 have hr:zD zi O false slices_Equal.code T S=zD zi O false slices_Equal.code T S:=rfl
 by_cases hab:a.length=b.length
 ·
  have d1:¬ (a.length:Int)≠(b.length:Int):=by omega
  conv at hr =>
   rhs
   rw [hTe]
   simp only [slices_Equal.code,slices_Equal.rs,zSs,reduceIte,zk,zn,zo,zq,if_neg k2,if_neg j2,JW hk,JW hj,hab]
  rw [← hab] at hr
  generalize hL:yN (zD zi O false slices_Equal.jm) _ _=r at hr
  obtain ⟨e,T',rfl,g⟩:=slices_Equal.round hk hj k2 j2 hab hlen a b [] [] hL rfl rfl rfl rfl rfl rfl rfl rfl rfl
  by_cases h:a=b
  ·
   rw [if_pos h] at g
   obtain ⟨rfl,g2⟩:=g
   have hTe':=slices_Equal.eta g2
   conv at hr =>
    rhs
    rw [hTe']
    simp only [slices_Equal.code,slices_Equal.rs,zSs,reduceIte,zk,zn,zo,zq]
   rw [hTe] at hr
   rw [decide_eq_true h]
   exact slices_Equal.runs hr (.inr rfl)
  ·
   rw [if_neg h] at g
   obtain ⟨rfl,g2⟩:=g
   conv at hr =>
    rhs
    simp only [zSs,reduceIte,zk,zn,zo,zq]
   rw [hTe] at hr
   have hrun:=slices_Equal.runs hr (.inr rfl)
   rw [g2] at hrun
   rw [decide_eq_false h]
   exact hrun
 ·
  have d1:¬ (a.length:Int)=(b.length:Int):=by omega
  conv at hr =>
   rhs
   rw [hTe]
   simp only [slices_Equal.code,slices_Equal.rs,zSs,reduceIte,zk,zn,zo,zq,if_neg k2,if_neg j2,JW hk,JW hj,d1]
  rw [hTe] at hr
  rw [decide_eq_false (fun h:a=b=>hab (by rw [h]))]
  exact slices_Equal.runs hr (.inr rfl)
theorem adI:∀ {a b:List TxV},flat a=flat b→a=b:=by
 intro a
 induction a with
 | nil=>intro b h;cases b with
  | nil=>rfl
  | cons u b=>simp [flat] at h
 | cons t a ih =>
  intro b h
  cases b with
  | nil=>simp [flat] at h
  | cons u b =>
   have h':[t.id,t.fee]++flat a=[u.id,u.fee]++flat b:=h
   simp at h'
   rw [ih h'.2.2,TxV.ext_iff'.mpr ⟨h'.1,h'.2.1⟩]
theorem aep {l:List TxV} (h:∀ t ∈ l,yB t=true):∀ n ∈ flat l,Few n:=fun n hn=>by have:=XA h n hn;unfold Few;omega
theorem acG {a b:List TxV} {r s:List UInt8} (la:a.length≤1000) (lb:b.length≤1000) (ha:∀ t ∈ a,yB t=true) (hb:∀ t ∈ b,yB t=true) (h:Vm a++r=Vm b++s):a=b∧r=s:=by
 rw [qp,qp,List.append_assoc,List.append_assoc] at h
 obtain ⟨h1,h2⟩:=Jp (a:=[(a.length:Int)]) (c:=[(b.length:Int)]) rfl (by simp [Few];omega) (by simp [Few];omega) h
 simp at h1
 obtain ⟨h3,h4⟩:=Jp (by rw [Y1,Y1];omega) (aep ha) (aep hb) h2
 exact ⟨adI h3,h4⟩
theorem XP {a b:List TxV} {r s:List UInt8} (ha:kD a=true) (hb:kD b=true) (h:Vm a++r=Vm b++s):a=b∧r=s:=by
 obtain ⟨h1,h2⟩:=kT.mp ha
 obtain ⟨h3,h4⟩:=kT.mp hb
 exact acG (by omega) (by omega) h1.2 h3.2 h
noncomputable def kC (l:List UInt8):Option (List TxV):=rd (fun t=>kD t=true) Vm l
theorem kW (l:List UInt8) (t:List TxV):kC l=some t ↔ kD t=true∧l=Vm t :=
 aeC (fun x y hx hy h=>(XP (r:=[]) (s:=[]) hx hy (by simpa using h)).1) l t
theorem V4 {l:List UInt8} (h:∀ t,¬ (kD t=true∧l=Vm t)):kC l=none:=by
 cases hr:kC l with
 | none=>rfl
 | some t=>exact absurd ((kW l t).mp hr) (h t)
noncomputable def XY (k:Nat) (l:List UInt8):Value:=match kC l with
 | some t=>.tuple #[tl (if t=[] then k else 2) t,.int .i64 0]
 | none=>.tuple #[.slice none 0 0,.int .i64 61]
def vW:Nat→List UInt8→Option (List TxV×List UInt8)
 | 0,l=>some ([],l)
 | m+1,l=>match wJ 2 l with
  | some ([a,b],r)=>if yB ⟨a,b⟩ then (match vW m r with
   | some (x,y)=>some (⟨a,b⟩::x,y)
   | none=>none) else none
  | _=>none
theorem Yk:∀ (m:Nat) (l:List UInt8) (a:List TxV) (b:List UInt8),vW m l=some (a,b) ↔ a.length=m∧(∀ t ∈ a,yB t=true)∧l=encs (flat a)++b:=by
 intro m
 induction m with
 | zero =>
  intro l a b
  constructor
  ·
   intro h;cases h;exact ⟨rfl,(fun t h=>by cases h),rfl⟩
  ·
   rintro ⟨h1,h2,h3⟩
   have:a=[]:=List.length_eq_zero_iff.mp h1
   subst this
   rw [h3];rfl
 | succ m ih =>
  intro l a b
  rw [vW]
  constructor
  ·
   intro h
   rcases Xb l with hn | ⟨x,y,r,hn,hlr⟩
   ·
    rw [hn] at h;cases h
   ·
    rw [hn] at h
    dsimp only at h
    split at h
    ·
     rename_i hok
     cases hr:vW m r with
     | none=>rw [hr] at h;cases h
     | some ab =>
      obtain ⟨a',b'⟩:=ab
      rw [hr] at h
      obtain ⟨h1,h2,h3⟩:=(ih r a' b').mp hr
      cases h
      obtain ⟨f1,f2,f3⟩:=(yg _ _ _ _).mp hn
      refine ⟨by simp [h1],fun t ht=>?_,?_⟩
      ·
       rcases List.mem_cons.1 ht with rfl | ht
       ·
        exact hok
       ·
        exact h2 t ht
      ·
       rw [f2,h3,show flat (⟨x,y⟩::a')=[x,y]++flat a' from rfl,qO,List.append_assoc]
    ·
     cases h
  ·
   rintro ⟨h1,h2,h3⟩
   cases a with
   | nil=>simp at h1
   | cons t a =>
    have ht:=h2 t (by simp)
    obtain ⟨b1,b2,b3,b4⟩:=vM.mp ht
    have hn:=(yg 2 l [t.id,t.fee] (encs (flat a)++b)).mpr ⟨rfl,by rw [h3,show flat (t::a)=[t.id,t.fee]++flat a from rfl,qO,List.append_assoc],by simp [Few];omega⟩
    rw [hn]
    dsimp only
    rw [if_pos ht,(ih (encs (flat a)++b) a b).mpr ⟨by simpa using h1,fun u hu=>h2 u (by simp [hu]),rfl⟩]
theorem afa (l:List UInt8):wJ 1 l=none∨∃ a r,wJ 1 l=some ([a],r)∧r.length≤l.length:=by
 cases h:wJ 1 l with
 | none=>exact .inl rfl
 | some ar =>
  obtain ⟨a,r⟩:=ar
  obtain ⟨h1,h2⟩:=ZR h
  match a,h1 with
  | [x],_=>exact .inr ⟨x,r,rfl,h2⟩
theorem vH {l r:List UInt8} {n:Int} (h:wJ 1 l=some ([n],r)) (t:List TxV):kC l=some t ↔ 0≤n∧n≤3∧vW n.toNat r=some (t,[])∧unl t=true:=by
 obtain ⟨_,h2,h3⟩:=(yg _ _ _ _).mp h
 rw [kW,Yk]
 constructor
 ·
  rintro ⟨g1,g2⟩
  obtain ⟨h5,h6⟩:=kT.mp g1
  rw [qp,h2] at g2
  obtain ⟨h7,h8⟩:=Jp (a:=[n]) (c:=[(t.length:Int)]) rfl h3 (by simp [Few];omega) g2
  simp at h7
  refine ⟨by omega,by omega,⟨by omega,h5.2,by simpa using h8⟩,?_⟩
  unfold kD at g1
  simp at g1
  exact g1.1
 ·
  rintro ⟨g1,g2,⟨g3,g4,g5⟩,g6⟩
  refine ⟨?_,?_⟩
  ·
   unfold kD
   rw [g6,Bool.true_and,List.all_eq_true]
   exact g4
  ·
   have:n=(t.length:Int):=by omega
   rw [h2,g5,List.append_nil,qp,this]
theorem YZ {l:List UInt8} (h:wJ 1 l=none):kC l=none:=by
 refine V4 fun t ht=>?_
 obtain ⟨h5,h6⟩:=kT.mp ht.1
 have:=(yg 1 l [(t.length:Int)] (encs (flat t))).mpr ⟨rfl,by rw [ht.2,qp],by simp [Few];omega⟩
 rw [h] at this
 cases this
end Go.Proofs.Ytgggklfbhmlapaa
namespace Go.Proofs.Ytgggklfbhmlapaa
open Go.Abs
theorem agk (t:TxV) (S:zx):jI zi 27 1 [(0,tv t)] S=some (tl 2 [t],S):=by kernel_rfl
theorem ahl (k:Nat) (hk:k≤2) (a:Int) (h:k≠0) (S:zx):zV zi 53 (iz k [a]) (.int .i64 0) S=some (EP [.int .i64 a],S):=abj ⟨hk,fun h0=>absurd h0 h⟩ (by decide) (by simp)
theorem acz {k:Nat} (hk:k≤2) (l:List TxV):Okl (if l=[] then k else 2) l:=⟨by split <;> omega,fun h=>by split at h <;> first | assumption | omega⟩
theorem zA.round {n:Int} (hn:n≤3):∀ (m:Nat) (i:Int) (rest:List UInt8) (out:List TxV) {T:List Value} {S:zx} {r:St},yN (zD zi O false zA.jm) T S=r→T.length=59 →
  T.getD 5 zh=by_ 2 rest→T.getD 7 zh=tl (if out=[] then 0 else 2) out→T.getD 33 zh=.int .i64 n→T.getD 34 zh=.int .i64 i→0≤i→n=i+m→out.length≤3 - m→rest.length≤140737488355328 →
  ∃ e T' S',r=some (e,T',S')∧match vW m rest with
   | some (ts,r')=>e=.exit 0∧T'.length=59∧T'.getD 5 zh=by_ 2 r'∧T'.getD 7 zh=tl (if out++ts=[] then 0 else 2) (out++ts)
   | none=>e=.ret∧T'.getD 2 zh=.slice none 0 0∧T'.getD 3 zh=.int .i64 61:=by
 intro m
 induction m with
 | zero =>
  intro i rest out T S r hL hT h5 h7 h33 h34 hi hm ho hl
  have hTe:=zA.eta hT
  rw [h5,h7,h33,h34] at hTe
  have hr:zD zi O false zA.jm T S=zD zi O false zA.jm T S:=rfl
  have d1:¬ i < n:=by omega
  conv at hr =>
   rhs
   rw [hTe]
   simp only [zA.jm,zA.code,zA.rs,zSs,reduceIte,zk,zn,zo,zq,d1]
  refine ⟨_,_,_,hL.symm.trans (jK hr (by simp)),?_⟩
  rw [vW]
  exact ⟨rfl,rfl,rfl,by rw [List.append_nil];rfl⟩
 | succ m ih =>
  intro i rest out T S r hL hT h5 h7 h33 h34 hi hm ho hl
  have hTe:=zA.eta hT
  rw [h5,h7,h33,h34] at hTe
  have hr:zD zi O false zA.jm T S=zD zi O false zA.jm T S:=rfl
  have d1:i < n:=by omega
  have c1:=fun S=>jf.v (k:=1) (l:=rest) Okl.read (by decide) hl S
  unfold afu at c1
  rw [vW]
  rcases Xb rest with h | ⟨a,b,q,h,hlr⟩
  ·
   rw [h] at c1
   rw [h]
   obtain ⟨S2,p1,p2,p3,p4⟩:=acA S ⟨0,0⟩
   conv at hr =>
    rhs
    rw [hTe]
    simp only [zA.jm,zA.code,zA.rs,zSs,reduceIte,zk,zn,zo,zq,d1,c1,Y0,p1]
   exact ⟨_,_,_,hL.symm.trans (jK hr (by simp)),rfl,rfl,rfl⟩
  ·
   rw [h] at c1
   rw [h]
   obtain ⟨S2,p1,p2,p3,p4⟩:=acA S ⟨a,b⟩
   by_cases hok:yB ⟨a,b⟩=true
   ·
    have wi:IntKind.i64.wrap (i+1)=i+1:=wrap_i64 (by omega) (by omega)
    have ap:∀ S,wu zi 27 27 (tl (if out=[] then 0 else 2) out) (tl 2 [⟨a,b⟩]) S=some (tl 2 (out++[⟨a,b⟩]),S):=fun S=>afD ⟨by split <;> omega,fun h=>by split at h <;> first | assumption | omega⟩ (by split <;> omega) (by omega)
    have c2:∀ S,jI zi 27 1 [(0,.agg [Value.int .i64 a,.int .i64 b].toArray)] S=some (tl 2 [⟨a,b⟩],S):=fun S=>agk ⟨a,b⟩ S
    have c3:zZ zi false 47 (.pointer (some ⟨S.next,0,none⟩)) S2=some (.agg [Value.int .i64 a,.int .i64 b].toArray,S2):=VW p2
    conv at hr =>
     rhs
     rw [hTe]
     simp only [zA.jm,zA.code,zA.rs,zSs,reduceIte,zk,zn,zo,zq,d1,c1,Y0,p1,hok,c3,c2,ap,wi]
    obtain ⟨e,T',S',j1,j2⟩:=ih (i+1) q (out++[⟨a,b⟩]) ((yc hr).symm.trans hL) rfl rfl (by rw [show (if out++[TxV.mk a b]=[] then 0 else 2)=2 from if_neg (by simp)];rfl) rfl rfl (by omega) (by omega) (by simp;omega) (by omega)
    refine ⟨e,T',S',j1,?_⟩
    dsimp only
    rw [if_pos hok]
    cases hq:vW m q with
    | none=>rw [hq] at j2;exact j2
    | some tr =>
     obtain ⟨ts,r'⟩:=tr
     rw [hq] at j2
     dsimp only at j2 ⊢
     rw [List.append_assoc] at j2
     exact j2
   ·
    dsimp only
    rw [if_neg hok]
    rw [Bool.not_eq_true] at hok
    conv at hr =>
     rhs
     rw [hTe]
     simp only [zA.jm,zA.code,zA.rs,zSs,reduceIte,zk,zn,zo,zq,d1,c1,Y0,p1,hok]
    exact ⟨_,_,_,hL.symm.trans (jK hr (by simp)),rfl,rfl,rfl⟩
theorem zA.v {k:Nat} {l:List UInt8} (hk:Okl k l) (k2:k≠2) (hl:l.length≤140737488355328) (S:zx):zU zi O zA.id [by_ k l] S=some (XY 0 l,S):=by
 obtain ⟨T,hTe⟩:∃ T,T=(by_ k l::zh::zh::zh::zh::zh::zh::zh::zh::zh::zh::zh::zh::zh::zh::zh::zh::zh::zh::zh::zh::zh::zh::zh::zh::zh::zh::zh::zh::zh::zh::zh::zh::zh::zh::zh::zh::zh::zh::zh::zh::zh::zh::zh::zh::zh::zh::zh::zh::zh::zh::zh::zh::zh::zh::zh::zh::zh::zh::[]):=⟨_,rfl⟩
 have hr:zD zi O false zA.code T zx.empty=zD zi O false zA.code T zx.empty:=rfl
 have c1:=fun S=>zy.v (many:=1) hk k2 hl S
 have r1:Zg 0 (if k=0 then 0 else 2) 1 l=_:=Zi (m:=1) (by decide) (by decide)
 rw [r1] at c1
 have cl:[by_ k l].all (zX 16)=true:=all1 (kK (k:=k) hk.le)
 unfold XY
 rcases afa l with h | ⟨n,rest,h,hlr⟩
 ·
  rw [h] at c1
  rw [YZ h]
  conv at hr =>
   rhs
   rw [hTe]
   simp only [zA.code,zA.rs,zSs,reduceIte,zk,zn,zo,zq,if_neg k2,c1]
  rw [hTe] at hr
  exact zA.runs hr (.inr rfl) rfl rfl cl rfl
 ·
  rw [h] at c1
  have e0:=ahl 1 (by decide) n (by decide)
  by_cases h0:n < 0
  ·
   have hno:kC l=none:=by
    cases hx:kC l with
    | none=>rfl
    | some t=>have:=(vH h t).mp hx;omega
   rw [hno]
   conv at hr =>
    rhs
    rw [hTe]
    simp only [zA.code,zA.rs,zSs,reduceIte,zk,zn,zo,zq,if_neg k2,c1,e0,xC,h0]
   rw [hTe] at hr
   exact zA.runs hr (.inr rfl) rfl rfl cl rfl
  ·
   by_cases h3:3 < n
   ·
    have hno:kC l=none:=by
     cases hx:kC l with
     | none=>rfl
     | some t=>have:=(vH h t).mp hx;omega
    rw [hno]
    conv at hr =>
     rhs
     rw [hTe]
     simp only [zA.code,zA.rs,zSs,reduceIte,zk,zn,zo,zq,if_neg k2,c1,e0,xC,h0,h3]
    rw [hTe] at hr
    exact zA.runs hr (.inr rfl) rfl rfl cl rfl
   ·
    conv at hr =>
     rhs
     rw [hTe]
     simp only [zA.code,zA.rs,zSs,reduceIte,zk,zn,zo,zq,if_neg k2,c1,e0,xC,h0,h3]
    generalize hL:yN (zD zi O false zA.jm) _ _=r at hr
    obtain ⟨e,T',S',rfl,g⟩:=zA.round (n:=n) (by omega) n.toNat 0 rest [] hL rfl rfl rfl rfl rfl (by omega) (by omega) (by simp) (by omega)
    cases hts:vW n.toNat rest with
    | none =>
     rw [hts] at g
     obtain ⟨rfl,g2,g3⟩:=g
     have hno:kC l=none:=by
      cases hx:kC l with
      | none=>rfl
      | some t=>have:=(vH h t).mp hx;rw [hts] at this;simp at this
     rw [hno]
     conv at hr =>
      rhs
      simp only [zSs,reduceIte,zk,zn,zo,zq]
     rw [hTe] at hr
     have hrun:=zA.runs (S:=S) hr (.inr rfl) (by rw [g2];rfl) (by rw [g3];rfl) cl (by rw [g2,g3];rfl)
     rw [g2,g3] at hrun
     exact hrun
    | some tr =>
     obtain ⟨ts,r'⟩:=tr
     rw [hts] at g
     obtain ⟨rfl,g2,g3,g4⟩:=g
     rw [List.nil_append] at g4
     have hTe':=zA.eta g2
     rw [g3,g4] at hTe'
     by_cases hr0:r'=[]
     ·
      subst hr0
      have hts3:ts.length≤3:=by have:=(Yk _ _ _ _).mp hts;omega
      have c3:=fun S=>zH.v (acz (by decide) ts).dem (Qi (if ts=[] then 0 else 2)) (by omega) S
      by_cases hu:unl ts=true
      ·
       have hyes:kC l=some ts:=(vH h ts).mpr ⟨by omega,by omega,hts,hu⟩
       rw [hyes]
       conv at hr =>
        rhs
        rw [hTe']
        simp only [zA.code,zA.rs,zSs,reduceIte,zk,zn,zo,zq,Ve Okl.read,goInt,List.length_nil,Int.natCast_zero,Int.lt_irrefl,aen,c3,hu]
       rw [hTe] at hr
       exact zA.runs hr (.inr rfl) (by simp only [List.getD_cons_succ,List.getD_cons_zero,jH,jE,jh,jq,jD]) rfl cl (qo (all2 (vw (acz (by decide) ts).le fun _ _=>rfl) rfl))
      ·
       have hno:kC l=none:=by
        cases hx:kC l with
        | none=>rfl
        | some t=>have:=(vH h t).mp hx;rw [hts] at this;simp at this;rw [this.2.2.1] at hu;exact absurd this.2.2.2 hu
       rw [hno]
       rw [Bool.not_eq_true] at hu
       conv at hr =>
        rhs
        rw [hTe']
        simp only [zA.code,zA.rs,zSs,reduceIte,zk,zn,zo,zq,Ve Okl.read,goInt,List.length_nil,Int.natCast_zero,Int.lt_irrefl,aen,c3,hu]
       rw [hTe] at hr
       exact zA.runs hr (.inr rfl) rfl rfl cl rfl
     ·
      have hp:(0:Int) < (r'.length:Int):=by have:=List.length_pos_iff.mpr hr0;omega
      have hno:kC l=none:=by
       cases hx:kC l with
       | none=>rfl
       | some t=>have:=(vH h t).mp hx;rw [hts] at this;simp at this;exact absurd this.2.2.1.2 hr0
      rw [hno]
      conv at hr =>
       rhs
       rw [hTe']
       simp only [zA.code,zA.rs,zSs,reduceIte,zk,zn,zo,zq,Ve Okl.read,goInt,decide_eq_true hp]
      rw [hTe] at hr
      exact zA.runs hr (.inr rfl) rfl rfl cl rfl
end Go.Proofs.Ytgggklfbhmlapaa
namespace Go.Proofs.Ytgggklfbhmlapaa
open Go.Abs
theorem Vf {k:Nat} {l:List Int} {i:Int} {x:Int} {m:Nat} (h:Okl k l) (hi:i=(m:Int)) (hx:l[m]?=some x) (S:zx):zV zi 53 (iz k l) (.int .i64 i) S=some (EP [.int .i64 x],S):=by
 obtain ⟨h1,h2⟩:=List.getElem?_eq_some_iff.mp hx
 subst hi
 rw [abj h (by omega) (by omega)]
 simp [← h2]
end Go.Proofs.Ytgggklfbhmlapaa
namespace Go.Proofs.Ytgggklfbhmlapaa
open Go.Abs
theorem XJ {l:List TxV} (h:kD l=true):(Vm l).length≤100:=by
 obtain ⟨h1,h2⟩:=kT.mp h
 have h3:=ZA h1.2
 have h4:=vF (l:=[(l.length:Int)]) (by simp;omega)
 rw [qp,List.length_append]
 simp at h4
 omega
theorem Xx {j:Nat} (hj:j≤2) (l:List UInt8):∃ k t e,Okl k t∧List.length t≤3∧XY j l=.tuple #[tl k t,.int .i64 e]∧((e=0∧kC l=some t)∨(e=61∧kC l=none∧t=[])):=by
 unfold XY
 cases h:kC l with
 | none=>exact ⟨0,[],61,Okl.none,by simp,rfl,.inr ⟨rfl,rfl,rfl⟩⟩
 | some t=>exact ⟨_,t,0,acz hj t,(kT.mp ((kW l t).mp h).1).2,rfl,.inl ⟨rfl,rfl⟩⟩
theorem agj (x:(Ty.slc 16 tTx).Val) (hg:(Ty.slc 16 tTx).Good x):∃ k l,Okl k l∧k≠2∧(Ty.slc 16 tTx).Z8 x=[tl k l]∧l.length * 16≤140737488351232∧∀ t ∈ l,t.Ok :=
 agm (b:=16) fT TxV.Ok ag3 abv x hg
end Go.Proofs.Ytgggklfbhmlapaa
namespace Go.Proofs.Ytgggklfbhmlapaa
open Go.Abs
structure yS where
 slot:Int
 miner:Int
 variant:Int
 parent:Int
 k:Nat
 txs:List TxV
def fBk (b:yS):List Value:=[.int .i64 b.slot,.int .i64 b.miner,.int .i64 b.variant,.int .i64 b.parent,tl b.k b.txs]
abbrev bv (b:yS):Value:=.agg [Value.int .i64 b.slot,.int .i64 b.miner,.int .i64 b.variant,.int .i64 b.parent,tl b.k b.txs].toArray
structure yS.Ok (b:yS):Prop where
 okl:Okl b.k b.txs
 ne:b.k≠2
 len:b.txs.length * 16≤140737488351232
 par:b.parent < 9223372036854775808
abbrev tBk:Ty:=.pair (.int .i64) (.pair (.int .i64) (.pair (.int .i64) (.pair (.int .i64) (.pair (.slc 16 tTx) .unit))))
def headB (b:yS):Bool:=btw b.slot 1 4095 && btw b.miner 0 6 && btw b.variant 0 255 && (decide (b.parent=0) || (JM b.parent && decide (b.parent / 65536 < b.slot)))
def jo (b:yS):Bool:=headB b && kD b.txs
theorem adU {b:yS}:headB b=true ↔ (1≤b.slot∧b.slot≤4095)∧(0≤b.miner∧b.miner≤6)∧(0≤b.variant∧b.variant≤255)∧(b.parent=0∨(JM b.parent=true∧b.parent / 65536 < b.slot)):=by
 simp [headB,aaI,and_assoc]
theorem yx {b:yS} {d:Nat} (h:b.k≤2):zX (d+6) (bv b)=true:=by
 have h1:zX (d+5) (tl b.k b.txs)=true:=vw (d:=d+1) h fun _ _=>rfl
 refine aaJ ?_
 simp only [List.all_cons,List.all_nil,h1,Bool.and_true]
 rfl
abbrev agL (b:yS):zx:=zx.empty.push (.cells (fBk b) (.own []) 0)
theorem KA (b:yS):WR (bv b) zx.empty=some (.pointer (some ⟨0,0,none⟩),agL b):=rfl
theorem yZ (b:yS):(agL b).get 0=some (.cells (fBk b) (.own []) 0):=rfl
theorem adz {S:zx} {q:Nat} {b:yS} (h:S.get q=some (.cells (fBk b) (.own []) 0)):zZ zi false 3 (.pointer (some ⟨q,0+0,none⟩)) S=some (.int .i64 b.slot,S):=qx (t:=3) (o:=0+0) h JD rfl
theorem adB {S:zx} {q:Nat} {b:yS} (h:S.get q=some (.cells (fBk b) (.own []) 0)):zZ zi false 3 (.pointer (some ⟨q,0+1,none⟩)) S=some (.int .i64 b.miner,S):=qx (t:=3) (o:=0+1) h JD rfl
theorem adJ {S:zx} {q:Nat} {b:yS} (h:S.get q=some (.cells (fBk b) (.own []) 0)):zZ zi false 3 (.pointer (some ⟨q,0+2,none⟩)) S=some (.int .i64 b.variant,S):=qx (t:=3) (o:=0+2) h JD rfl
theorem adL {S:zx} {q:Nat} {b:yS} (h:S.get q=some (.cells (fBk b) (.own []) 0)):zZ zi false 3 (.pointer (some ⟨q,0+3,none⟩)) S=some (.int .i64 b.parent,S):=qx (t:=3) (o:=0+3) h JD rfl
theorem abl {S:zx} {q:Nat} {b:yS} (h:S.get q=some (.cells (fBk b) (.own []) 0)) (hk:b.k≠2):zZ zi false 27 (.pointer (some ⟨q,0+4,none⟩)) S=some (tl b.k b.txs,S):=by
 rw [YC (o:=0+4) (v:=tl b.k b.txs) h Yp rfl (fun l h=>by unfold tl vs sv at h;split at h <;> cases h),acp,if_neg hk]
theorem aax {S:zx} {q:Nat} {b:yS} (h:S.get q=some (.cells (fBk b) (.own []) 0)) (hk:b.k≠2):zZ zi false 29 (.pointer (some ⟨q,0,none⟩)) S=some (bv b,S):=by
 rw [kH h,vK,vK,vK,vK,afh,if_neg hk]
theorem zC.v {b:yS} (hb:b.Ok) (S:zx):zU zi O zC.id [bv b] S=some (.bool (jo b),S):=by
 obtain ⟨T,hTe⟩:∃ T,T=(bv b::zh::zh::zh::zh::zh::zh::zh::zh::zh::zh::zh::zh::zh::zh::zh::zh::zh::zh::zh::zh::zh::zh::zh::zh::zh::zh::zh::zh::zh::zh::zh::zh::zh::zh::zh::zh::zh::zh::zh::zh::zh::zh::zh::zh::zh::[]):=⟨_,rfl⟩
 have hr:zD zi O false zC.code T zx.empty=zD zi O false zC.code T zx.empty:=rfl
 have l0:=adz (yZ b)
 have l1:=adB (yZ b)
 have l2:=adJ (yZ b)
 have l3:=adL (yZ b)
 have l4:=abl (yZ b) hb.ne
 have c1:=fun S=>zN.v hb.okl hb.ne (by have:=hb.len;omega) S
 unfold agQ at c1
 cases h1:btw b.slot 1 4095
 ·
  have e:jo b=false:=by simp [jo,headB,h1]
  rw [e]
  conv at hr =>
   rhs
   rw [hTe]
   simp only [zC.code,zC.rs,zSs,reduceIte,zk,zn,zo,zq,KA,jy,jw,jA,jB,zY,l0,l1,l2,l3,l4,if_neg hb.ne,zK.v,h1]
  rw [hTe] at hr
  exact zC.runs hr (.inr rfl) (all1 (yx hb.okl.le)) rfl
 ·
  cases h2:btw b.miner 0 6
  ·
   have e:jo b=false:=by simp [jo,headB,h1,h2]
   rw [e]
   conv at hr =>
    rhs
    rw [hTe]
    simp only [zC.code,zC.rs,zSs,reduceIte,zk,zn,zo,zq,KA,jy,jw,jA,jB,zY,l0,l1,l2,l3,l4,if_neg hb.ne,zK.v,h1,h2]
   rw [hTe] at hr
   exact zC.runs hr (.inr rfl) (all1 (yx hb.okl.le)) rfl
  ·
   cases h3:btw b.variant 0 255
   ·
    have e:jo b=false:=by simp [jo,headB,h1,h2,h3]
    rw [e]
    conv at hr =>
     rhs
     rw [hTe]
     simp only [zC.code,zC.rs,zSs,reduceIte,zk,zn,zo,zq,KA,jy,jw,jA,jB,zY,l0,l1,l2,l3,l4,if_neg hb.ne,zK.v,h1,h2,h3]
    rw [hTe] at hr
    exact zC.runs hr (.inr rfl) (all1 (yx hb.okl.le)) rfl
   ·
    by_cases h4:b.parent=0
    ·
     by_cases h7:kD b.txs=true
     ·
      rw [if_pos h7] at c1
      have e:jo b=true:=by simp [jo,headB,h1,h2,h3,h4,h7]
      rw [e]
      conv at hr =>
       rhs
       rw [hTe]
       simp only [zC.code,zC.rs,zSs,reduceIte,zk,zn,zo,zq,KA,jy,jw,jA,jB,zY,l0,l1,l2,l3,l4,if_neg hb.ne,zK.v,h1,h2,h3,decide_eq_true h4,c1]
      rw [hTe] at hr
      exact zC.runs hr (.inr rfl) (all1 (yx hb.okl.le)) rfl
     ·
      rw [if_neg h7] at c1
      have e:jo b=false:=by simp [jo,h7]
      rw [e]
      conv at hr =>
       rhs
       rw [hTe]
       simp only [zC.code,zC.rs,zSs,reduceIte,zk,zn,zo,zq,KA,jy,jw,jA,jB,zY,l0,l1,l2,l3,l4,if_neg hb.ne,zK.v,h1,h2,h3,decide_eq_true h4,c1]
      rw [hTe] at hr
      exact zC.runs hr (.inr rfl) (all1 (yx hb.okl.le)) rfl
    ·
     cases h5:JM b.parent
     ·
      have e:jo b=false:=by simp [jo,headB,h1,h2,h3,h4,h5]
      rw [e]
      conv at hr =>
       rhs
       rw [hTe]
       simp only [zC.code,zC.rs,zSs,reduceIte,zk,zn,zo,zq,KA,jy,jw,jA,jB,zY,l0,l1,l2,l3,l4,if_neg hb.ne,zK.v,h1,h2,h3,decide_eq_false h4,jd.v,h5]
      rw [hTe] at hr
      exact zC.runs hr (.inr rfl) (all1 (yx hb.okl.le)) rfl
     ·
      have hn:=QN.mp h5
      have q1:IntKind.i64.wrap (b.parent.tdiv 65536)=b.parent / 65536:=by rw [XM (by omega),wrap_i64 (by omega) (by omega)]
      by_cases h6:b.parent / 65536 < b.slot
      ·
       have h6':¬ b.slot≤b.parent / 65536:=by omega
       by_cases h7:kD b.txs=true
       ·
        rw [if_pos h7] at c1
        have e:jo b=true:=by simp [jo,headB,h1,h2,h3,h4,h5,h6,h7]
        rw [e]
        conv at hr =>
         rhs
         rw [hTe]
         simp only [zC.code,zC.rs,zSs,reduceIte,zk,zn,zo,zq,KA,jy,jw,jA,jB,zY,l0,l1,l2,l3,l4,if_neg hb.ne,zK.v,h1,h2,h3,decide_eq_false h4,jd.v,h5,Jk _ _ _ XK,q1,decide_eq_false h6',c1]
        rw [hTe] at hr
        exact zC.runs hr (.inr rfl) (all1 (yx hb.okl.le)) rfl
       ·
        rw [if_neg h7] at c1
        have e:jo b=false:=by simp [jo,h7]
        rw [e]
        conv at hr =>
         rhs
         rw [hTe]
         simp only [zC.code,zC.rs,zSs,reduceIte,zk,zn,zo,zq,KA,jy,jw,jA,jB,zY,l0,l1,l2,l3,l4,if_neg hb.ne,zK.v,h1,h2,h3,decide_eq_false h4,jd.v,h5,Jk _ _ _ XK,q1,decide_eq_false h6',c1]
        rw [hTe] at hr
        exact zC.runs hr (.inr rfl) (all1 (yx hb.okl.le)) rfl
      ·
       have h6':b.slot≤b.parent / 65536:=by omega
       have e:jo b=false:=by simp [jo,headB,h1,h2,h3,h4,h5,h6]
       rw [e]
       conv at hr =>
        rhs
        rw [hTe]
        simp only [zC.code,zC.rs,zSs,reduceIte,zk,zn,zo,zq,KA,jy,jw,jA,jB,zY,l0,l1,l2,l3,l4,if_neg hb.ne,zK.v,h1,h2,h3,decide_eq_false h4,jd.v,h5,Jk _ _ _ XK,q1,decide_eq_true h6']
       rw [hTe] at hr
       exact zC.runs hr (.inr rfl) (all1 (yx hb.okl.le)) rfl
end Go.Proofs.Ytgggklfbhmlapaa
namespace Go.Proofs.Ytgggklfbhmlapaa
open Go.Abs
def WC (a b:yS):Bool:=decide (a.slot=b.slot) && (decide (a.miner=b.miner) && (decide (a.variant=b.variant) && (decide (a.parent=b.parent) && decide (a.txs=b.txs))))
abbrev afK (a b:yS):zx:=(agL a).push (.cells (fBk b) (.own []) 0)
theorem abW (a b:yS):WR (bv b) (agL a)=some (.pointer (some ⟨1,0,none⟩),afK a b):=by kernel_rfl
theorem JK (a b:yS):(afK a b).get 0=some (.cells (fBk a) (.own []) 0):=by kernel_rfl
theorem J8 (a b:yS):(afK a b).get 1=some (.cells (fBk b) (.own []) 0):=by kernel_rfl
theorem zW.v {a b:yS} (ha:a.Ok) (hb:b.Ok) (S:zx):zU zi O zW.id [bv a,bv b] S=some (.bool (WC a b),S):=by
 obtain ⟨T,hTe⟩:∃ T,T=(bv a::bv b::zh::zh::zh::zh::zh::zh::zh::zh::zh::zh::zh::zh::zh::zh::zh::zh::zh::zh::zh::zh::zh::zh::zh::zh::zh::zh::zh::zh::zh::zh::zh::zh::zh::zh::zh::zh::[]):=⟨_,rfl⟩
 have hr:zD zi O false zW.code T zx.empty=zD zi O false zW.code T zx.empty:=rfl
 have l0:=adz (JK a b)
 have m0:=adz (J8 a b)
 have l1:=adB (JK a b)
 have m1:=adB (J8 a b)
 have l2:=adJ (JK a b)
 have m2:=adJ (J8 a b)
 have l3:=adL (JK a b)
 have m3:=adL (J8 a b)
 have l4:=abl (JK a b) ha.ne
 have m4:=abl (J8 a b) hb.ne
 have c1:=fun S=>slices_Equal.v ha.okl hb.okl ha.ne hb.ne (by have:=ha.len;omega) S
 have cc:[bv a,bv b].all (zX 16)=true:=all2 (yx ha.okl.le) (yx hb.okl.le)
 unfold WC
 by_cases h1:a.slot=b.slot
 ·
  have e1:=decide_eq_true h1
  by_cases h2:a.miner=b.miner
  ·
   have e2:=decide_eq_true h2
   by_cases h3:a.variant=b.variant
   ·
    have e3:=decide_eq_true h3
    by_cases h4:a.parent=b.parent
    ·
     have e4:=decide_eq_true h4
     conv at hr =>
      rhs
      rw [hTe]
      simp only [zW.code,zW.rs,zSs,reduceIte,zk,zn,zo,zq,KA,abW,jy,jw,jA,jB,zY,l0,l1,l2,l3,l4,m0,m1,m2,m3,m4,if_neg ha.ne,if_neg hb.ne,e1,e2,e3,e4,c1]
     rw [hTe] at hr
     rw [e1,Bool.true_and,e2,Bool.true_and,e3,Bool.true_and,e4,Bool.true_and]
     exact zW.runs hr (.inr rfl) cc rfl
    ·
     have e4:=decide_eq_false h4
     conv at hr =>
      rhs
      rw [hTe]
      simp only [zW.code,zW.rs,zSs,reduceIte,zk,zn,zo,zq,KA,abW,jy,jw,jA,jB,zY,l0,l1,l2,l3,l4,m0,m1,m2,m3,m4,if_neg ha.ne,if_neg hb.ne,e1,e2,e3,e4]
     rw [hTe] at hr
     rw [e1,Bool.true_and,e2,Bool.true_and,e3,Bool.true_and,e4,Bool.false_and]
     exact zW.runs hr (.inr rfl) cc rfl
   ·
    have e3:=decide_eq_false h3
    conv at hr =>
     rhs
     rw [hTe]
     simp only [zW.code,zW.rs,zSs,reduceIte,zk,zn,zo,zq,KA,abW,jy,jw,jA,jB,zY,l0,l1,l2,l3,l4,m0,m1,m2,m3,m4,if_neg ha.ne,if_neg hb.ne,e1,e2,e3]
    rw [hTe] at hr
    rw [e1,Bool.true_and,e2,Bool.true_and,e3,Bool.false_and]
    exact zW.runs hr (.inr rfl) cc rfl
  ·
   have e2:=decide_eq_false h2
   conv at hr =>
    rhs
    rw [hTe]
    simp only [zW.code,zW.rs,zSs,reduceIte,zk,zn,zo,zq,KA,abW,jy,jw,jA,jB,zY,l0,l1,l2,l3,l4,m0,m1,m2,m3,m4,if_neg ha.ne,if_neg hb.ne,e1,e2]
   rw [hTe] at hr
   rw [e1,Bool.true_and,e2,Bool.false_and]
   exact zW.runs hr (.inr rfl) cc rfl
 ·
  have e1:=decide_eq_false h1
  conv at hr =>
   rhs
   rw [hTe]
   simp only [zW.code,zW.rs,zSs,reduceIte,zk,zn,zo,zq,KA,abW,jy,jw,jA,jB,zY,l0,l1,l2,l3,l4,m0,m1,m2,m3,m4,if_neg ha.ne,if_neg hb.ne,e1]
  rw [hTe] at hr
  rw [e1,Bool.false_and]
  exact zW.runs hr (.inr rfl) cc rfl
def WE (b:yS):List UInt8:=encs [b.slot,b.miner,b.variant,b.parent]++Vm b.txs
def WG (b:yS):Value:=if jo b then .tuple #[by_ 2 (WE b),.int .i64 0] else .tuple #[.slice none 0 0,.int .i64 71]
theorem Zo {b:yS} (h:headB b=true):∀ n ∈ [b.slot,b.miner,b.variant,b.parent],0≤n∧n≤268435455:=by
 obtain ⟨h1,h2,h3,h4⟩:=adU.mp h
 have h5:0≤b.parent∧b.parent≤268435455:=by
  rcases h4 with h4 | ⟨h4,_⟩
  ·
   omega
  ·
   have:=QN.mp h4;omega
 intro n hn
 simp only [List.mem_cons,List.not_mem_nil,or_false] at hn
 rcases hn with rfl | rfl | rfl | rfl <;> omega
theorem bs4 (a b c d:Int) (S:zx):jI zi 53 4 [(0,.int .i64 a),(1,.int .i64 b),(2,.int .i64 c),(3,.int .i64 d)] S=some (iz 2 [a,b,c,d],S):=by kernel_rfl
theorem X5 {b:yS} (h:headB b=true):(encs [b.slot,b.miner,b.variant,b.parent]).length≤40:=by
 have h1:=Zo h
 have:=vF (l:=[b.slot,b.miner,b.variant,b.parent]) (fun n hn=>by have:=h1 n hn;omega)
 exact this
theorem zT.v {b:yS} (hb:b.Ok) (S:zx):zU zi O zT.id [bv b] S=some (WG b,S):=by
 obtain ⟨T,hTe⟩:∃ T,T=(bv b::zh::zh::zh::zh::zh::zh::zh::zh::zh::zh::zh::zh::zh::zh::zh::zh::zh::zh::zh::zh::zh::zh::zh::zh::zh::zh::zh::zh::zh::zh::zh::zh::[]):=⟨_,rfl⟩
 have hr:zD zi O false zT.code T zx.empty=zD zi O false zT.code T zx.empty:=rfl
 have l0:=adz (yZ b)
 have l1:=adB (yZ b)
 have l2:=adJ (yZ b)
 have l3:=adL (yZ b)
 have l4:=abl (yZ b) hb.ne
 have lb:=aax (yZ b) hb.ne
 have c1:=fun S=>zC.v hb S
 unfold WG
 cases hR:jo b
 ·
  rw [hR] at c1
  conv at hr =>
   rhs
   rw [hTe]
   simp only [zT.code,zT.rs,zSs,reduceIte,zk,zn,zo,zq,KA,lb,c1]
  rw [hTe] at hr
  exact zT.runs hr (.inr rfl) rfl rfl (all1 (yx hb.okl.le)) rfl
 ·
  rw [hR] at c1
  have hh:headB b=true∧kD b.txs=true:=by simpa [jo] using hR
  have few:=Zo hh.1
  have c2:=fun S=>zF.v (l:=[b.slot,b.miner,b.variant,b.parent]) Okl.read (by decide) (fun n hn=>by have:=few n hn;omega) S
  have n2:=Y4 (k:=0) (l:=[b.slot,b.miner,b.variant,b.parent]) (by simp) (fun n hn=>by have:=few n hn;omega) (by simp)
  have c3:=fun S=>zN.v hb.okl hb.ne (by have:=hb.len;omega) S
  have t3:agQ b.txs=.tuple #[by_ 2 (Vm b.txs),.int .i64 0]:=if_pos hh.2
  have ap:∀ S,wu zi 33 33 (by_ 2 (encs [b.slot,b.miner,b.variant,b.parent])) (by_ 1 (Vm b.txs)) S=some (by_ 2 (WE b),S):=fun S=>by
   rw [vk Okl.own (by decide) Okl.read (by have:=X5 hh.1;have:=XJ hh.2;omega)];rfl
  conv at hr =>
   rhs
   rw [hTe]
   simp only [zT.code,zT.rs,zSs,reduceIte,zk,zn,zo,zq,KA,lb,c1,jy,jw,jA,jB,zY,l0,l1,l2,l3,l4,if_neg hb.ne,bs4,c2,n2,c3,t3,ap]
  rw [hTe] at hr
  exact zT.runs hr (.inr rfl) (by simp only [List.getD_cons_succ,List.getD_cons_zero,jH,jE,jh,jq,jD]) rfl (all1 (yx hb.okl.le)) (qo (all2 (kK (k:=2) (Nat.le_refl 2)) rfl))
end Go.Proofs.Ytgggklfbhmlapaa
namespace Go.Proofs.Ytgggklfbhmlapaa
open Go.Abs
theorem agz {α:Type} {f:α→List Value} {e k:Nat} {l:List α} {d:Nat}:okq d (vs f e k l)=true:=by unfold vs sv;cases d <;> split <;> rfl
theorem XZ {R:Type} {a b c d:Int} {k:Nat} {l:List TxV} (r:Option R) (p:ZB r):okK (.agg [Value.int .i64 a,.int .i64 b,.int .i64 c,.int .i64 d,tl k l].toArray) r p=r:=aeh (by
 show ([Value.int .i64 a,.int .i64 b,.int .i64 c,.int .i64 d,tl k l].toArray.toList.all (okq 2))=true
 simp only [List.toList_toArray,List.all_cons,List.all_nil,agz,Bool.and_true]
 rfl) r p
theorem VA (b:yS):∃ k x e,Okl k x∧List.length x≤140∧WG b=.tuple #[by_ k x,.int .i64 e]∧((e=0∧jo b=true∧x=WE b∧k=2)∨(e=71∧jo b=false∧x=[]∧k=0)):=by
 unfold WG
 by_cases h:jo b=true
 ·
  have hh:headB b=true∧kD b.txs=true:=by simpa [jo] using h
  exact ⟨2,WE b,0,Okl.own,by unfold WE;rw [List.length_append];have:=X5 hh.1;have:=XJ hh.2;omega,by rw [if_pos h],.inl ⟨rfl,h,rfl,rfl⟩⟩
 ·
  exact ⟨0,[],71,Okl.none,by simp,by rw [if_neg h];rfl,.inr ⟨rfl,by simpa using h,rfl,rfl⟩⟩
theorem ags (b:yS) (S:zx):∃ S2,WR (bv b) S=some (.pointer (some ⟨S.next,0,none⟩),S2)∧S2.get S.next=some (.cells (fBk b) (.own []) 0)∧Ext S S2∧S.next < S2.next:=aeO (bv b) S
theorem kU.v (S:zx):zU zi O 11 [] S=some (.bool true,S):=ac1 (n:=20) (by kernel_rfl)
theorem ag7 (x:tBk.Val) (hg:tBk.Good x):∃ b:yS,tBk.Z8 x=fBk b∧b.Ok:=by
 obtain ⟨s,m,v,p,ts,u⟩:=x
 obtain ⟨h1,h2,h3,h4,h5,_⟩:=hg
 obtain ⟨k,l,p1,p2,p3,p4,p5⟩:=agj ts h5
 refine ⟨⟨s,m,v,p,k,l⟩,?_,⟨p1,p2,p4,(abm h4).2⟩⟩
 show [Value.int .i64 s]++([Value.int .i64 m]++([Value.int .i64 v]++([Value.int .i64 p]++((Ty.slc 16 tTx).Z8 ts++[]))))=_
 rw [p3];rfl
end Go.Proofs.Ytgggklfbhmlapaa
namespace Go.Proofs.Ytgggklfbhmlapaa
open Go.Abs
abbrev bk0:yS:=⟨0,0,0,0,0,[]⟩
theorem Qu (S:zx):yU zi 29 S=some (.pointer (some ⟨S.next,0,none⟩),S.push (.cells (fBk bk0) (.own []) 0)):=by kernel_rfl
theorem aek (b:yS):(fBk b).all (·.oneCell')=true:=by
 simp only [fBk,List.all_cons,List.all_nil,afF,agF,Bool.and_true]
theorem afn (S:zx) (b:yS):∃ S2,wQ zi 29 (.pointer (some ⟨S.next,0,none⟩)) (bv b) (S.push (.cells (fBk bk0) (.own []) 0))=some (zh,S2)∧S2.get S.next=some (.cells (fBk b) (.own []) 0)∧Ext S S2∧S.next < S2.next :=
 J7 S (by rw [qV,List.toList_toArray];rfl) qQ rfl (aek b)
theorem adN {S S0:zx} {q:Nat} {u:yS} (b:yS) (hg:S.get q=some (.cells (fBk u) (.own []) 0)) (hE:Ext S0 S) (hq:S0.next≤q):∃ S2,wQ zi 29 (.pointer (some ⟨q,0,none⟩)) (bv b) S=some (zh,S2)∧S2.get q=some (.cells (fBk b) (.own []) 0)∧Ext S0 S2∧S2.next=S.next∧∀ k,k≠q→S2.get k=S.get k :=
 ZG hg qQ rfl (aek b) (by simp [fBk]) hE hq
theorem adg {x y:yS} {r s:List UInt8} (hx:jo x=true) (hy:jo y=true) (h:WE x++r=WE y++s):(x.slot=y.slot∧x.miner=y.miner∧x.variant=y.variant∧x.parent=y.parent∧x.txs=y.txs)∧r=s:=by
 have h1:headB x=true∧kD x.txs=true:=by simpa [jo] using hx
 have h2:headB y=true∧kD y.txs=true:=by simpa [jo] using hy
 have f1:=Zo h1.1
 have f2:=Zo h2.1
 unfold WE at h
 rw [List.append_assoc,List.append_assoc] at h
 obtain ⟨e1,e2⟩:=Jp (a:=[x.slot,x.miner,x.variant,x.parent]) (c:=[y.slot,y.miner,y.variant,y.parent]) rfl (fun n hn=>by have:=f1 n hn;unfold Few;omega) (fun n hn=>by have:=f2 n hn;unfold Few;omega) h
 obtain ⟨e3,e4⟩:=XP h1.2 h2.2 e2
 simp only [List.cons.injEq,and_true] at e1
 exact ⟨⟨e1.1,e1.2.1,e1.2.2.1,e1.2.2.2,e3⟩,e4⟩
noncomputable def adi (l:List UInt8):Option yS:=rd (fun b=>jo b=true∧b.k=0) WE l
theorem ag0 {x y:yS} (h:x.slot=y.slot∧x.miner=y.miner∧x.variant=y.variant∧x.parent=y.parent∧x.txs=y.txs) (hk:x.k=y.k):x=y:=by
 cases x;cases y
 simp at h hk
 obtain ⟨rfl,rfl,rfl,rfl,rfl⟩:=h
 rw [hk]
theorem Jo (l:List UInt8) (b:yS):adi l=some b ↔ (jo b=true∧b.k=0)∧l=WE b :=
 aeC (fun x y hx hy h=>ag0 (adg (r:=[]) (s:=[]) hx.1 hy.1 (by rw [List.append_nil,List.append_nil];exact h)).1 (hx.2.trans hy.2.symm)) l b
theorem JX {l:List UInt8} (h:∀ b:yS,b.k=0→jo b=true→l≠WE b):adi l=none:=by
 cases hr:adi l with
 | none=>rfl
 | some b=>obtain ⟨⟨h1,h2⟩,h3⟩:=(Jo l b).mp hr;exact absurd h3 (h b h2 h1)
theorem afB (l:List UInt8):wJ 4 l=none∨∃ a b c d r,wJ 4 l=some ([a,b,c,d],r)∧r.length≤l.length:=by
 cases h:wJ 4 l with
 | none=>exact .inl rfl
 | some ar =>
  obtain ⟨a,r⟩:=ar
  obtain ⟨h1,h2⟩:=ZR h
  match a,h1 with
  | [x,y,z,w],_=>exact .inr ⟨x,y,z,w,r,rfl,h2⟩
theorem KJ {l r:List UInt8} {b:yS} (hb:jo b=true) (h:l=WE b++r):wJ 4 l=some ([b.slot,b.miner,b.variant,b.parent],Vm b.txs++r):=by
 have h1:headB b=true∧kD b.txs=true:=by simpa [jo] using hb
 have f1:=Zo h1.1
 exact (yg _ _ _ _).mpr ⟨rfl,by rw [h,WE,List.append_assoc],fun n hn=>by have:=f1 n hn;unfold Few;omega⟩
theorem Vy {l:List UInt8} (h:wJ 4 l=none):adi l=none:=JX fun b _ hb hl=>by
 have:=KJ (l:=l) (r:=[]) hb (by rw [List.append_nil];exact hl)
 rw [h] at this;cases this
theorem aad {l r:List UInt8} {a b c d:Int} (h:wJ 4 l=some ([a,b,c,d],r)) (h2:kC r=none):adi l=none:=JX fun x _ hb hl=>by
 have:=KJ (l:=l) (r:=[]) hb (by rw [List.append_nil];exact hl)
 rw [h] at this
 simp only [Option.some.injEq,Prod.mk.injEq,List.append_nil] at this
 have h1:headB x=true∧kD x.txs=true:=by simpa [jo] using hb
 rw [(kW r x.txs).mpr ⟨h1.2,this.2⟩] at h2
 cases h2
theorem abS {l r:List UInt8} {a b c d:Int} {ts:List TxV} (h:wJ 4 l=some ([a,b,c,d],r)) (h2:kC r=some ts):adi l=if jo ⟨a,b,c,d,0,ts⟩=true then some ⟨a,b,c,d,0,ts⟩ else none:=by
 obtain ⟨_,g2,_⟩:=(yg _ _ _ _).mp h
 obtain ⟨t1,t2⟩:=(kW r ts).mp h2
 split
 ·
  rename_i hR
  exact (Jo _ _).mpr ⟨⟨hR,rfl⟩,by rw [g2,t2];rfl⟩
 ·
  rename_i hR
  refine JX fun x _ hb hl=>hR ?_
  have:=KJ (l:=l) (r:=[]) hb (by rw [List.append_nil];exact hl)
  rw [h] at this
  simp only [Option.some.injEq,Prod.mk.injEq,List.append_nil,List.cons.injEq,and_true] at this
  have h1:headB x=true∧kD x.txs=true:=by simpa [jo] using hb
  have h3:=(kW r x.txs).mpr ⟨h1.2,this.2⟩
  rw [h2] at h3
  injection h3 with h3
  obtain ⟨⟨i1,i2,i3,i4⟩,_⟩:=this
  rw [i1,i2,i3,i4,h3]
  exact hb
theorem acF (a b c d:Int) (k j:Nat) (t:List TxV):jo ⟨a,b,c,d,k,t⟩=jo ⟨a,b,c,d,j,t⟩:=rfl
def YT (l:List UInt8) (b:yS) (e:Int):Prop:=b.Ok∧b.txs.length≤3∧((e=0∧adi l=some ⟨b.slot,b.miner,b.variant,b.parent,0,b.txs⟩∧jo b=true)∨(e=71∧adi l=none∧b=bk0))
theorem ok0:bk0.Ok:=⟨Okl.none,by decide,by simp,by decide⟩
theorem zI.v {k:Nat} {l:List UInt8} (hk:Okl k l) (k2:k≠2) (hl:l.length≤140737488355328):∃ b e,YT l b e∧∀ S,zU zi O zI.id [by_ k l] S=some (.tuple #[bv b,.int .i64 e],S):=by
 have a1:=Qu zx.empty
 have g1:(zx.empty.push (.cells (fBk bk0) (.own []) 0)).get 0=some (.cells (fBk bk0) (.own []) 0):=by kernel_rfl
 have n1:(zx.empty.push (.cells (fBk bk0) (.own []) 0)).next=1:=by kernel_rfl
 rw [show zx.empty.next=0 from rfl] at a1
 have hE1:Ext zx.empty (zx.empty.push (.cells (fBk bk0) (.own []) 0)):=Ext.push _ _
 have cl:[by_ k l].all (zX 16)=true:=all1 (kK (k:=k) hk.le)
 obtain ⟨T,hTe⟩:∃ T,T=(by_ k l::zh::zh::zh::zh::zh::zh::zh::zh::zh::zh::zh::zh::zh::zh::zh::zh::zh::zh::zh::zh::zh::zh::zh::zh::zh::zh::zh::zh::zh::zh::zh::zh::zh::zh::zh::zh::zh::zh::zh::zh::zh::zh::zh::zh::zh::[]):=⟨_,rfl⟩
 have hr:zD zi O false zI.code T zx.empty=zD zi O false zI.code T zx.empty:=rfl
 have c1:=fun S=>zy.v (many:=4) hk k2 hl S
 have r1:∀ k0 k1,Zg k0 k1 4 l=_:=fun k0 k1=>Zi (m:=4) (by decide) (by decide)
 rw [r1] at c1
 have z0:∀ S,wX zi 29 [] S=some (bv bk0,S):=fun S=>Z5 S
 generalize zx.empty.push (.cells (fBk bk0) (.own []) 0)=S1 at a1 g1 n1 hE1
 rcases afB l with h | ⟨a,b,c,d,r,h,hlr⟩
 ·
  rw [h] at c1
  obtain ⟨S3,q1,q2,q3,q4,q5⟩:=adN bk0 g1 hE1 (Nat.zero_le _)
  refine ⟨bk0,71,⟨ok0,by simp,.inr ⟨rfl,Vy h,rfl⟩⟩,fun S=>?_⟩
  conv at hr =>
   rhs
   rw [hTe]
   simp only [zI.code,zI.rs,zSs,reduceIte,zk,zn,zo,zq,if_neg k2,a1,c1,z0,q1]
  rw [hTe] at hr
  exact zI.runs hr (.inr rfl) (aax q2 (by decide)) rfl rfl cl rfl
 ·
  rw [h] at c1
  have i0:=fun S=>Vf (k:=1) (i:=0) (m:=0) (l:=[a,b,c,d]) Okl.read rfl rfl S
  have i1:=fun S=>Vf (k:=1) (i:=1) (m:=1) (l:=[a,b,c,d]) Okl.read rfl rfl S
  have i2:=fun S=>Vf (k:=1) (i:=2) (m:=2) (l:=[a,b,c,d]) Okl.read rfl rfl S
  have i3:=fun S=>Vf (k:=1) (i:=3) (m:=3) (l:=[a,b,c,d]) Okl.read rfl rfl S
  have few:=((yg _ _ _ _).mp h).2.2
  have fd:d≤4611686018427387904:=(few d (by simp)).2
  obtain ⟨j,t,e,o1,o2,o3,o4⟩:=Xx (j:=0) (by decide) r
  have c2:=fun S=>zA.v (k:=1) (l:=r) Okl.read (by decide) (by omega) S
  rw [o3] at c2
  have hok:yS.Ok ⟨a,b,c,d,if j=2 then 1 else j,t⟩:=⟨o1.dem,Qi j,by show t.length * 16≤_;omega,by show d < _;omega⟩
  obtain ⟨S2,p1,p2,p3,p4⟩:=afn S1 ⟨a,b,c,d,if j=2 then 1 else j,t⟩
  have g2:S2.get 0=some (.cells (fBk bk0) (.own []) 0):=by rw [p3.get 0 (by omega),g1]
  have bd:=fun S=>xR (y0:=.int .i64 a) (y1:=.int .i64 b) (y2:=.int .i64 c) (y3:=.int .i64 d) (y4:=tl (if j=2 then 1 else j) t) xk xk xk xk adG S
  have c3:∀ S,zU zi O 14 [.agg [Value.int .i64 a,.int .i64 b,.int .i64 c,.int .i64 d,tl (if j=2 then 1 else j) t].toArray] S=some (.bool (jo ⟨a,b,c,d,if j=2 then 1 else j,t⟩),S):=fun S=>zC.v hok S
  have lb:zZ zi false 29 (.pointer (some ⟨S1.next,0,none⟩)) S2=some (.agg [Value.int .i64 a,.int .i64 b,.int .i64 c,.int .i64 d,tl (if j=2 then 1 else j) t].toArray,S2):=aax p2 (Qi j)
  rcases o4 with ⟨rfl,hx⟩ | ⟨rfl,hx,rfl⟩
  ·
   cases hR:jo ⟨a,b,c,d,if j=2 then 1 else j,t⟩
   ·
    rw [hR] at c3
    obtain ⟨S3,q1,q2,q3,q4,q5⟩:=adN bk0 g2 (Ext.trans hE1 p3) (Nat.zero_le _)
    refine ⟨bk0,71,⟨ok0,by simp,.inr ⟨rfl,?_,rfl⟩⟩,fun S=>?_⟩
    ·
     rw [abS h hx,if_neg (by rw [acF a b c d 0 (if j=2 then 1 else j) t,hR];decide)]
    conv at hr =>
     rhs
     rw [hTe]
     simp only [zI.code,zI.rs,zSs,reduceIte,zk,zn,zo,zq,if_neg k2,a1,c1,c2,i0,i1,i2,i3,xC,aen,bd,XZ,Qu,p1,lb,c3,z0,q1]
    rw [hTe] at hr
    exact zI.runs hr (.inr rfl) (aax q2 (by decide)) rfl rfl cl rfl
   ·
    rw [hR] at c3
    obtain ⟨S3,q1,q2,q3,q4,q5⟩:=adN ⟨a,b,c,d,if j=2 then 1 else j,t⟩ g2 (Ext.trans hE1 p3) (Nat.zero_le _)
    refine ⟨⟨a,b,c,d,if j=2 then 1 else j,t⟩,0,⟨hok,o2,.inl ⟨rfl,?_,hR⟩⟩,fun S=>?_⟩
    ·
     rw [abS h hx,if_pos (by rw [acF a b c d 0 (if j=2 then 1 else j) t,hR])]
    conv at hr =>
     rhs
     rw [hTe]
     simp only [zI.code,zI.rs,zSs,reduceIte,zk,zn,zo,zq,if_neg k2,a1,c1,c2,i0,i1,i2,i3,xC,aen,bd,XZ,Qu,p1,lb,c3,q1]
    rw [hTe] at hr
    exact zI.runs hr (.inr rfl) (aax q2 (Qi j)) rfl rfl cl (qo (all2 (yx (b:=⟨a,b,c,d,if j=2 then 1 else j,t⟩) hok.okl.le) rfl))
  ·
   obtain ⟨S3,q1,q2,q3,q4,q5⟩:=adN bk0 g2 (Ext.trans hE1 p3) (Nat.zero_le _)
   refine ⟨bk0,71,⟨ok0,by simp,.inr ⟨rfl,aad h hx,rfl⟩⟩,fun S=>?_⟩
   conv at hr =>
    rhs
    rw [hTe]
    simp only [zI.code,zI.rs,zSs,reduceIte,zk,zn,zo,zq,if_neg k2,a1,c1,c2,i0,i1,i2,i3,xC,aen,bd,XZ,Qu,p1,z0,q1]
   rw [hTe] at hr
   exact zI.runs hr (.inr rfl) (aax q2 (by decide)) rfl rfl cl rfl
end Go.Proofs.Ytgggklfbhmlapaa
namespace Go.Proofs.Ytgggklfbhmlapaa
open Go.Abs
theorem agR {k:Nat} {l:List TxV}:ZH (tl k l)=false:=ag6
theorem QI (b:yS):kP (bv b)=false:=by
 show [Value.int .i64 b.slot,.int .i64 b.miner,.int .i64 b.variant,.int .i64 b.parent,tl b.k b.txs].any ZH=false
 simp only [List.any_cons,List.any_nil,agR,Bool.or_false];rfl
theorem adM {k:Nat} {l:List TxV} (h:Okl k l) (hl:l.length≤8796093022208) (S:zx):∃ x S0 r S1 fp,jM zi 27 0 [] S=some (x,S0)∧wV zi true 27 27 x (tl k l) S0=some (.slice (some ⟨r,0,none⟩) l.length l.length,S1)∧xM fT 2 S1 (some ⟨r,0,none⟩) l fp∧(∀ x ∈ fp,S.next≤x)∧Ext S S1:=by
 have g0:(S.push (.cells [] (.own []) 2)).get S.next=some (.cells [] (.own []) 2):=by rw [zx.jc,if_pos rfl]
 have src:Jj zi 27 2 (tl k l) (S.push (.cells [] (.own []) 2))=some (l.length,l.flatMap fT):=XI yF h.okv (by rw [jO (f:=fT) (e:=2) (fun _=>rfl)]) (by rw [List.all_flatMap,List.all_eq_true];exact fun x _=>rfl)
 have e1:=ZP (P:=zi) (hp:=true) (t:=27) (tx:=27) (o:=0) (n:=0) (c:=0) yF kE Vq rfl XR (by decide) src g0 (by simp) (by omega) (by omega) (by rfl)
 rw [if_pos (by rfl),Nat.zero_add] at e1
 refine ⟨_,_,_,_,[S.next+1],(by kernel_rfl),e1,.inr ⟨S.next+1,[],[],rfl,rfl,?_,fun x hx=>?_⟩,fun x hx=>by rw [List.mem_singleton.1 hx];omega,?_⟩
 ·
  rw [zx.jc,zx.xw,zx.qX,if_pos rfl];simp
 ·
  rw [List.mem_singleton.1 hx]
  refine ⟨by simp,fun cs own=>?_⟩
  rw [zx.jc,zx.xw,zx.qX,if_pos rfl]
  intro hh;simp at hh
 ·
  exact ((Ext.push S _).set (Nat.le_refl _) _).trans (Ext.push _ _)
theorem adD {k:Nat} {l:List TxV} (h:Okl k l) (S:zx):wE zi .eql 27 (tl k l) (.slice none 0 0) S=some (.bool (decide (k=0)),S):=XL yF h
theorem zS.m {k:Nat} {l:List TxV} (h:Okl k l) (hk:k≠2) (hl:l.length≤8796093022208) (S:zx):∃ a S1 fp,zU zi O zS.id [tl k l] S=some (.slice a l.length l.length,S1)∧xM fT 2 S1 a l fp∧(∀ x ∈ fp,S.next≤x)∧Ext S S1:=by
 obtain ⟨T,hTe⟩:∃ T,T=(tl k l::zh::zh::zh::zh::zh::zh::zh::[]):=⟨_,rfl⟩
 have hr:zD zi O true zS.code T S=zD zi O true zS.code T S:=rfl
 have c1:=adD h
 by_cases h0:k=0
 ·
  have hl0:=h.nil h0
  subst h0
  subst hl0
  refine ⟨none,S,[],?_,.inl ⟨rfl,rfl,rfl⟩,(fun x hx=>by cases hx),Ext.refl _⟩
  conv at hr =>
   rhs
   rw [hTe]
   simp only [zS.code,zS.rs,zSs,reduceIte,zk,zn,zo,zq,if_neg hk,c1,decide_true]
  rw [hTe] at hr
  exact zS.runs hr (.inr rfl)
 ·
  have d:=decide_eq_false h0
  obtain ⟨x,S0,r,S1,fp,b1,b2,b3,b4,b5⟩:=adM h hl S
  refine ⟨some ⟨r,0,none⟩,S1,fp,?_,b3,b4,b5⟩
  conv at hr =>
   rhs
   rw [hTe]
   simp only [zS.code,zS.rs,zSs,reduceIte,zk,zn,zo,zq,if_neg hk,c1,d,b1,b2]
  rw [hTe] at hr
  exact zS.runs hr (.inr rfl)
abbrev fBm (b:yS) (a:Option Addr):List Value:=[.int .i64 b.slot,.int .i64 b.miner,.int .i64 b.variant,.int .i64 b.parent,.slice a b.txs.length b.txs.length]
abbrev bvm (b:yS) (a:Option Addr):Value:=.agg [Value.int .i64 b.slot,.int .i64 b.miner,.int .i64 b.variant,.int .i64 b.parent,.slice a b.txs.length b.txs.length].toArray
theorem jv.m {b:yS} (hb:b.Ok) (hl:b.txs.length≤8796093022208) (S:zx):∃ a S1 fp,zU zi O jv.id [bv b] S=some (bvm b a,S1)∧xM fT 2 S1 a b.txs fp∧(∀ x ∈ fp,S.next≤x)∧Ext S S1:=by
 obtain ⟨T,hTe⟩:∃ T,T=(bv b::zh::zh::zh::zh::zh::zh::zh::[]):=⟨_,rfl⟩
 have hr:zD zi O true jv.code T S=zD zi O true jv.code T S:=rfl
 obtain ⟨S1,b1,b2,b3,b4⟩:=aeO (bv b) S
 have b2:S1.get S.next=some (.cells (fBk b) (.own []) 0):=b2
 have al:=Qu S1
 have x2:Ext S1 (S1.push (.cells (fBk bk0) (.own []) 0)):=Ext.push _ _
 have g2:(S1.push (.cells (fBk bk0) (.own []) 0)).get S1.next=some (.cells (fBk bk0) (.own []) 0):=by rw [zx.jc,if_pos rfl]
 have n2:S1.next < (S1.push (.cells (fBk bk0) (.own []) 0)).next:=by simp
 generalize S1.push (.cells (fBk bk0) (.own []) 0)=S2 at al x2 g2 n2
 have g1:S2.get S.next=some (.cells (fBk b) (.own []) 0):=(x2.get _ b4).trans b2
 have l4:=abl g1 hb.ne
 obtain ⟨a,S3,fp,c1,c2,c3,c4⟩:=zS.m hb.okl hb.ne hl S2
 have g3:S3.get S.next=some (.cells (fBk b) (.own []) 0):=(c4.get _ (Nat.lt_of_lt_of_le b4 x2.next)).trans g1
 have g4:S3.get S1.next=some (.cells (fBk bk0) (.own []) 0):=(c4.get _ n2).trans g2
 obtain ⟨S4,s1,s2,s3,s4,s5⟩:=ZG (P:=zi) (t:=27) (x:=.slice a b.txs.length b.txs.length) (o:=0+4) (n:=1) g3 V9 rfl rfl (by simp [fBk]) ((b3.trans x2).trans c4) (Nat.le_refl _)
 have s2:S4.get S.next=some (.cells (fBm b a) (.own []) 0):=s2
 have l5:zZ zi false 29 (.pointer (some ⟨S.next,0,none⟩)) S4=some (bvm b a,S4):=by rw [kH s2];rfl
 have g5:S4.get S1.next=some (.cells (fBk bk0) (.own []) 0):=(s5 _ (by omega)).trans g4
 obtain ⟨S5,r1,r2,r3,r4,r5⟩:=ZG (P:=zi) (t:=29) (x:=bvm b a) (o:=0) (n:=5) g5 qQ rfl rfl (by simp [fBk]) s3 (Nat.le_of_lt b4)
 have r2:S5.get S1.next=some (.cells (fBm b a) (.own []) 0):=r2
 have l6:zZ zi false 29 (.pointer (some ⟨S1.next,0,none⟩)) S5=some (bvm b a,S5):=by rw [kH r2];rfl
 have hA:xM fT 2 S5 a b.txs fp:=c2.keep (by rw [r4,s4];exact Nat.le_refl _) fun x hx=>by
  have h1:=c3 x hx
  have h2:=x2.next
  rw [r5 x (by omega),s5 x (by omega)]
 refine ⟨a,S5,fp,?_,hA,fun x hx=>Nat.le_trans (Nat.le_trans (Nat.le_of_lt b4) x2.next) (c3 x hx),r3⟩
 conv at hr =>
  rhs
  rw [hTe]
  simp only [jv.code,jv.rs,zSs,reduceIte,zk,zn,zo,zq,b1,al,zY,l4,if_neg hb.ne,c1,s1,l5,r1]
 rw [hTe] at hr
 exact jv.runs hr (.inr rfl) l6
section
variable {S:zx}
theorem agY {x:TxV} {pre suf:List TxV} {rest:List Value} (j:Nat) (hj:j < 2):((pre++x::suf).flatMap fT++rest)[0+pre.length * 2+j]?=(fT x)[j]?:=by
 have h:=xM.aeb (f:=fT) (e:=2) (fun _=>rfl) (x:=x) (pre:=pre) (suf:=suf) (rest:=rest)
 have h2:=congrArg (·[j]?) h
 simp only [List.getElem?_take,if_pos hj,List.getElem?_drop] at h2
 exact h2
theorem afz {r:Nat} {x:TxV} {pre suf:List TxV} {fp:List Nat} (n:Int) (h:xM fT 2 S (some ⟨r,0,none⟩) (pre++x::suf) fp) :
  zZ zi false 3 (.pointer (some ⟨r,0+pre.length * 2+1,none⟩)) S=some (.int .i64 x.fee,S) ∧
  ∃ S1,wQ zi 3 (.pointer (some ⟨r,0+pre.length * 2+1,none⟩)) (.int .i64 n) S=some (zh,S1)∧xM fT 2 S1 (some ⟨r,0,none⟩) (pre++⟨x.id,n⟩::suf) [r]∧S1.next=S.next∧r ∈ fp∧Fr fp S S1:=by
 rcases h with ⟨h,_⟩ | ⟨r',anc,rest,ha,hfa,hg,hx⟩
 ·
  cases h
 simp only [Option.some.injEq,Addr.mk.injEq,and_true] at ha
 subst ha
 refine ⟨qx hg JD (by rw [agY 1 (by decide)];rfl),?_⟩
 have e0:∀ y:TxV,(pre++y::suf).flatMap fT++rest=(pre.flatMap fT++[.int .i64 y.id])++([.int .i64 y.fee]++(suf.flatMap fT++rest)):=fun y=>by
  rw [List.flatMap_append,List.flatMap_cons]
  simp [fT]
 have hlen:(pre.flatMap fT).length=pre.length * 2:=jO (f:=fT) (e:=2) (fun _=>rfl) pre
 have hle:0+pre.length * 2+1+1≤((pre++x::suf).flatMap fT++rest).length:=by rw [e0];simp [hlen];omega
 have st:=Zm (P:=zi) (t:=3) (o:=0+pre.length * 2+1) (x:=.int .i64 n) hg aeY rfl rfl hle
 refine ⟨_,st,.inr ⟨r,[],rest,rfl,rfl,?_,fun k hk=>?_⟩,by simp,by rw [hfa];simp,((Fr.refl _ _).kills (fun k hk=>.inl (by rw [hfa];simp [hk]))).set (.inl (by rw [hfa];simp)) _⟩
 ·
  rw [zx.jJ,if_pos rfl]
  show some (wY.cells (splice _ _ [.int .i64 n]) _ _)=_
  rw [e0,e0]
  rw [ZK (B:=[Value.int .i64 x.fee]) (C:=[Value.int .i64 n]) (by rw [List.length_append,hlen];simp) (by rfl)]
 ·
  rw [List.mem_singleton.1 hk]
  exact ⟨by simp;exact (hx r (by rw [hfa];simp)).1,Jl (by decide) (ZI (hx r (by rw [hfa];simp)).2)⟩
end
end Go.Proofs.Ytgggklfbhmlapaa
namespace Go.Proofs.Ytgggklfbhmlapaa
open Go.Abs
namespace blockBack
def codes:List (Bool×Ty):=[(true,tBk),(false,.slc 1 (.int .u8))]
theorem coded:Yr zi 9 [29,33]=some codes:=by kernel_rfl
noncomputable def tail:Code:=.seq (.region 18 (reg Try.f9 18) false) (.seq (.seq (.region 19 (reg Try.f9 19) false) (.cond (.tmp 84) (.seq (.region 20 (reg Try.f9 20) false) .ret) .skip)) (.seq (.region 21 (reg Try.f9 21) false) (.seq (.region 22 (reg Try.f9 22) false) .ret)))
theorem ab3:zu.code=.seq (.region 0 (reg Try.f9 0) false) (.seq (.seq (.region 1 (reg Try.f9 1) false) (.cond (.tmp 16) (.seq (.region 2 (reg Try.f9 2) false) .ret) .skip)) (.seq (.region 3 (reg Try.f9 3) false) (.seq (.seq (.region 4 (reg Try.f9 4) false) (.cond (.tmp 26) (.seq (.region 5 (reg Try.f9 5) false) .ret) .skip)) (.seq (.seq (.region 6 (reg Try.f9 6) false) (.cond (.tmp 28) (.seq (.region 7 (reg Try.f9 7) false) (.seq (.seq (.region 8 (reg Try.f9 8) true) (.cond (.tmp 48) (.seq (.region 9 (reg Try.f9 9) false) .ret) .skip)) (.seq (.region 10 (reg Try.f9 10) false) (.seq (.seq (.region 11 (reg Try.f9 11) false) (.block 0 (.loop zu.jm))) (.seq (.region 16 (reg Try.f9 16) false) (.cond (.tmp 75) (.seq (.region 17 (reg Try.f9 17) false) .ret) .skip)))))) .skip)) tail)))):=rfl
theorem WX {b:yS} {a:Option Addr} {fp:List Nat} {S:zx} (h:xM fT 2 S a b.txs fp):∃ k S1,qR (bvm b a) S=some (bv ⟨b.slot,b.miner,b.variant,b.parent,k,b.txs⟩,S1)∧Okl k b.txs∧k≠2∧(kP (bvm b a)=false→S1=S):=by
 obtain ⟨p,q,v,w,kk,l⟩:=b
 rcases h with ⟨h0,hl,_⟩ | ⟨r,anc,rest,ha,hfa,hg,hx⟩
 ·
  subst h0
  have hl:l=[]:=hl
  subst hl
  exact ⟨0,S,rfl,Okl.none,by decide,fun _=>rfl⟩
 ·
  subst ha
  have e:qI (ms r l.length) S=some (tl 1 l,S.set r .dead):=QE (f:=fT) (e:=2) (fun _=>rfl) hg
  have i:∀ n,qI (.int .i64 n) S=some (.int .i64 n,S):=fun _=>rfl
  have e2:ql [Value.int .i64 p,.int .i64 q,.int .i64 v,.int .i64 w,ms r l.length] S=some ([Value.int .i64 p,.int .i64 q,.int .i64 v,.int .i64 w,tl 1 l],S.set r .dead):=by simp only [ql,i,e]
  refine ⟨1,S.set r .dead,?_,Okl.read,by decide,fun h=>?_⟩
  ·
   show (match ql [Value.int .i64 p,.int .i64 q,.int .i64 v,.int .i64 w,ms r l.length] S with | some (l,S1)=>some (Value.agg l.toArray,S1) | none=>none)=_
   rw [e2]
  ·
   cases h
theorem QM {call:FuncId→List Value→M Value} {g:FuncId} {args m:List Value} {S S1:zx} {v:Value} (h:wS args S=some (m,S1)) (hc:call g m S1=some (v,S1)) (hv:ground v=true) (h0:args.any kP=false→S1=S):y5 call g args S=some (v,S):=by
 cases hh:args.any kP
 ·
  have:=h0 hh
  subst this
  unfold y5;rw [h]
  dsimp only
  rw [hc]
  dsimp only
  rw [JV,hh];rfl
 ·
  exact aam h hc hh hv rfl
theorem agZ {b c:yS} {a:Option Addr} {fp:List Nat} {S:zx} (h:xM fT 2 S a b.txs fp) (hb:b.Ok) (hc:c.Ok):y5 (zU zi O) 20 [bvm b a,bv c] S=some (.bool (WC b c),S):=by
 obtain ⟨k,S1,h1,h2,h3,h4⟩:=WX h
 refine QM (Qp h1 (by simp only [List.all_cons,List.all_nil,QI];rfl)) (zW.v (a:=⟨b.slot,b.miner,b.variant,b.parent,k,b.txs⟩) ⟨h2,h3,hb.len,hb.par⟩ hc S1) rfl fun hh=>h4 ?_
 simpa [QI] using hh
theorem same2 {b c:yS} {a:Option Addr} {fp:List Nat} {S:zx} (h:xM fT 2 S a b.txs fp) (hb:b.Ok) (hc:c.Ok):y5 (zU zi O) 20 [bv c,bvm b a] S=some (.bool (WC c b),S):=by
 obtain ⟨k,S1,h1,h2,h3,h4⟩:=WX h
 refine QM (abd (Yc (QI c)) h1 rfl) (zW.v (b:=⟨b.slot,b.miner,b.variant,b.parent,k,b.txs⟩) hc ⟨h2,h3,hb.len,hb.par⟩ S1) rfl fun hh=>h4 ?_
 simpa [QI] using hh
theorem acQ {k:Nat} {l:List UInt8}:kP (by_ k l)=false:=by
 show kP (sv k 1 l.length (l.flatMap cb))=false
 unfold sv;split <;> rfl
theorem Yd (b:yS):WC b b=true:=by simp [WC]
theorem aaL {a y:yS} {e:Int} (ha:jo a=true) (h:YT (WE a) y e):e=0∧WC y a=true:=by
 have hr:adi (WE a)=some ⟨a.slot,a.miner,a.variant,a.parent,0,a.txs⟩:=(Jo _ _).2 ⟨⟨ha,rfl⟩,rfl⟩
 obtain ⟨_,_,⟨rfl,h1,_⟩ | ⟨rfl,h1,rfl⟩⟩:=h
 ·
  rw [hr] at h1
  injection h1 with h1
  simp only [yS.mk.injEq,true_and] at h1
  exact ⟨rfl,by simp [WC,h1]⟩
 ·
  rw [hr] at h1;cases h1
theorem reads_back {l:List UInt8} {y:yS} {e:Int} (h:YT l y e):(e=0∧jo y=true∧WE y=l)∨(e=71∧y=bk0):=by
 obtain ⟨_,_,⟨rfl,h1,h2⟩ | ⟨rfl,h1,rfl⟩⟩:=h
 ·
  exact .inl ⟨rfl,h2,((Jo _ _).1 h1).2.symm⟩
 ·
  exact .inr ⟨rfl,rfl⟩
theorem ac4 {k:Nat} {l:List UInt8} (h:Okl k l) (hl:l.length≤140737488351232) (S:zx):∃ x S0 r S1,jM zi 33 0 [] S=some (x,S0)∧wV zi true 33 33 x (by_ k l) S0=some (ms r l.length,S1)∧S1.get r=some (.cells (l.flatMap cb++[]) (.own []) 1)∧Ext S S1:=by
 have g0:(S.push (.cells [] (.own []) 1)).get S.next=some (.cells [] (.own []) 1):=by rw [zx.jc,if_pos rfl]
 have src:Jj zi 33 1 (by_ k l) (S.push (.cells [] (.own []) 1))=some (l.length,l.flatMap cb):=XI y8 h.okv (by rw [jO (f:=cb) (e:=1) (fun _=>rfl)]) (by rw [List.all_flatMap,List.all_eq_true];exact fun x _=>rfl)
 have e1:=ZP (P:=zi) (hp:=true) (t:=33) (tx:=33) (o:=0) (n:=0) (c:=0) y8 Yx acg rfl acj (by decide) src g0 (by simp) (by omega) (by omega) (by rfl)
 rw [if_pos (by rfl),Nat.zero_add] at e1
 refine ⟨_,_,_,_,(by kernel_rfl),e1,?_,((Ext.push S _).set (Nat.le_refl _) _).trans (Ext.push _ _)⟩
 rw [zx.jc,zx.xw,zx.qX,if_pos rfl];simp
theorem aco {k:Nat} {l:List TxV} {d:Nat} (h:k≤2):wW [1] (d+2) (tl k l)=true:=by
 have hc:(l.flatMap fT).all (wW [1] (d+1))=true:=by rw [List.all_flatMap,List.all_eq_true];exact fun x _=>rfl
 match k,h with
 | 0,_=>rfl
 | 1,_=>exact hc
 | 2,_=>exact hc
theorem abn {b:yS} {e:Int} (hb:b.Ok):wW [1] 16 (.tuple #[bv b,.int .i64 e])=true:=by
 have h:=aco (l:=b.txs) (d:=12) hb.okl.le
 show ([bv b,Value.int .i64 e].all (wW [1] 15))=true
 have h2:wW [1] 15 (bv b)=true:=by
  show ([Value.int .i64 b.slot,.int .i64 b.miner,.int .i64 b.variant,.int .i64 b.parent,tl b.k b.txs].all (wW [1] 14))=true
  simp only [List.all_cons,List.all_nil,h,Bool.and_true];rfl
 simp only [List.all_cons,List.all_nil,h2,Bool.true_and,Bool.and_true];rfl
theorem ad6 {l:List UInt8} (hl:l.length≤140737488351232) {r:Nat}:∃ b e,YT l b e∧∀ S:zx,S.get r=some (.cells (l.flatMap cb++[]) (.own []) 1)→y5 (zU zi O) 22 [ms r l.length] S=some (.tuple #[bv b,.int .i64 e],S):=by
 obtain ⟨b,e,h1,h2⟩:=zI.v (k:=1) (l:=l) Okl.read (by decide) (by omega)
 refine ⟨b,e,h1,fun S hg=>?_⟩
 refine KE (Qp (QE (f:=cb) (e:=1) (fun _=>rfl) hg) rfl) (h2 _) rfl ?_ rfl
 have hs:acN S [ms r l.length]=[1]:=by simp [acN,parts,szs,hg]
 rw [hs]
 exact abn h1.1
theorem acY {k:Nat} {d:List UInt8} (hk:Okl k d) (k2:k≠2) (hl:d.length≤140737488351232) {T:List Value} {S:zx} (hT:T.length=102) (h1:T.getD 1 zh=by_ k d):∃ T3 S',zD zi O true tail T S=some (.ret,T3,S')∧T3.getD 4 zh=.bool true:=by
 have hTe:=zu.eta hT
 rw [h1] at hTe
 have hr:zD zi O true tail T S=zD zi O true tail T S:=rfl
 obtain ⟨x,S0,r,S1,a1,a2,a3,a4⟩:=ac4 hk hl S
 obtain ⟨y,e,r1,r2⟩:=ad6 (l:=d) hl (r:=r)
 have r3:=r2 S1 a3
 obtain ⟨S2,d1,d2,d3,d4⟩:=afn S1 y
 have ld:=aax d2 r1.1.ne
 have nh:∀ m:yS,[bv m].all (fun x=>!kP x)=true:=fun m=>by simp only [List.all_cons,List.all_nil,QI];rfl
 have nh2:∀ m n:yS,[bv m,bv n].all (fun x=>!kP x)=true:=fun m n=>by simp only [List.all_cons,List.all_nil,QI];rfl
 rcases reads_back r1 with ⟨rfl,h2,h3⟩ | ⟨rfl,rfl⟩
 ·
  have c1:∀ S,y5 (zU zi O) 16 [bv y] S=some (.tuple #[by_ 2 (WE y),.int .i64 0],S):=fun S=>by
   rw [Xu (zT.v r1.1 S) (nh y),WG,if_pos h2]
  rw [h3] at c1
  have s1:∀ S,vP zi 33 9 (by_ 1 d) S=some (.string ⟨d.toArray⟩,S):=fun S=>aeE Okl.read
  have s2:∀ S,vP zi 33 9 (by_ k d) S=some (.string ⟨d.toArray⟩,S):=fun S=>aeE hk
  conv at hr =>
   rhs
   rw [hTe]
   simp only [tail,zu.code,zu.rs,zSs,reduceIte,zk,zn,zo,zq,if_neg k2,a1,a2,r3,Qu,d1,ld,c1,s1,s2,agl,decide_true]
  exact ⟨_,_,hr,rfl⟩
 ·
  have c2:∀ S,y5 (zU zi O) 20 [bv bk0,bv bk0] S=some (.bool true,S):=fun S=>by
   rw [Xu (zW.v ok0 ok0 S) (nh2 _ _),Yd]
  have z0:∀ S,wX zi 29 [] S=some (bv bk0,S):=fun S=>Z5 S
  conv at hr =>
   rhs
   rw [hTe]
   simp only [tail,zu.code,zu.rs,zSs,reduceIte,zk,zn,zo,zq,if_neg k2,a1,a2,r3,Qu,d1,ld,z0,c2]
  exact ⟨_,_,hr,rfl⟩
def qP (l:List TxV):List TxV:=l.map fun t=>⟨t.id,IntKind.i64.wrap (t.fee+1)⟩
theorem aa5 {l:List TxV} (h:l≠[]):l≠qP l:=by
 cases l with
 | nil=>exact absurd rfl h
 | cons x l =>
  intro he
  have h1:x.fee=IntKind.i64.wrap (x.fee+1):=by
   have:=congrArg (fun l=>(l.head?.map TxV.fee)) he
   simpa [qP] using this
  revert h1
  generalize x.fee=n
  unfold IntKind.wrap
  intro h1
  simp only [IntKind.bits,IntKind.signed] at h1
  omega
section
variable {m:yS} {a:Option Addr} {qc:Nat}
theorem abg {S:zx} {q:Nat} (h:S.get q=some (.cells (fBm m a) (.own []) 0)):zZ zi false 27 (.pointer (some ⟨q,0+4,none⟩)) S=some (.slice a m.txs.length m.txs.length,S):=ae4 (o:=0+4) h Yp rfl
theorem round (hl:m.txs.length≤8796093022208) {fp:List Nat} {S0:zx} (hq0:qc < S0.next) (hqf:qc ∉ fp):∀ (suf pre:List TxV) {T:List Value} {r:St} {S:zx} {fp1:List Nat},yN (zD zi O true zu.jm) T S=r→T.length=102 →
  T.getD 9 zh=.pointer (some ⟨qc,0,none⟩)→T.getD 53 zh=.int .i64 m.txs.length→T.getD 54 zh=.int .i64 pre.length→m.txs=pre++suf→S.get qc=some (.cells (fBm m a) (.own []) 0)→xM fT 2 S a (qP pre++suf) fp1→(∀ x ∈ fp1,x ∈ fp)→Fr fp S0 S →
  ∃ T' S' fp2,r=some (.exit 0,T',S')∧T'.length=102∧T'.getD 1 zh=T.getD 1 zh∧T'.getD 2 zh=T.getD 2 zh∧T'.getD 9 zh=.pointer (some ⟨qc,0,none⟩)∧S'.get qc=some (.cells (fBm m a) (.own []) 0)∧xM fT 2 S' a (qP m.txs) fp2∧Fr fp S0 S':=by
 intro suf
 induction suf with
 | nil =>
  intro pre T r S fp1 hL hT h10 h48 h49 hpre hg hA hfp hF
  have hTe:=zu.eta hT
  rw [h10,h48,h49] at hTe
  have hr:zD zi O true zu.jm T S=zD zi O true zu.jm T S:=rfl
  have hd:¬ (pre.length:Int) < (m.txs.length:Int):=by rw [hpre];simp
  conv at hr =>
   rhs
   rw [hTe]
   simp only [zu.jm,zu.code,zu.rs,zSs,reduceIte,zk,zn,zo,zq,hd]
  refine ⟨_,_,fp1,hL.symm.trans (jK hr (by simp)),rfl,rfl,rfl,rfl,hg,?_,hF⟩
  rw [hpre]
  simpa [qP] using hA
 | cons x suf ih =>
  intro pre T r S fp1 hL hT h10 h48 h49 hpre hg hA hfp hF
  have hTe:=zu.eta hT
  rw [h10,h48,h49] at hTe
  have hr:zD zi O true zu.jm T S=zD zi O true zu.jm T S:=rfl
  have hlen:m.txs.length=pre.length+1+suf.length:=by rw [hpre];simp;omega
  have hd:(pre.length:Int) < (m.txs.length:Int):=by omega
  have hA0:=hA
  rcases hA0 with ⟨_,h,_⟩ | ⟨r0,anc,rest,ha,hfa,hgr,hx⟩
  ·
   have:=congrArg List.length h;simp at this
  subst ha
  have hpl:(qP pre).length=pre.length:=by simp [qP]
  obtain ⟨l1,S1,s1,s2,s3,s4,s5⟩:=afz (IntKind.i64.wrap (x.fee+1)) hA
  rw [hpl] at l1 s1
  have ix:∀ S,zV zi 27 (.slice (some ⟨r0,0,none⟩) m.txs.length m.txs.length) (.int .i64 pre.length) S=some (.pointer (some ⟨r0,0+pre.length * 2,none⟩),S):=fun S=>by
   rw [aeU (o:=0) (n:=m.txs.length) (c:=m.txs.length) (q:=r0) yF kE (by omega) hd,Int.toNat_natCast]
  have l12:=abg hg
  have wi:IntKind.i64.wrap ((pre.length:Int)+1)=((pre++[x]).length:Int):=by rw [wrap_i64 (by omega) (by omega)];simp
  conv at hr =>
   rhs
   rw [hTe]
   simp only [zu.jm,zu.code,zu.rs,zSs,reduceIte,zk,zn,zo,zq,hd,zY,Zc,l12,ix,l1,s1,wi]
  have hqn:qc ∉ fp1:=fun h=>hqf (hfp qc h)
  have hq1:qc < S.next:=Nat.lt_of_lt_of_le hq0 hF.1
  have g1:S1.get qc=some (.cells (fBm m (some ⟨r0,0,none⟩)) (.own []) 0):=(s5.2 qc hq1 hqn).trans hg
  have hs:=(yc hr).symm.trans hL
  obtain ⟨T',S',fp2,p1,p2,p3,p4,p5,p6,p7,p8⟩:=ih (pre++[x]) hs rfl rfl rfl rfl (by simp [hpre]) g1 (fp1:=[r0]) (by simpa [qP] using s2) (fun y hy=>by rw [List.mem_singleton.1 hy];exact hfp r0 s4) (hF.trans s5 fun y hy=>.inl (hfp y hy))
  exact ⟨T',S',fp2,p1,p2,p3,p4,p5,p6,p7,p8⟩
end
theorem run {a:yS} {k:Nat} {d:List UInt8} (ha:a.Ok) (hk:Okl k d) (k2:k≠2) (hl:d.length≤140737488351232) (S:zx):∃ S',zU zi O 9 [bv a,by_ k d] S=some (.bool true,S'):=by
 obtain ⟨T,hTe⟩:∃ T,T=(bv a::by_ k d::zh::zh::zh::zh::zh::zh::zh::zh::zh::zh::zh::zh::zh::zh::zh::zh::zh::zh::zh::zh::zh::zh::zh::zh::zh::zh::zh::zh::zh::zh::zh::zh::zh::zh::zh::zh::zh::zh::zh::zh::zh::zh::zh::zh::zh::zh::zh::zh::zh::zh::zh::zh::zh::zh::zh::zh::zh::zh::zh::zh::zh::zh::zh::zh::zh::zh::zh::zh::zh::zh::zh::zh::zh::zh::zh::zh::zh::zh::zh::zh::zh::zh::zh::zh::zh::zh::zh::zh::zh::zh::zh::zh::zh::zh::zh::zh::zh::zh::zh::zh::[]):=⟨_,rfl⟩
 have hr:zD zi O true zu.code T S=zD zi O true zu.code T S:=rfl
 have hla:a.txs.length≤8796093022208:=by have:=ha.len;omega
 obtain ⟨S1,b1,b2,b3,b4⟩:=ags a S
 have al:∀ S,y5 (zU zi O) 11 [] S=some (.bool true,S):=fun S=>Xu (kU.v S) rfl
 have nh:∀ m:yS,[bv m].all (fun x=>!kP x)=true:=fun m=>by simp only [List.all_cons,List.all_nil,QI];rfl
 have nh2:∀ m n:yS,[bv m,bv n].all (fun x=>!kP x)=true:=fun m n=>by simp only [List.all_cons,List.all_nil,QI];rfl
 have c1:∀ S,y5 (zU zi O) 16 [bv a] S=some (WG a,S):=fun S=>Xu (zT.v ha S) (nh a)
 have c2:∀ S,y5 (zU zi O) 14 [bv a] S=some (.bool (jo a),S):=fun S=>Xu (zC.v ha S) (nh a)
 have ld0:=aax b2 ha.ne
 have goal:∀ T2 S6,zD zi O true zu.code T S=zD zi O true tail T2 S6→T2.length=102→T2.getD 1 zh=by_ k d→∃ S',zU zi O 9 [bv a,by_ k d] S=some (.bool true,S'):=by
  intro T2 S6 hc q1 q2
  obtain ⟨T3,S',k1,k3⟩:=acY (S:=S6) hk k2 hl q1 q2
  have hrun:=hc.trans k1
  rw [hTe] at hrun
  have:=zu.runs hrun (.inr rfl)
  rw [k3] at this
  exact ⟨S',this⟩
 cases hR:jo a with
 | false =>
  have v1:WG a=.tuple #[.slice none 0 0,.int .i64 71]:=by rw [WG,hR];rfl
  rw [v1] at c1
  rw [hR] at c2
  conv at hr =>
   rhs
   rw [hTe,ab3]
   simp only [zu.code,zu.rs,zSs,reduceIte,zk,zn,zo,zq,if_neg k2,b1,al,ld0,c1,c2,aez,bne_self_eq_false]
  exact goal _ _ hr rfl rfl
 | true =>
  have v1:WG a=.tuple #[by_ 2 (WE a),.int .i64 0]:=by rw [WG,hR];rfl
  rw [v1] at c1
  rw [hR] at c2
  have hbl:(WE a).length≤140737488351232:=by
   obtain ⟨_,x,_,_,h2,h3,h4⟩:=VA a
   rcases h4 with ⟨_,_,h5,_⟩ | ⟨_,h5,_⟩
   ·
    rw [← h5];omega
   ·
    rw [hR] at h5;cases h5
  obtain ⟨y,e,r1,r2⟩:=zI.v (k:=1) (l:=WE a) Okl.read (by decide) (by omega)
  obtain ⟨rfl,sm⟩:=aaL hR r1
  have c3:∀ S,y5 (zU zi O) 22 [by_ 1 (WE a)] S=some (.tuple #[bv y,.int .i64 0],S):=fun S=>Xu (r2 S) (by simp only [List.all_cons,List.all_nil,acQ];rfl)
  obtain ⟨S2,d1,d2,d3,d4⟩:=afn S1 y
  have ga2:S2.get S.next=some (.cells (fBk a) (.own []) 0):=(d3.get _ b4).trans b2
  have ld1:=aax d2 r1.1.ne
  have ld2:=aax ga2 ha.ne
  have c4:∀ S,y5 (zU zi O) 20 [bv y,bv a] S=some (.bool true,S):=fun S=>by
   rw [Xu (zW.v r1.1 ha S) (nh2 _ _),sm]
  obtain ⟨ad,S3,fp,f1,f2,f3,f4⟩:=jv.m ha hla S2
  have na2:S.next < S2.next:=Nat.lt_of_lt_of_le b4 d3.next
  have ga3:S3.get S.next=some (.cells (fBk a) (.own []) 0):=(f4.get _ na2).trans ga2
  have sq:=aaf (o:=0) ga2 na2 f4
  have ld3:=aax ga3 ha.ne
  have c5:=agZ (b:=a) (c:=a) f2 ha ha
  rw [Yd] at c5
  have na3:S.next < S3.next:=Nat.lt_of_lt_of_le na2 f4.next
  obtain ⟨ad2,S4,fp2,h1,h2,h3,h4⟩:=jv.m ha hla S3
  have ga4:S4.get S.next=some (.cells (fBk a) (.own []) 0):=(h4.get _ na3).trans ga3
  have na4:S.next < S4.next:=Nat.lt_of_lt_of_le na3 h4.next
  obtain ⟨S5,i1,i2,i3,i4⟩:=J7 (P:=zi) (t:=29) (z:=fBk bk0) (xs:=fBm a ad2) (x:=bvm a ad2) S4 rfl qQ rfl rfl
  have ga5:S5.get S.next=some (.cells (fBk a) (.own []) 0):=(i3.get _ na4).trans ga4
  have l12:=abg i2
  have ln:=fun S=>afk yF ad2 a.txs.length a.txs.length S
  have hA5:xM fT 2 S5 ad2 a.txs fp2:=h2.ext i3
  have hq5:S4.next ∉ fp2:=fun h=>by have:=h2.lt _ h;omega
  conv at hr =>
   rhs
   rw [hTe,ab3]
   simp only [zu.code,zu.rs,zSs,reduceIte,zk,zn,zo,zq,if_neg k2,b1,al,ld0,c1,c2,aez,bne_self_eq_false,c3,Qu,d1,ld1,ld2,c4,XZ,f1,sq,ld3,c5,h1,i1,zY,l12,ln,goInt]
  generalize hL:yN (zD zi O true zu.jm) _ _=r at hr
  obtain ⟨T2,S6,fp3,q1,q2,q3,q4,q5,q6,q7,q8⟩:=round (m:=a) (a:=ad2) (qc:=S4.next) hla (fp:=fp2) (S0:=S5) i4 hq5 a.txs [] hL rfl rfl rfl rfl rfl i2 hA5 (fun x hx=>hx) (Fr.refl _ _)
  subst q1
  have hTe2:=zu.eta q2
  rw [q3,q4,q5] at hTe2
  have ga6:S6.get S.next=some (.cells (fBk a) (.own []) 0):=(q8.2 _ (Nat.lt_of_lt_of_le na4 i3.next) (hA5.ag1 ga5)).trans ga5
  have l13:=abg q6
  have l14:=aax ga6 ha.ne
  have l15:zZ zi false 29 (.pointer (some ⟨S4.next,0,none⟩)) S6=some (bvm a ad2,S6):=by rw [kH q6];rfl
  by_cases hn:a.txs=[]
  ·
   have hz:¬ ((a.txs.length:Int) > 0):=by rw [hn];simp
   conv at hr =>
    rhs
    simp only [zSs,reduceIte,zk,zn,zo,zq]
    rw [hTe2]
    simp only [zu.code,zu.rs,zSs,reduceIte,zk,zn,zo,zq,zY,l13,ln,goInt,hz]
   exact goal _ _ hr rfl rfl
  ·
   have hz:((a.txs.length:Int) > 0):=by
    have:=List.length_pos_iff.2 hn;omega
   have e1:bvm a ad2=bvm ⟨a.slot,a.miner,a.variant,a.parent,0,qP a.txs⟩ ad2:=by
    simp [qP]
   have c6:=same2 (b:=⟨a.slot,a.miner,a.variant,a.parent,1,qP a.txs⟩) (c:=a) q7 ⟨Okl.read,by simp,by have:=ha.len;simpa [qP] using this,ha.par⟩ ha
   have e2:WC a ⟨a.slot,a.miner,a.variant,a.parent,1,qP a.txs⟩=false:=by
    simp [WC,aa5 hn]
   rw [e2] at c6
   have e3:bvm ⟨a.slot,a.miner,a.variant,a.parent,1,qP a.txs⟩ ad2=bvm a ad2:=by simp [qP]
   rw [e3] at c6
   conv at hr =>
    rhs
    simp only [zSs,reduceIte,zk,zn,zo,zq]
    rw [hTe2]
    simp only [zu.code,zu.rs,zSs,reduceIte,zk,zn,zo,zq,zY,l13,ln,goInt,hz,l14,l15,c6]
   exact goal _ _ hr rfl rfl
theorem law (x:Args codes) (h:Args.Good codes x):∃ k,(kZ zi k 9 (Args.place codes x zx.empty).1 (Args.place codes x zx.empty).2).map (·.1)=some (.bool true):=by
 obtain ⟨a,b,u⟩:=x
 obtain ⟨h1,h2,_⟩:=h
 obtain ⟨m,t1,ht⟩:=ag7 a h1
 obtain ⟨k,l,p1,p2,p3,p4⟩:=ac7 b h2
 obtain ⟨S',e⟩:=run ht p1 p2 p4 zx.empty
 refine KX agp (S':=S') ?_
 have e2:Args.Z8 codes (a,b,u)=[bv m,by_ k l]:=by
  show [xW true (tBk.Z8 a),xW false ((Ty.slc 1 (.int .u8)).Z8 b)]=_
  rw [t1,p3];rfl
 rw [e2]
 exact e
end blockBack
end Go.Proofs.Ytgggklfbhmlapaa
namespace Go.Proofs.Ytgggklfbhmlapaa.blockBack
open Go.ChangeShapes Go.WideShapes Go.ChangeAt Go.RowKit Go.Abs
theorem own:ownKnob zi.godebug=none:=by kernel_rfl
theorem laidOut:laidOutB zi=true:=by kernel_rfl
theorem mixes:zi.follows .mixedOrders=true:=by kernel_rfl
set_option maxRecDepth 100000 in
theorem lifted (os:Os) (started:os.Started) (H:Type) (enc:TypeId×Value→H) :
  ReturnsInHanded {} Try.checked os 9 .any (Rows.blockBackSpec.pre6 enc zi Try.f9 Rows.blockBackRow.domain false) (Rows.blockBackSpec.post enc zi Try.f9 false true false false):=by
 refine returnsInHanded_of_change_sized (C:=Try.checked) own started (by kernel_rfl) Try.func9
  (ChangeSpec.witness6 (enc:=enc) (C:=Try.checked) false ⟨#[],#[.agg #[.int .i64 0,.int .i64 0,.int .i64 0,.int .i64 0,.slice none 0 0],.slice none 0 0],[]⟩ 8 (by kernel_rfl) (by kernel_rfl) (by kernel_rfl) (by kernel_rfl)) ?_
 intro W base args ds gs before hval0 hW hcnd hsz0 _
 have hW':=hW
 obtain ⟨p,q,hA0,hV,rfl,hfz,hnd⟩:=hW
 obtain ⟨rfl,rfl⟩:=trodVars_none hV
 have hsz1:(DataW.weightsEach zi (Try.f9.params.toList++Rows.blockBackSpec.plain.varTypes zi) (ds++[])).all (·≤reachBytes)=true:=hsz0
 have hval:∀ (j:Nat) t v,Try.f9.params[j]?=some t→args[j]?=some v→Value.okWide zi W .any base t v:=hval0
 have hA1:DataW.TrodAll enc zi W 0 (fun _=>true) true Try.f9.params.toList args.toList ds p:=hA0
 rw [Try.params9] at hA1 hsz1 hval
 have hA:DataW.TrodAll enc zi W 0 (fun _=>true) true [29,33] args.toList ds p:=hA1
 have hsz:(DataW.weightsEach zi [29,33] ds).all (·≤reachBytes)=true:=by rw [List.append_nil ds] at hsz1;exact hsz1
 clear hA0 hA1 hval0 hsz0 hsz1
 have r:=hA
 obtain ⟨v0,vs0,d0,ds0,p0,q0,hargs0,rfl,hp0,h0,r0⟩:=trodAll_cons r
 obtain ⟨v1,vs1,d1,ds1,p1,q1,hargs1,rfl,hp1,h1,r1⟩:=trodAll_cons r0
 obtain ⟨_,rfl,_⟩:=trodAll_nil r1
 refine (acB mixes coded law hA (fun j t v h1 h2=>hval j t v (by rw [List.getElem?_toArray];exact h1) h2) hsz).mono fun e W' ⟨he,bel⟩=>?_
 subst he
 exact ⟨_,rfl,_,_,_,[],_,[],hW',trodAll_mk1 (shut_bool (by kernel_rfl) _),acS laidOut bel _ _ _ _ (by kernel_rfl) hA,rfl,bel.frame _,fun h=>by cases h⟩
theorem over:Rows.blockBackRow.holds Try.pinned (OpenSpec.ofChange Rows.blockBackSpec) :=
 OpenClaim.holds_of_wide 9 Try.f9 rfl rfl rfl rfl rfl rfl rfl ⟨rfl,rfl,rfl,rfl,rfl⟩ rfl rfl rfl rfl rfl (by kernel_rfl) Try.func9 (by kernel_rfl)
  (of_decide_eq_true (by kernel_rfl)) (by unfold Func.isWrapper;first | (rw [if_pos (by decide +kernel)];kernel_rfl) | (rw [if_neg (by decide +kernel)];exact ⟨rfl,rfl⟩))
  (fun os started H enc _=>lifted os started H enc)
theorem proved:Rows.BlockBackSaid:=over
end Go.Proofs.Ytgggklfbhmlapaa.blockBack
namespace Go.Proofs.Ytgggklfbhmlapaa
theorem blockBack_holds:Rows.BlockBackSaid:=blockBack.proved
#print axioms blockBack_holds
end Go.Proofs.Ytgggklfbhmlapaa
