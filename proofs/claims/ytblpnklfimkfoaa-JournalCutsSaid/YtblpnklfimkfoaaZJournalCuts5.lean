/-
The law JournalCuts returns true for every input, and leaves it as it was; no condition. Part 5 of 5 of the texts (put together by a program: own names are short, what isn't needed is left out).
-/
import Derived.Test.YtblpnklfimkfoaaZJournalCuts4
import Derived.Test.YtblpnklfimkfoaaChecked
import Derived.KernelRfl
import Derived.Test.YtblpnklfimkfoaaRows
import Derived.WalkKit
import Derived.ProofKit
import Derived.OpenShut
import Derived.ShutString
import Derived.ChangeOld
import Derived.Below
import Derived.SizedLaws
import Derived.Carry
set_option linter.unusedVariables false
set_option linter.unusedSimpArgs false
set_option maxRecDepth 100000
open Go renaming undef → zh
open Go.Proofs.Try renaming prog → zi
open Nat renaming reduceEqDiff → zk
open Int renaming reduceEq → zn
open Int renaming reduceLT → zo
open Int renaming reduceLE → zq
namespace Go.Proofs.Ytblpnklfimkfoaa
open Go.Abs
abbrev zF.id:FuncId:=29
noncomputable def zF.code:Code:=(.seq (.region 0 (reg Try.f29 0) false) (.seq (.region 1 (reg Try.f29 1) false) (.seq (.seq (.region 2 (reg Try.f29 2) false) (.cond (.tmp 16) (.seq (.region 3 (reg Try.f29 3) false) Code.ret) Code.skip)) (.seq (.region 4 (reg Try.f29 4) false) (.seq (.region 5 (reg Try.f29 5) false) (.seq (.seq (.region 6 (reg Try.f29 6) false) (.cond (.tmp 26) (.region 7 (reg Try.f29 7) true) Code.skip)) (.seq (.region 8 (reg Try.f29 8) true) Code.ret)))))))
theorem zF.body:Try.f29.body=some zF.code:=by kernel_rfl
variable (x0 x1 x2 x3 a x5 x6 x7 x8 x9 b c d f g i k l m n o p q r s t u w x y z A B C D E F G H I J K L M N P Q R U V W X Y:Value) (S:zx)
theorem zF.r0 :jy zi ⟨false,false,false⟩ (je zi O) (reg Try.f29 0) (reg Try.f29 0).toList ([x0,x1,x2,x3,a,x5,x6,x7,x8,x9,b,c,d,f,g,i,k,l,m,n,o,p,q,r,s,t,u,w,x,y,z,A,B,C,D,E,F,G,H,I,J,K,L,M,N,P,Q,R,U,V,W,X,Y]) S =
  (zS (qW zi 28 S) (fun v0 Z=>some ([x0,x1,v0,Value.bool false,a,x5,x6,x7,x8,x9,b,c,d,f,g,i,k,l,m,n,o,p,q,r,s,t,u,w,x,y,z,A,B,C,D,E,F,G,H,I,J,K,L,M,N,P,Q,R,U,V,W,X,Y],Z)) ()):=by
 kernel_rfl
theorem zF.r1 :jy zi ⟨false,false,false⟩ (je zi O) (reg Try.f29 1) (reg Try.f29 1).toList ([x0,x1,x2,x3,a,x5,x6,x7,x8,x9,b,c,d,f,g,i,k,l,m,n,o,p,q,r,s,t,u,w,x,y,z,A,B,C,D,E,F,G,H,I,J,K,L,M,N,P,Q,R,U,V,W,X,Y]) S =
  (zS ((je zi O) 44 [(dem (dem x0)),(.int .i64 4)] S) (fun v1 Z=>zS (zL v1 0 Z) (fun v3 S2=>zS (zL (zY 0 v1) 1 S2) (fun v4 S3=>zS (zL (zY 1 (zY 0 v1)) 2 S3) (fun v5 S4=>some ([x0,x1,x2,x3,v3,v4,v5,x7,x8,zY 2 (zY 1 (zY 0 v1)),dem x0,dem v1,dem v3,dem v4,dem v5,i,k,l,m,n,o,p,q,r,s,t,u,w,x,y,z,A,B,C,D,E,F,G,H,I,J,K,L,M,N,P,Q,R,U,V,W,X,Y],S4)) ()) ()) ()) ()):=by
 kernel_rfl
theorem zF.r2 :jy zi ⟨false,false,false⟩ (je zi O) (reg Try.f29 2) (reg Try.f29 2).toList ([x0,x1,x2,x3,a,x5,x6,x7,x8,x9,b,c,d,f,g,i,k,l,m,n,o,p,q,r,s,t,u,w,x,y,z,A,B,C,D,E,F,G,H,I,J,K,L,M,N,P,Q,R,U,V,W,X,Y]) S =
  (zS (wz zi BinOp.neq 29 (dem x6) (.int .i64 0) S) (fun v1 Z=>some ([x0,x1,x2,x3,a,x5,x6,x7,x8,x9,b,c,d,f,g,dem x6,v1,l,m,n,o,p,q,r,s,t,u,w,x,y,z,A,B,C,D,E,F,G,H,I,J,K,L,M,N,P,Q,R,U,V,W,X,Y],Z)) ()):=by
 kernel_rfl
theorem zF.r3 :jy zi ⟨false,false,false⟩ (je zi O) (reg Try.f29 3) (reg Try.f29 3).toList ([x0,x1,x2,x3,a,x5,x6,x7,x8,x9,b,c,d,f,g,i,k,l,m,n,o,p,q,r,s,t,u,w,x,y,z,A,B,C,D,E,F,G,H,I,J,K,L,M,N,P,Q,R,U,V,W,X,Y]) S =
  (zS (yR zi 28 [] S) (fun v0 Z=>zS (qG zi 28 x2 (dem v0) Z) (fun v1 S2=>some ([x0,x1,x2,Value.bool false,a,x5,x6,x7,x8,x9,b,c,d,f,g,i,k,v0,m,n,o,p,q,r,s,t,u,w,x,y,z,A,B,C,D,E,F,G,H,I,J,K,L,M,N,P,Q,R,U,V,W,X,Y],S2)) ()) ()):=by
 kernel_rfl
theorem zF.r4 :jy zi ⟨false,false,false⟩ (je zi O) (reg Try.f29 4) (reg Try.f29 4).toList ([x0,x1,x2,x3,a,x5,x6,x7,x8,x9,b,c,d,f,g,i,k,l,m,n,o,p,q,r,s,t,u,w,x,y,z,A,B,C,D,E,F,G,H,I,J,K,L,M,N,P,Q,R,U,V,W,X,Y]) S =
  (zS ((je zi O) 28 [(dem (dem x5))] S) (fun v1 Z=>zS (zL v1 0 Z) (fun v3 S2=>zS (zL (zY 0 v1) 1 S2) (fun v4 S3=>zS (zL (zY 1 (zY 0 v1)) 2 S3) (fun v5 S4=>some ([x0,x1,x2,x3,a,v4,v5,v3,x8,x9,b,c,d,f,g,i,k,l,zY 2 (zY 1 (zY 0 v1)),dem x5,dem v1,dem v3,dem v4,dem v5,s,t,u,w,x,y,z,A,B,C,D,E,F,G,H,I,J,K,L,M,N,P,Q,R,U,V,W,X,Y],S4)) ()) ()) ()) ()):=by
 kernel_rfl
theorem zF.r5 :jy zi ⟨false,false,false⟩ (je zi O) (reg Try.f29 5) (reg Try.f29 5).toList ([x0,x1,x2,x3,a,x5,x6,x7,x8,x9,b,c,d,f,g,i,k,l,m,n,o,p,q,r,s,t,u,w,x,y,z,A,B,C,D,E,F,G,H,I,J,K,L,M,N,P,Q,R,U,V,W,X,Y]) S =
  (zS (yR zi 28 [] S) (fun v0 Z=>zS (qW zi 28 Z) (fun v1 S2=>zS (qG zi 28 v1 (dem v0) S2) (fun v2 S3=>some ([x0,x1,x2,x3,a,x5,x6,x7,v1,x9,b,c,d,f,g,i,k,l,m,n,o,p,q,r,v0,t,u,w,x,y,z,A,B,C,D,E,F,G,H,I,J,K,L,M,N,P,Q,R,U,V,W,X,Y],S3)) ()) ()) ()):=by
 kernel_rfl
theorem zF.r6 :jy zi ⟨false,false,false⟩ (je zi O) (reg Try.f29 6) (reg Try.f29 6).toList ([x0,x1,x2,x3,a,x5,x6,x7,x8,x9,b,c,d,f,g,i,k,l,m,n,o,p,q,r,s,t,u,w,x,y,z,A,B,C,D,E,F,G,H,I,J,K,L,M,N,P,Q,R,U,V,W,X,Y]) S =
  (zS (wz zi BinOp.eql 29 (dem x6) (.int .i64 0) S) (fun v1 Z=>some ([x0,x1,x2,x3,a,x5,x6,x7,x8,x9,b,c,d,f,g,i,k,l,m,n,o,p,q,r,s,dem x6,v1,w,x,y,z,A,B,C,D,E,F,G,H,I,J,K,L,M,N,P,Q,R,U,V,W,X,Y],Z)) ()):=by
 kernel_rfl
theorem zF.d7:yS zi (reg Try.f29 7)=true:=by kernel_rfl
theorem zF.ff7:fixed zi (reg Try.f29 7)=false:=by kernel_rfl
theorem zF.k7:checked zi (reg Try.f29 7)=[]:=by kernel_rfl
theorem zF.g7:again zi (reg Try.f29 7)=[]:=by kernel_rfl
theorem zF.r7 :zG zi O false (.region 7 (reg Try.f29 7) true) ([x0,x1,x2,x3,a,x5,x6,x7,x8,x9,b,c,d,f,g,i,k,l,m,n,o,p,q,r,s,t,u,w,x,y,z,A,B,C,D,E,F,G,H,I,J,K,L,M,N,P,Q,R,U,V,W,X,Y]) S =
  Jt (zS (jv zi 56 (dem a) (.int .i64 0) S) (fun v1 Z=>zS (jA zi false 3 v1 Z) (fun v2 S2=>zS (jv zi 56 (dem a) (.int .i64 1) S2) (fun v4 S3=>zS (jA zi false 3 v4 S3) (fun v5 S4=>zS (jv zi 56 (dem a) (.int .i64 2) S4) (fun v7 S5=>zS (jA zi false 3 v7 S5) (fun v8 S6=>zS (jv zi 56 (dem a) (.int .i64 3) S6) (fun a1 S7=>zS (jA zi false 3 a1 S7) (fun a0 S8=>zS (yR zi 28 [(0,(dem v2)),(1,(dem v5)),(2,(dem v8)),(3,(dem a0)),(4,(dem (dem x7)))] S8) (fun a3 S9=>zS (qG zi 28 x8 (dem a3) S9) (fun a4 a2=>some ([x0,x1,x2,x3,a,x5,x6,x7,x8,x9,b,c,d,f,g,i,k,l,m,n,o,p,q,r,s,t,u,dem a,v1,v2,dem a,v4,v5,dem a,v7,v8,dem a,a1,a0,dem x7,a3,K,L,M,N,P,Q,R,U,V,W,X,Y],a2)) ()) ()) ()) ()) ()) ()) ()) ()) ()) ()):=by
 rw [yu zF.d7 zF.ff7 zF.k7 zF.g7]
 refine congrArg Jt ?_
 refine tP Try.f29 7 0 (v:=a) ?_
 refine tD Try.f29 7 1 (fun v1 Z=>?_)
 refine tD Try.f29 7 2 (fun v2 S2=>?_)
 refine tP Try.f29 7 3 (v:=a) ?_
 refine tD Try.f29 7 4 (fun v4 S3=>?_)
 refine tD Try.f29 7 5 (fun v5 S4=>?_)
 refine tP Try.f29 7 6 (v:=a) ?_
 refine tD Try.f29 7 7 (fun v7 S5=>?_)
 refine tD Try.f29 7 8 (fun v8 S6=>?_)
 refine tP Try.f29 7 9 (v:=a) ?_
 refine tD Try.f29 7 10 (fun a1 S7=>?_)
 refine tD Try.f29 7 11 (fun a0 S8=>?_)
 refine tP Try.f29 7 12 (v:=x7) ?_
 refine tD Try.f29 7 13 (fun a3 S9=>?_)
 refine tD Try.f29 7 14 (fun a4 a2=>?_)
 kernel_rfl
theorem zF.d8:yS zi (reg Try.f29 8)=true:=by kernel_rfl
theorem zF.ff8:fixed zi (reg Try.f29 8)=false:=by kernel_rfl
theorem zF.k8:checked zi (reg Try.f29 8)=[0,11]:=by kernel_rfl
theorem zF.g8:again zi (reg Try.f29 8)=[(0,10)]:=by kernel_rfl
theorem zF.r8 :zG zi O false (.region 8 (reg Try.f29 8) true) ([x0,x1,x2,x3,a,x5,x6,x7,x8,x9,b,c,d,f,g,i,k,l,m,n,o,p,q,r,s,t,u,w,x,y,z,A,B,C,D,E,F,G,H,I,J,K,L,M,N,P,Q,R,U,V,W,X,Y]) S =
  Jt (zS (jA zi false 28 x8 S) (fun v0 Z=>okK v0 ( zS (wz zi BinOp.eql 29 (dem x6) (.int .i64 0) Z) (fun v2 S2=>gdK (dem v2) true (ret x5) S2 (fun v4 S3=>gdK (dem v2) true (qO zi 26 (dem v4)) S3 (fun v5 S4=>gdK (dem v2) true (wz zi BinOp.eql 3 v5 (.int .i64 0)) S4 (fun v6 S5=>zS (qY (dem v2) v6 (Value.bool false) S5) (fun v7 S6=>gdK (dem v7) true (jA zi false 28 x8) S6 (fun v9 S7=>gdK (dem v7) true ((je zi O) 31 [(dem v9)]) S7 (fun a1 S8=>zS (qY (dem v7) a1 (Value.bool false) S8) (fun a0 S9=>okK a0 ( zS (qG zi 28 x2 (dem v0) S9) (fun a5 a2=>ckK (yQ x8 S S8 && (true)) (some ([x0,x1,x2,a0,a,x5,x6,x7,x8,x9,b,c,d,f,g,i,k,l,m,n,o,p,q,r,s,t,u,w,x,y,z,A,B,C,D,E,F,G,H,I,J,v0,dem x6,v2,dem v2,dem v4,v5,v6,v7,dem v7,v9,a1,dem a0],a2)) ()) ()) ()) ()) ()) ()) ()) ()) ()) ()) ()) ()) ()):=by
 rw [yu zF.d8 zF.ff8 zF.k8 zF.g8]
 refine congrArg Jt ?_
 refine uDC Try.f29 8 0 (pe:=x8) (fun v0 Z=>?_)
 refine uP Try.f29 8 1 (v:=x6) (pe:=zh) ?_
 refine uD Try.f29 8 2 (pe:=zh) (fun v2 S2=>?_)
 refine uP Try.f29 8 3 (v:=v2) (pe:=zh) ?_
 refine uG Try.f29 8 4 (j:=3) (pe:=zh) (fun v4 S3=>?_)
 refine uG Try.f29 8 5 (j:=3) (pe:=zh) (fun v5 S4=>?_)
 refine uG Try.f29 8 6 (j:=3) (pe:=zh) (fun v6 S5=>?_)
 refine uD Try.f29 8 7 (pe:=zh) (fun v7 S6=>?_)
 refine uP Try.f29 8 8 (v:=v7) (pe:=zh) ?_
 refine uG Try.f29 8 9 (j:=8) (pe:=x8) (fun v9 S7=>?_)
 refine uG Try.f29 8 10 (j:=8) (pe:=zh) (fun a1 S8=>?_)
 refine uDC Try.f29 8 11 (pe:=zh) (fun a0 S9=>?_)
 refine uD Try.f29 8 12 (pe:=zh) (fun a5 a2=>?_)
 refine uP Try.f29 8 13 (v:=a0) (pe:=zh) ?_
 kernel_rfl
theorem zF.rs:type_of% (ahi @zF.r0 (ahi @zF.r1 (ahi @zF.r2 (ahi @zF.r3 (ahi @zF.r4 (ahi @zF.r5 (ahi @zF.r6 (ahi @zF.r7 (@zF.r8))))))))):=ahi @zF.r0 (ahi @zF.r1 (ahi @zF.r2 (ahi @zF.r3 (ahi @zF.r4 (ahi @zF.r5 (ahi @zF.r6 (ahi @zF.r7 (@zF.r8))))))))
theorem zF.runs {x0:Value} {S Z:zx} {e:AEx} {T:List Value} (h:zG zi O false zF.code ([x0,zh,zh,zh,zh,zh,zh,zh,zh,zh,zh,zh,zh,zh,zh,zh,zh,zh,zh,zh,zh,zh,zh,zh,zh,zh,zh,zh,zh,zh,zh,zh,zh,zh,zh,zh,zh,zh,zh,zh,zh,zh,zh,zh,zh,zh,zh,zh,zh,zh,zh,zh,zh]) zx.empty=some (e,T,Z)) (he:e=.normal∨e=.ret) {w0:Value} (c0:jA zi false 28 (T.getD 2 zh) Z=some (w0,Z)) (h0:jD (w0)=true) (h1:jD (T.getD 3 zh)=true) (hca:[x0].all (jk 16)=true) (hcv:jk 16 (Value.tuple #[w0,T.getD 3 zh])=true):je zi O 29 [x0] S=some (Value.tuple #[w0,T.getD 3 zh],S) :=
 xR rfl rfl Try.func29 (by decide) zF.body (by exact h) he ((qB ((show zQ zi T Z Try.f29.results.toList=zQ zi T Z [(ResultVar.cell 2 28),(ResultVar.tmp 3)] from by kernel_rfl).trans (by simp only [zQ,c0])) (by kernel_rfl) (by simp only [List.all_cons,List.all_nil,h0,h1,Bool.and_true])).trans rfl) hca hcv
end Go.Proofs.Ytblpnklfimkfoaa
namespace Go.Proofs.Ytblpnklfimkfoaa
open Go.Abs
abbrev zB.id:FuncId:=9
noncomputable def zB.jB:Code:=(.seq (.seq (.region 3 (reg Try.f9 3) false) (.cond (.tmp 14) Code.skip (.exit 0))) (.block 1 (.seq (.region 4 (reg Try.f9 4) false) (.seq (.seq (.region 5 (reg Try.f9 5) false) (.cond (.tmp 24) (.exit 0) Code.skip)) (.seq (.region 6 (reg Try.f9 6) false) (.seq (.seq (.region 7 (reg Try.f9 7) false) (.cond (.tmp 31) (.exit 0) Code.skip)) (.seq (.region 8 (reg Try.f9 8) false) (.region 9 (reg Try.f9 9) false))))))))
noncomputable def zB.code:Code:=(.seq (.region 0 (reg Try.f9 0) false) (.seq (.region 1 (reg Try.f9 1) false) (.seq (.region 2 (reg Try.f9 2) false) (.seq (.block 0 (.loop zB.jB)) (.seq (.region 10 (reg Try.f9 10) false) Code.ret)))))
theorem zB.body:Try.f9.body=some zB.code:=by kernel_rfl
theorem zB.eta {T:List Value} (h:T.length=43):T=[T.getD 0 zh,T.getD 1 zh,T.getD 2 zh,T.getD 3 zh,T.getD 4 zh,T.getD 5 zh,T.getD 6 zh,T.getD 7 zh,T.getD 8 zh,T.getD 9 zh,T.getD 10 zh,T.getD 11 zh,T.getD 12 zh,T.getD 13 zh,T.getD 14 zh,T.getD 15 zh,T.getD 16 zh,T.getD 17 zh,T.getD 18 zh,T.getD 19 zh,T.getD 20 zh,T.getD 21 zh,T.getD 22 zh,T.getD 23 zh,T.getD 24 zh,T.getD 25 zh,T.getD 26 zh,T.getD 27 zh,T.getD 28 zh,T.getD 29 zh,T.getD 30 zh,T.getD 31 zh,T.getD 32 zh,T.getD 33 zh,T.getD 34 zh,T.getD 35 zh,T.getD 36 zh,T.getD 37 zh,T.getD 38 zh,T.getD 39 zh,T.getD 40 zh,T.getD 41 zh,T.getD 42 zh]:=(qw T 43 h).trans (by kernel_rfl)
variable (b Q U V L K M N P R a c d f g i j k l m n o p q r s t u v w x y z A B C D E F G H I J:Value) (S:zx)
theorem zB.r0 :jy zi ⟨false,false,false⟩ (je zi O) (reg Try.f9 0) (reg Try.f9 0).toList ([b,Q,U,V,L,K,M,N,P,R,a,c,d,f,g,i,j,k,l,m,n,o,p,q,r,s,t,u,v,w,x,y,z,A,B,C,D,E,F,G,H,I,J]) S =
  ( some ([b,Q,Value.slice none 0 0,.int .i64 0,L,K,M,N,P,R,a,c,d,f,g,i,j,k,l,m,n,o,p,q,r,s,t,u,v,w,x,y,z,A,B,C,D,E,F,G,H,I,J],S)):=by
 kernel_rfl
theorem zB.r1 :jy zi ⟨false,false,false⟩ (je zi O) (reg Try.f9 1) (reg Try.f9 1).toList ([b,Q,U,V,L,K,M,N,P,R,a,c,d,f,g,i,j,k,l,m,n,o,p,q,r,s,t,u,v,w,x,y,z,A,B,C,D,E,F,G,H,I,J]) S =
  ( some ([b,Q,U,V,Value.slice none 0 0,K,M,N,P,R,a,c,d,f,g,i,j,k,l,m,n,o,p,q,r,s,t,u,v,w,x,y,z,A,B,C,D,E,F,G,H,I,J],S)):=by
 kernel_rfl
theorem zB.r2 :jy zi ⟨false,false,false⟩ (je zi O) (reg Try.f9 2) (reg Try.f9 2).toList ([b,Q,U,V,L,K,M,N,P,R,a,c,d,f,g,i,j,k,l,m,n,o,p,q,r,s,t,u,v,w,x,y,z,A,B,C,D,E,F,G,H,I,J]) S =
  ( some ([b,Q,U,V,L,.int .i64 0,M,N,P,R,a,c,d,f,g,i,j,k,l,m,n,o,p,q,r,s,t,u,v,w,x,y,z,A,B,C,D,E,F,G,H,I,J],S)):=by
 kernel_rfl
theorem zB.r3 :jy zi ⟨false,false,false⟩ (je zi O) (reg Try.f9 3) (reg Try.f9 3).toList ([b,Q,U,V,L,K,M,N,P,R,a,c,d,f,g,i,j,k,l,m,n,o,p,q,r,s,t,u,v,w,x,y,z,A,B,C,D,E,F,G,H,I,J]) S =
  (zS (qO zi 26 (dem b) S) (fun v2 W=>zS (wz zi BinOp.lss 3 (dem K) v2 W) (fun X Z=>some ([b,Q,U,V,L,K,M,N,P,R,a,dem K,dem b,v2,X,i,j,k,l,m,n,o,p,q,r,s,t,u,v,w,x,y,z,A,B,C,D,E,F,G,H,I,J],Z)) ()) ()):=by
 kernel_rfl
theorem zB.r4 :jy zi ⟨false,false,false⟩ (je zi O) (reg Try.f9 4) (reg Try.f9 4).toList ([b,Q,U,V,L,K,M,N,P,R,a,c,d,f,g,i,j,k,l,m,n,o,p,q,r,s,t,u,v,w,x,y,z,A,B,C,D,E,F,G,H,I,J]) S =
  (zS (wC zi false 26 (dem b) (some (dem K)) none S) (fun v2 W=>zS ((je zi O) 28 [(dem v2)] W) (fun X Z=>zS (zL X 0 Z) (fun v5 S3=>zS (zL (zY 0 X) 1 S3) (fun v6 S4=>zS (zL (zY 1 (zY 0 X)) 2 S4) (fun v7 S5=>some ([b,Q,U,V,L,K,v5,v6,v7,R,a,c,d,f,g,zY 2 (zY 1 (zY 0 X)),dem b,dem K,v2,dem X,dem v5,dem v6,dem v7,q,r,s,t,u,v,w,x,y,z,A,B,C,D,E,F,G,H,I,J],S5)) ()) ()) ()) ()) ()):=by
 kernel_rfl
theorem zB.r5 :jy zi ⟨false,false,false⟩ (je zi O) (reg Try.f9 5) (reg Try.f9 5).toList ([b,Q,U,V,L,K,M,N,P,R,a,c,d,f,g,i,j,k,l,m,n,o,p,q,r,s,t,u,v,w,x,y,z,A,B,C,D,E,F,G,H,I,J]) S =
  (zS (wz zi BinOp.neq 29 (dem P) (.int .i64 0) S) (fun Y W=>some ([b,Q,U,V,L,K,M,N,P,R,a,c,d,f,g,i,j,k,l,m,n,o,p,dem P,Y,s,t,u,v,w,x,y,z,A,B,C,D,E,F,G,H,I,J],W)) ()):=by
 kernel_rfl
theorem zB.r6 :jy zi ⟨false,false,false⟩ (je zi O) (reg Try.f9 6) (reg Try.f9 6).toList ([b,Q,U,V,L,K,M,N,P,R,a,c,d,f,g,i,j,k,l,m,n,o,p,q,r,s,t,u,v,w,x,y,z,A,B,C,D,E,F,G,H,I,J]) S =
  (zS ((je zi O) 29 [(dem (dem M))] S) (fun Y W=>zS (zL Y 0 W) (fun X Z=>zS (zL (zY 0 Y) 1 Z) (fun v4 S3=>zS (qW zi 28 S3) (fun v5 S4=>zS (qG zi 28 v5 (dem X) S4) (fun v6 S5=>some ([b,Q,U,V,L,K,M,N,P,v5,v4,c,d,f,g,i,j,k,l,m,n,o,p,q,r,zY 1 (zY 0 Y),dem M,dem Y,X,dem v4,x,y,z,A,B,C,D,E,F,G,H,I,J],S5)) ()) ()) ()) ()) ()):=by
 kernel_rfl
theorem zB.r7 :jy zi ⟨false,false,false⟩ (je zi O) (reg Try.f9 7) (reg Try.f9 7).toList ([b,Q,U,V,L,K,M,N,P,R,a,c,d,f,g,i,j,k,l,m,n,o,p,q,r,s,t,u,v,w,x,y,z,A,B,C,D,E,F,G,H,I,J]) S =
  (zS (aUn zi UnOp.not (dem a) S) (fun Y W=>some ([b,Q,U,V,L,K,M,N,P,R,a,c,d,f,g,i,j,k,l,m,n,o,p,q,r,s,t,u,v,w,dem a,Y,z,A,B,C,D,E,F,G,H,I,J],W)) ()):=by
 kernel_rfl
theorem zB.r8 :jy zi ⟨false,false,false⟩ (je zi O) (reg Try.f9 8) (reg Try.f9 8).toList ([b,Q,U,V,L,K,M,N,P,R,a,c,d,f,g,i,j,k,l,m,n,o,p,q,r,s,t,u,v,w,x,y,z,A,B,C,D,E,F,G,H,I,J]) S =
  (zS (jA zi false 28 R S) (fun Y W=>zS (jh zi 22 1 [(0,Y)] W) (fun v2 Z=>zS (jF zi 22 22 L v2 Z) (fun X S3=>some ([b,Q,U,V,X,K,M,N,P,R,a,c,d,f,g,i,j,k,l,m,n,o,p,q,r,s,t,u,v,w,x,y,dem L,Y,v2,dem X,D,E,F,G,H,I,J],S3)) ()) ()) ()):=by
 kernel_rfl
theorem zB.r9 :jy zi ⟨false,false,false⟩ (je zi O) (reg Try.f9 9) (reg Try.f9 9).toList ([b,Q,U,V,L,K,M,N,P,R,a,c,d,f,g,i,j,k,l,m,n,o,p,q,r,s,t,u,v,w,x,y,z,A,B,C,D,E,F,G,H,I,J]) S =
  (zS (qO zi 26 (dem b) S) (fun Y W=>zS (qO zi 26 (dem N) W) (fun X Z=>zS (wz zi BinOp.sub 3 Y X Z) (fun v4 S3=>some ([b,Q,U,V,L,v4,M,N,P,R,a,c,d,f,g,i,j,k,l,m,n,o,p,q,r,s,t,u,v,w,x,y,z,A,B,C,dem b,Y,dem N,X,dem v4,I,J],S3)) ()) ()) ()):=by
 kernel_rfl
theorem zB.r10 :jy zi ⟨false,false,false⟩ (je zi O) (reg Try.f9 10) (reg Try.f9 10).toList ([b,Q,U,V,L,K,M,N,P,R,a,c,d,f,g,i,j,k,l,m,n,o,p,q,r,s,t,u,v,w,x,y,z,A,B,C,D,E,F,G,H,I,J]) S =
  ( some ([b,Q,L,K,dem L,dem K,M,N,P,R,a,c,d,f,g,i,j,k,l,m,n,o,p,q,r,s,t,u,v,w,x,y,z,A,B,C,D,E,F,G,H,dem L,dem K],S)):=by
 kernel_rfl
theorem zB.rs:type_of% (ahi @zB.r0 (ahi @zB.r1 (ahi @zB.r2 (ahi @zB.r3 (ahi @zB.r4 (ahi @zB.r5 (ahi @zB.r6 (ahi @zB.r7 (ahi @zB.r8 (ahi @zB.r9 (@zB.r10))))))))))):=ahi @zB.r0 (ahi @zB.r1 (ahi @zB.r2 (ahi @zB.r3 (ahi @zB.r4 (ahi @zB.r5 (ahi @zB.r6 (ahi @zB.r7 (ahi @zB.r8 (ahi @zB.r9 (@zB.r10))))))))))
theorem zB.runs {b:Value} {S W:zx} {e:AEx} {T:List Value} (h:zG zi O false zB.code ([b,zh,zh,zh,zh,zh,zh,zh,zh,zh,zh,zh,zh,zh,zh,zh,zh,zh,zh,zh,zh,zh,zh,zh,zh,zh,zh,zh,zh,zh,zh,zh,zh,zh,zh,zh,zh,zh,zh,zh,zh,zh,zh]) zx.empty=some (e,T,W)) (he:e=.normal∨e=.ret)  (h0:jD (T.getD 2 zh)=true) (h1:jD (T.getD 3 zh)=true) (hca:[b].all (jk 16)=true) (hcv:jk 16 (Value.tuple #[T.getD 2 zh,T.getD 3 zh])=true):je zi O 9 [b] S=some (Value.tuple #[T.getD 2 zh,T.getD 3 zh],S) :=
 xR rfl rfl Try.func9 (by decide) zB.body (by exact h) he ((qB ((show zQ zi T W Try.f9.results.toList=zQ zi T W [(ResultVar.tmp 2),(ResultVar.tmp 3)] from by kernel_rfl).trans (by simp only [zQ])) (by kernel_rfl) (by simp only [List.all_cons,List.all_nil,h0,h1,Bool.and_true])).trans rfl) hca hcv
end Go.Proofs.Ytblpnklfimkfoaa
namespace Go.Proofs.Ytblpnklfimkfoaa
open Go.Abs
abbrev zC.id:FuncId:=31
noncomputable def zC.jB:Code:=(.seq (.region 2 (reg Try.f31 2) false) (.seq (.cond (.tmp 16) Code.skip (.exit 0)) (.seq (.block 1 (.seq (.region 3 (reg Try.f31 3) false) (.seq (.region 4 (reg Try.f31 4) false) (.cond (.tmp 24) (.seq (.region 5 (reg Try.f31 5) false) Code.ret) Code.skip)))) (.region 6 (reg Try.f31 6) false))))
noncomputable def zC.code:Code:=(.seq (.region 0 (reg Try.f31 0) false) (.seq (.seq (.region 1 (reg Try.f31 1) false) (.block 0 (.loop zC.jB))) (.seq (.region 7 (reg Try.f31 7) false) Code.ret)))
theorem zC.body:Try.f31.body=some zC.code:=by kernel_rfl
theorem zC.eta {T:List Value} (h:T.length=30):T=[T.getD 0 zh,T.getD 1 zh,T.getD 2 zh,T.getD 3 zh,T.getD 4 zh,T.getD 5 zh,T.getD 6 zh,T.getD 7 zh,T.getD 8 zh,T.getD 9 zh,T.getD 10 zh,T.getD 11 zh,T.getD 12 zh,T.getD 13 zh,T.getD 14 zh,T.getD 15 zh,T.getD 16 zh,T.getD 17 zh,T.getD 18 zh,T.getD 19 zh,T.getD 20 zh,T.getD 21 zh,T.getD 22 zh,T.getD 23 zh,T.getD 24 zh,T.getD 25 zh,T.getD 26 zh,T.getD 27 zh,T.getD 28 zh,T.getD 29 zh]:=(qw T 30 h).trans (by kernel_rfl)
variable (z A L D B F G H I J f g i c d b k l m n o p q r s t u w x y:Value) (S:zx)
theorem zC.r0 :jy zi ⟨false,false,false⟩ (je zi O) (reg Try.f31 0) (reg Try.f31 0).toList ([z,A,L,D,B,F,G,H,I,J,f,g,i,c,d,b,k,l,m,n,o,p,q,r,s,t,u,w,x,y]) S =
  (zS (YJ (dem z) S) (fun K C=>some ([z,K,Value.bool false,D,B,F,G,H,I,J,f,g,i,c,d,b,k,l,m,n,o,p,q,r,s,t,u,w,x,y],C)) ()):=by
 kernel_rfl
theorem zC.r1 :jy zi ⟨false,false,false⟩ (je zi O) (reg Try.f31 1) (reg Try.f31 1).toList ([z,A,L,D,B,F,G,H,I,J,f,g,i,c,d,b,k,l,m,n,o,p,q,r,s,t,u,w,x,y]) S =
  (zS (zW zi 28 A 0 S) (fun K C=>zS (jA zi false 3 K C) (fun E N=>zS (zW zi 28 A 1 N) (fun U P=>zS (jA zi false 3 U P) (fun M Q=>zS (zW zi 28 A 2 Q) (fun R S5=>zS (jA zi false 3 R S5) (fun V S6=>zS (zW zi 28 A 3 S6) (fun W S7=>zS (jA zi false 3 W S7) (fun X S8=>zS (jh zi 56 4 [(0,E),(1,M),(2,V),(3,X)] S8) (fun Y S9=>zS (qO zi 56 Y S9) (fun v9 Z=>some ([z,A,L,D,B,K,E,U,M,R,V,W,X,Y,v9,.int .i64 0,k,l,m,n,o,p,q,r,s,t,u,w,x,y],Z)) ()) ()) ()) ()) ()) ()) ()) ()) ()) ()):=by
 kernel_rfl
theorem zC.r2 :jy zi ⟨false,false,false⟩ (je zi O) (reg Try.f31 2) (reg Try.f31 2).toList ([z,A,L,D,B,F,G,H,I,J,f,g,i,c,d,b,k,l,m,n,o,p,q,r,s,t,u,w,x,y]) S =
  (zS (wz zi BinOp.lss 3 b d S) (fun K C=>some ([z,A,L,D,B,F,G,H,I,J,f,g,i,c,d,b,K,l,m,n,o,p,q,r,s,t,u,w,x,y],C)) ()):=by
 kernel_rfl
theorem zC.r3 :jy zi ⟨false,false,false⟩ (je zi O) (reg Try.f31 3) (reg Try.f31 3).toList ([z,A,L,D,B,F,G,H,I,J,f,g,i,c,d,b,k,l,m,n,o,p,q,r,s,t,u,w,x,y]) S =
  (zS (jv zi 56 c b S) (fun K C=>zS (jA zi false 3 K C) (fun E N=>some ([z,A,L,D,E,F,G,H,I,J,f,g,i,c,d,b,k,K,dem E,n,o,p,q,r,s,t,u,w,x,y],N)) ()) ()):=by
 kernel_rfl
theorem zC.r4 :jy zi ⟨false,false,false⟩ (je zi O) (reg Try.f31 4) (reg Try.f31 4).toList ([z,A,L,D,B,F,G,H,I,J,f,g,i,c,d,b,k,l,m,n,o,p,q,r,s,t,u,w,x,y]) S =
  (zS (wz zi BinOp.lss 3 (dem B) (.int .i64 (-1)) S) (fun E C=>gdK (dem E) false (ret B) C (fun M N=>gdK (dem E) false (wz zi BinOp.gtr 3 (dem M) (.int .i64 1073741824)) N (fun R P=>zS (qY (dem E) (Value.bool true) R P) (fun V Q=>some ([z,A,L,D,B,F,G,H,I,J,f,g,i,c,d,b,k,l,m,dem B,E,dem E,dem M,R,V,t,u,w,x,y],Q)) ()) ()) ()) ()):=by
 refine sP Try.f31 4 0 (v:=B) ?_
 refine sD Try.f31 4 1 (fun E C=>?_)
 refine sP Try.f31 4 2 (v:=E) ?_
 refine sG Try.f31 4 3 (j:=2) (fun M N=>?_)
 refine sG Try.f31 4 4 (j:=2) (fun R P=>?_)
 refine sD Try.f31 4 5 (fun V Q=>?_)
 kernel_rfl
theorem zC.r5 :jy zi ⟨false,false,false⟩ (je zi O) (reg Try.f31 5) (reg Try.f31 5).toList ([z,A,L,D,B,F,G,H,I,J,f,g,i,c,d,b,k,l,m,n,o,p,q,r,s,t,u,w,x,y]) S =
  ( some ([z,A,Value.bool false,D,B,F,G,H,I,J,f,g,i,c,d,b,k,l,m,n,o,p,q,r,s,t,u,w,x,y],S)):=by
 kernel_rfl
theorem zC.r6 :jy zi ⟨false,false,false⟩ (je zi O) (reg Try.f31 6) (reg Try.f31 6).toList ([z,A,L,D,B,F,G,H,I,J,f,g,i,c,d,b,k,l,m,n,o,p,q,r,s,t,u,w,x,y]) S =
  (zS (wz zi BinOp.add 3 b (.int .i64 1) S) (fun K C=>some ([z,A,L,D,B,F,G,H,I,J,f,g,i,c,d,dem K,k,l,m,n,o,p,q,r,s,K,u,w,x,y],C)) ()):=by
 kernel_rfl
theorem zC.r7 :jy zi ⟨false,false,false⟩ (je zi O) (reg Try.f31 7) (reg Try.f31 7).toList ([z,A,L,D,B,F,G,H,I,J,f,g,i,c,d,b,k,l,m,n,o,p,q,r,s,t,u,w,x,y]) S =
  (zS (zW zi 28 A 4 S) (fun K C=>zS (jA zi false 26 K C) (fun E N=>zS (qO zi 26 E N) (fun U P=>zS (wz zi BinOp.leq 3 U (.int .i64 1024) P) (fun M Q=>some ([z,A,M,D,B,F,G,H,I,J,f,g,i,c,d,b,k,l,m,n,o,p,q,r,s,t,K,E,U,dem M],Q)) ()) ()) ()) ()):=by
 kernel_rfl
theorem zC.rs:type_of% (ahi @zC.r0 (ahi @zC.r1 (ahi @zC.r2 (ahi @zC.r3 (ahi @zC.r4 (ahi @zC.r5 (ahi @zC.r6 (@zC.r7)))))))):=ahi @zC.r0 (ahi @zC.r1 (ahi @zC.r2 (ahi @zC.r3 (ahi @zC.r4 (ahi @zC.r5 (ahi @zC.r6 (@zC.r7)))))))
theorem zC.runs {z:Value} {S C:zx} {e:AEx} {T:List Value} (h:zG zi O false zC.code ([z,zh,zh,zh,zh,zh,zh,zh,zh,zh,zh,zh,zh,zh,zh,zh,zh,zh,zh,zh,zh,zh,zh,zh,zh,zh,zh,zh,zh,zh]) zx.empty=some (e,T,C)) (he:e=.normal∨e=.ret) (hca:[z].all (jk 16)=true) (hcv:jk 16 (T.getD 2 zh)=true):je zi O 31 [z] S=some (T.getD 2 zh,S) :=
 xR rfl rfl Try.func31 (by decide) zC.body (by exact h) he (yM (a:=T.getD 2 zh) ((show zQ zi T C Try.f31.results.toList=zQ zi T C [(ResultVar.tmp 2)] from by kernel_rfl).trans (by simp only [zQ])) (by kernel_rfl)) hca hcv
end Go.Proofs.Ytblpnklfimkfoaa
namespace Go.Proofs.Ytblpnklfimkfoaa
open Go.Abs
abbrev zI.id:FuncId:=11
noncomputable def zI.code:Code:=(.seq (.region 0 (reg Try.f11 0) false) (.seq (.seq (.region 1 (reg Try.f11 1) false) (.cond (.tmp 12) (.seq (.region 2 (reg Try.f11 2) false) Code.ret) Code.skip)) (.seq (.region 3 (reg Try.f11 3) false) (.seq (.region 4 (reg Try.f11 4) false) (.seq (.region 5 (reg Try.f11 5) false) (.seq (.seq (.region 6 (reg Try.f11 6) false) (.cond (.tmp 40) (.seq (.region 7 (reg Try.f11 7) false) Code.ret) Code.skip)) (.seq (.region 8 (reg Try.f11 8) false) Code.ret)))))))
theorem zI.body:Try.f11.body=some zI.code:=by kernel_rfl
variable (I J U V K P L Q M N a b c d f g i j k l m n o p q r s t u v w x y z A B C D E F G H:Value) (S:zx)
theorem zI.r0 :jy zi ⟨false,false,false⟩ (je zi O) (reg Try.f11 0) (reg Try.f11 0).toList ([I,J,U,V,K,P,L,Q,M,N,a,b,c,d,f,g,i,j,k,l,m,n,o,p,q,r,s,t,u,v,w,x,y,z,A,B,C,D,E,F,G,H]) S =
  (zS (YJ (dem I) S) (fun X R=>some ([I,X,Value.slice none 0 0,.int .i64 0,K,P,L,Q,M,N,a,b,c,d,f,g,i,j,k,l,m,n,o,p,q,r,s,t,u,v,w,x,y,z,A,B,C,D,E,F,G,H],R)) ()):=by
 kernel_rfl
theorem zI.r1 :jy zi ⟨false,false,false⟩ (je zi O) (reg Try.f11 1) (reg Try.f11 1).toList ([I,J,U,V,K,P,L,Q,M,N,a,b,c,d,f,g,i,j,k,l,m,n,o,p,q,r,s,t,u,v,w,x,y,z,A,B,C,D,E,F,G,H]) S =
  (zS (jA zi false 28 J S) (fun X R=>zS ((je zi O) 31 [(dem X)] R) (fun Y S2=>zS (aUn zi UnOp.not Y S2) (fun W S3=>some ([I,J,U,V,K,P,L,Q,M,N,X,Y,W,d,f,g,i,j,k,l,m,n,o,p,q,r,s,t,u,v,w,x,y,z,A,B,C,D,E,F,G,H],S3)) ()) ()) ()):=by
 kernel_rfl
theorem zI.r2 :jy zi ⟨false,false,false⟩ (je zi O) (reg Try.f11 2) (reg Try.f11 2).toList ([I,J,U,V,K,P,L,Q,M,N,a,b,c,d,f,g,i,j,k,l,m,n,o,p,q,r,s,t,u,v,w,x,y,z,A,B,C,D,E,F,G,H]) S =
  ( some ([I,J,Value.slice none 0 0,.int .i64 51,K,P,L,Q,M,N,a,b,c,d,f,g,i,j,k,l,m,n,o,p,q,r,s,t,u,v,w,x,y,z,A,B,C,D,E,F,G,H],S)):=by
 kernel_rfl
theorem zI.r3 :jy zi ⟨false,false,false⟩ (je zi O) (reg Try.f11 3) (reg Try.f11 3).toList ([I,J,U,V,K,P,L,Q,M,N,a,b,c,d,f,g,i,j,k,l,m,n,o,p,q,r,s,t,u,v,w,x,y,z,A,B,C,D,E,F,G,H]) S =
  (zS (zW zi 28 J 0 S) (fun X R=>zS (jA zi false 3 X R) (fun Y S2=>zS (zW zi 28 J 1 S2) (fun W S3=>zS (jA zi false 3 W S3) (fun v3 S4=>zS (zW zi 28 J 2 S4) (fun v4 S5=>zS (jA zi false 3 v4 S5) (fun Z S6=>zS (zW zi 28 J 3 S6) (fun v6 S7=>zS (jA zi false 3 v6 S7) (fun v7 S8=>zS (jh zi 56 4 [(0,Y),(1,v3),(2,Z),(3,v7)] S8) (fun v8 S9=>zS ((je zi O) 32 [(dem v8)] S9) (fun v9 a2=>zS (zL v9 0 a2) (fun a0 a3=>zS (zL (zY 0 v9) 1 a3) (fun a1 a4=>some ([I,J,U,V,a0,a1,L,Q,M,N,a,b,c,zY 1 (zY 0 v9),X,Y,W,v3,v4,Z,v6,v7,v8,dem v9,dem a0,dem a1,s,t,u,v,w,x,y,z,A,B,C,D,E,F,G,H],a4)) ()) ()) ()) ()) ()) ()) ()) ()) ()) ()) ()) ()):=by
 kernel_rfl
theorem zI.r4 :jy zi ⟨false,false,false⟩ (je zi O) (reg Try.f11 4) (reg Try.f11 4).toList ([I,J,U,V,K,P,L,Q,M,N,a,b,c,d,f,g,i,j,k,l,m,n,o,p,q,r,s,t,u,v,w,x,y,z,A,B,C,D,E,F,G,H]) S =
  (zS (zW zi 28 J 4 S) (fun X R=>zS (jA zi false 26 X R) (fun Y S2=>zS ((je zi O) 33 [(dem Y)] S2) (fun W S3=>zS (zL W 0 S3) (fun v4 S4=>zS (zL (zY 0 W) 1 S4) (fun Z S5=>some ([I,J,U,V,K,P,v4,Z,M,N,a,b,c,d,f,g,i,j,k,l,m,n,o,p,q,r,zY 1 (zY 0 W),X,Y,dem W,dem v4,dem Z,y,z,A,B,C,D,E,F,G,H],S5)) ()) ()) ()) ()) ()):=by
 kernel_rfl
theorem zI.r5 :jy zi ⟨false,false,false⟩ (je zi O) (reg Try.f11 5) (reg Try.f11 5).toList ([I,J,U,V,K,P,L,Q,M,N,a,b,c,d,f,g,i,j,k,l,m,n,o,p,q,r,s,t,u,v,w,x,y,z,A,B,C,D,E,F,G,H]) S =
  (zS (jF zi 26 26 K (dem L) S) (fun W R=>zS ((je zi O) 33 [(dem W)] R) (fun v3 S2=>zS (zL v3 0 S2) (fun Z S3=>zS (zL (zY 0 v3) 1 S3) (fun v6 S4=>some ([I,J,U,V,dem K,P,L,Q,Z,v6,a,b,c,d,f,g,i,j,k,l,m,n,o,p,q,r,s,t,u,v,w,x,zY 1 (zY 0 v3),dem K,dem L,W,dem v3,dem Z,dem v6,F,G,H],S4)) ()) ()) ()) ()):=by
 kernel_rfl
theorem zI.r6 :jy zi ⟨false,false,false⟩ (je zi O) (reg Try.f11 6) (reg Try.f11 6).toList ([I,J,U,V,K,P,L,Q,M,N,a,b,c,d,f,g,i,j,k,l,m,n,o,p,q,r,s,t,u,v,w,x,y,z,A,B,C,D,E,F,G,H]) S =
  (zS (wz zi BinOp.neq 29 (dem N) (.int .i64 0) S) (fun Y R=>some ([I,J,U,V,K,P,L,Q,M,N,a,b,c,d,f,g,i,j,k,l,m,n,o,p,q,r,s,t,u,v,w,x,y,z,A,B,C,D,E,dem N,Y,H],R)) ()):=by
 kernel_rfl
theorem zI.r7 :jy zi ⟨false,false,false⟩ (je zi O) (reg Try.f11 7) (reg Try.f11 7).toList ([I,J,U,V,K,P,L,Q,M,N,a,b,c,d,f,g,i,j,k,l,m,n,o,p,q,r,s,t,u,v,w,x,y,z,A,B,C,D,E,F,G,H]) S =
  ( some ([I,J,Value.slice none 0 0,.int .i64 51,K,P,L,Q,M,N,a,b,c,d,f,g,i,j,k,l,m,n,o,p,q,r,s,t,u,v,w,x,y,z,A,B,C,D,E,F,G,H],S)):=by
 kernel_rfl
theorem zI.r8 :jy zi ⟨false,false,false⟩ (je zi O) (reg Try.f11 8) (reg Try.f11 8).toList ([I,J,U,V,K,P,L,Q,M,N,a,b,c,d,f,g,i,j,k,l,m,n,o,p,q,r,s,t,u,v,w,x,y,z,A,B,C,D,E,F,G,H]) S =
  ( some ([I,J,M,.int .i64 0,K,P,L,Q,dem M,N,a,b,c,d,f,g,i,j,k,l,m,n,o,p,q,r,s,t,u,v,w,x,y,z,A,B,C,D,E,F,G,dem M],S)):=by
 kernel_rfl
theorem zI.rs:type_of% (ahi @zI.r0 (ahi @zI.r1 (ahi @zI.r2 (ahi @zI.r3 (ahi @zI.r4 (ahi @zI.r5 (ahi @zI.r6 (ahi @zI.r7 (@zI.r8))))))))):=ahi @zI.r0 (ahi @zI.r1 (ahi @zI.r2 (ahi @zI.r3 (ahi @zI.r4 (ahi @zI.r5 (ahi @zI.r6 (ahi @zI.r7 (@zI.r8))))))))
theorem zI.runs {I:Value} {S R:zx} {e:AEx} {T:List Value} (h:zG zi O false zI.code ([I,zh,zh,zh,zh,zh,zh,zh,zh,zh,zh,zh,zh,zh,zh,zh,zh,zh,zh,zh,zh,zh,zh,zh,zh,zh,zh,zh,zh,zh,zh,zh,zh,zh,zh,zh,zh,zh,zh,zh,zh,zh]) zx.empty=some (e,T,R)) (he:e=.normal∨e=.ret)  (h0:jD (T.getD 2 zh)=true) (h1:jD (T.getD 3 zh)=true) (hca:[I].all (jk 16)=true) (hcv:jk 16 (Value.tuple #[T.getD 2 zh,T.getD 3 zh])=true):je zi O 11 [I] S=some (Value.tuple #[T.getD 2 zh,T.getD 3 zh],S) :=
 xR rfl rfl Try.func11 (by decide) zI.body (by exact h) he ((qB ((show zQ zi T R Try.f11.results.toList=zQ zi T R [(ResultVar.tmp 2),(ResultVar.tmp 3)] from by kernel_rfl).trans (by simp only [zQ])) (by kernel_rfl) (by simp only [List.all_cons,List.all_nil,h0,h1,Bool.and_true])).trans rfl) hca hcv
end Go.Proofs.Ytblpnklfimkfoaa
namespace Go.Proofs.Ytblpnklfimkfoaa
open Go.Abs
abbrev jH.id:FuncId:=33
noncomputable def jH.code:Code:=(.seq (.region 0 (reg Try.f33 0) false) (.seq (.seq (.region 1 (reg Try.f33 1) false) (.cond (.tmp 6) (.seq (.region 2 (reg Try.f33 2) false) Code.ret) Code.skip)) (.seq (.region 3 (reg Try.f33 3) false) Code.ret)))
theorem jH.body:Try.f33.body=some jH.code:=by kernel_rfl
variable (a f o p i j k l m n b c d:Value) (S:zx)
theorem jH.r0 :jy zi ⟨false,false,false⟩ (je zi O) (reg Try.f33 0) (reg Try.f33 0).toList ([a,f,o,p,i,j,k,l,m,n,b,c,d]) S =
  ( some ([a,f,Value.slice none 0 0,.int .i64 0,i,j,k,l,m,n,b,c,d],S)):=by
 kernel_rfl
theorem jH.r1 :jy zi ⟨false,false,false⟩ (je zi O) (reg Try.f33 1) (reg Try.f33 1).toList ([a,f,o,p,i,j,k,l,m,n,b,c,d]) S =
  (zS (qO zi 26 (dem a) S) (fun q g=>zS (wz zi BinOp.gtr 3 q (.int .i64 4096) g) (fun r s=>some ([a,f,o,p,dem a,q,r,l,m,n,b,c,d],s)) ()) ()):=by
 kernel_rfl
theorem jH.r2 :jy zi ⟨false,false,false⟩ (je zi O) (reg Try.f33 2) (reg Try.f33 2).toList ([a,f,o,p,i,j,k,l,m,n,b,c,d]) S =
  ( some ([a,f,Value.slice none 0 0,.int .i64 11,i,j,k,l,m,n,b,c,d],S)):=by
 kernel_rfl
theorem jH.r3 :jy zi ⟨false,false,false⟩ (je zi O) (reg Try.f33 3) (reg Try.f33 3).toList ([a,f,o,p,i,j,k,l,m,n,b,c,d]) S =
  (zS (qO zi 26 (dem a) S) (fun q g=>zS (wV zi false false 3 75 q g) (fun r s=>zS ((je zi O) 45 [(dem r)] s) (fun t v=>zS (jF zi 26 26 t (dem a) v) (fun u w=>some ([a,f,u,.int .i64 0,i,j,k,dem a,q,r,dem t,dem a,dem u],w)) ()) ()) ()) ()):=by
 kernel_rfl
theorem jH.runs {a:Value} {S g:zx} {e:AEx} {T:List Value} (h:zG zi O false jH.code ([a,zh,zh,zh,zh,zh,zh,zh,zh,zh,zh,zh,zh]) S=some (e,T,g)) (he:e=.normal∨e=.ret)  (h0:jD (T.getD 2 zh)=true) (h1:jD (T.getD 3 zh)=true):je zi O 33 [a] S=some (Value.tuple #[T.getD 2 zh,T.getD 3 zh],g) :=
 jY rfl rfl Try.func33 (by decide) jH.body (by exact h) he ((qB ((show zQ zi T g Try.f33.results.toList=zQ zi T g [(ResultVar.tmp 2),(ResultVar.tmp 3)] from by kernel_rfl).trans (by simp only [zQ])) (by kernel_rfl) (by simp only [List.all_cons,List.all_nil,h0,h1,Bool.and_true])).trans rfl)
end Go.Proofs.Ytblpnklfimkfoaa
namespace Go.Proofs.Ytblpnklfimkfoaa
open Go.Abs
abbrev zM.id:FuncId:=28
noncomputable def zM.code:Code:=(.seq (.region 0 (reg Try.f28 0) false) (.seq (.region 1 (reg Try.f28 1) false) (.seq (.seq (.region 2 (reg Try.f28 2) false) (.cond (.tmp 26) (.seq (.region 3 (reg Try.f28 3) false) Code.ret) Code.skip)) (.seq (.region 4 (reg Try.f28 4) true) Code.ret))))
theorem zM.body:Try.f28.body=some zM.code:=by kernel_rfl
variable (c L Q R U a b I M N d f g i k l m n o p q r s t u w x y z A B C D E F:Value) (S:zx)
theorem zM.r0 :jy zi ⟨false,false,false⟩ (je zi O) (reg Try.f28 0) (reg Try.f28 0).toList ([c,L,Q,R,U,a,b,I,M,N,d,f,g,i,k,l,m,n,o,p,q,r,s,t,u,w,x,y,z,A,B,C,D,E,F]) S =
  ( some ([c,L,Value.slice none 0 0,Value.slice none 0 0,.int .i64 0,a,b,I,M,N,d,f,g,i,k,l,m,n,o,p,q,r,s,t,u,w,x,y,z,A,B,C,D,E,F],S)):=by
 kernel_rfl
theorem zM.r1 :jy zi ⟨false,false,false⟩ (je zi O) (reg Try.f28 1) (reg Try.f28 1).toList ([c,L,Q,R,U,a,b,I,M,N,d,f,g,i,k,l,m,n,o,p,q,r,s,t,u,w,x,y,z,A,B,C,D,E,F]) S =
  (zS ((je zi O) 42 [(dem (dem c))] S) (fun G J=>zS (zL G 0 J) (fun K V=>zS (zL (zY 0 G) 1 V) (fun Y W=>zS (zL (zY 1 (zY 0 G)) 2 W) (fun H X=>some ([c,L,Q,R,U,K,Y,H,zY 2 (zY 1 (zY 0 G)),dem c,dem G,dem K,dem Y,dem H,k,l,m,n,o,p,q,r,s,t,u,w,x,y,z,A,B,C,D,E,F],X)) ()) ()) ()) ()):=by
 kernel_rfl
theorem zM.r2 :jy zi ⟨false,false,false⟩ (je zi O) (reg Try.f28 2) (reg Try.f28 2).toList ([c,L,Q,R,U,a,b,I,M,N,d,f,g,i,k,l,m,n,o,p,q,r,s,t,u,w,x,y,z,A,B,C,D,E,F]) S =
  (zS (wz zi BinOp.neq 29 (dem I) (.int .i64 0) S) (fun G J=>gdK (dem G) false (ret a) J (fun K V=>gdK (dem G) false (wz zi BinOp.gtr 75 (dem K) (Value.int IntKind.u64 4096)) V (fun Y W=>zS (qY (dem G) (Value.bool true) Y W) (fun H X=>gdK (dem H) false (ret a) X (fun P S5=>gdK (dem H) false (ret b) S5 (fun v8 S6=>gdK (dem H) false (qO zi 26 (dem v8)) S6 (fun v9 S7=>gdK (dem H) false (wV zi false false 3 75 v9) S7 (fun Z S8=>gdK (dem H) false (wz zi BinOp.gtr 75 (dem P) Z) S8 (fun a0 S9=>zS (qY (dem H) (Value.bool true) a0 S9) (fun a1 a2=>some ([c,L,Q,R,U,a,b,I,M,N,d,f,g,i,dem I,G,dem G,dem K,Y,H,dem H,dem P,dem v8,v9,Z,a0,a1,y,z,A,B,C,D,E,F],a2)) ()) ()) ()) ()) ()) ()) ()) ()) ()) ()):=by
 refine sP Try.f28 2 0 (v:=I) ?_
 refine sD Try.f28 2 1 (fun G J=>?_)
 refine sP Try.f28 2 2 (v:=G) ?_
 refine sG Try.f28 2 3 (j:=2) (fun K V=>?_)
 refine sG Try.f28 2 4 (j:=2) (fun Y W=>?_)
 refine sD Try.f28 2 5 (fun H X=>?_)
 refine sP Try.f28 2 6 (v:=H) ?_
 refine sG Try.f28 2 7 (j:=6) (fun P S5=>?_)
 refine sG Try.f28 2 8 (j:=6) (fun v8 S6=>?_)
 refine sG Try.f28 2 9 (j:=6) (fun v9 S7=>?_)
 refine sG Try.f28 2 10 (j:=6) (fun Z S8=>?_)
 refine sG Try.f28 2 11 (j:=6) (fun a0 S9=>?_)
 refine sD Try.f28 2 12 (fun a1 a2=>?_)
 kernel_rfl
theorem zM.r3 :jy zi ⟨false,false,false⟩ (je zi O) (reg Try.f28 3) (reg Try.f28 3).toList ([c,L,Q,R,U,a,b,I,M,N,d,f,g,i,k,l,m,n,o,p,q,r,s,t,u,w,x,y,z,A,B,C,D,E,F]) S =
  ( some ([c,L,Value.slice none 0 0,Value.slice none 0 0,.int .i64 11,a,b,I,M,N,d,f,g,i,k,l,m,n,o,p,q,r,s,t,u,w,x,y,z,A,B,C,D,E,F],S)):=by
 kernel_rfl
theorem zM.d4:yS zi (reg Try.f28 4)=true:=by kernel_rfl
theorem zM.ff4:fixed zi (reg Try.f28 4)=false:=by kernel_rfl
theorem zM.k4:checked zi (reg Try.f28 4)=[4,5,6]:=by kernel_rfl
theorem zM.g4:again zi (reg Try.f28 4)=[]:=by kernel_rfl
theorem zM.r4 :zG zi O false (.region 4 (reg Try.f28 4) true) ([c,L,Q,R,U,a,b,I,M,N,d,f,g,i,k,l,m,n,o,p,q,r,s,t,u,w,x,y,z,A,B,C,D,E,F]) S =
  Jt (zS (wC zi true 26 (dem b) none (some (dem a)) S) (fun v2 J=>zS ((je zi O) 43 [(dem v2)] J) (fun K V=>okK b ( okK a ( zS (wC zi true 26 (dem b) (some (dem a)) none V) (fun v6 W=>okK v6 ( zS ((je zi O) 43 [(dem v6)] W) (fun P X=>some ([c,L,K,P,.int .i64 0,a,b,I,M,N,d,f,g,i,k,l,m,n,o,p,q,r,s,t,u,w,x,dem b,dem a,v2,dem K,dem b,dem a,v6,dem P],X)) ()) ()) ()) ()) ()) ()) ()):=by
 rw [yu zM.d4 zM.ff4 zM.k4 zM.g4]
 refine congrArg Jt ?_
 refine tP Try.f28 4 0 (v:=b) ?_
 refine tP Try.f28 4 1 (v:=a) ?_
 refine tD Try.f28 4 2 (fun v2 J=>?_)
 refine tD Try.f28 4 3 (fun K V=>?_)
 refine tPC Try.f28 4 4 (v:=b) ?_
 refine tPC Try.f28 4 5 (v:=a) ?_
 refine tDC Try.f28 4 6 (fun v6 W=>?_)
 refine tD Try.f28 4 7 (fun P X=>?_)
 refine tP Try.f28 4 8 (v:=K) ?_
 refine tP Try.f28 4 9 (v:=P) ?_
 refine tP Try.f28 4 10 (v:=(.int .i64 0)) ?_
 kernel_rfl
theorem zM.runs {c:Value} {S J:zx} {e:AEx} {T:List Value} (h:zG zi O false zM.code ([c,zh,zh,zh,zh,zh,zh,zh,zh,zh,zh,zh,zh,zh,zh,zh,zh,zh,zh,zh,zh,zh,zh,zh,zh,zh,zh,zh,zh,zh,zh,zh,zh,zh,zh]) S=some (e,T,J)) (he:e=.normal∨e=.ret)  (h0:jD (T.getD 2 zh)=true) (h1:jD (T.getD 3 zh)=true) (h2:jD (T.getD 4 zh)=true):je zi O 28 [c] S=some (Value.tuple #[T.getD 2 zh,T.getD 3 zh,T.getD 4 zh],J) :=
 jY rfl rfl Try.func28 (by decide) zM.body (by exact h) he ((qB ((show zQ zi T J Try.f28.results.toList=zQ zi T J [(ResultVar.tmp 2),(ResultVar.tmp 3),(ResultVar.tmp 4)] from by kernel_rfl).trans (by simp only [zQ])) (by kernel_rfl) (by simp only [List.all_cons,List.all_nil,h0,h1,h2,Bool.and_true])).trans rfl)
end Go.Proofs.Ytblpnklfimkfoaa
namespace Go.Proofs.Ytblpnklfimkfoaa
open Go.Abs
abbrev slices_Clone.id:FuncId:=43
noncomputable def slices_Clone.code:Code:=(.seq (.region 0 (reg Try.f43 0) false) (.seq (.seq (.region 1 (reg Try.f43 1) false) (.cond (.tmp 4) (.seq (.region 2 (reg Try.f43 2) false) Code.ret) Code.skip)) (.seq (.region 3 (reg Try.f43 3) false) Code.ret)))
theorem slices_Clone.body:Try.f43.body=some slices_Clone.code:=by kernel_rfl
variable (b c l f g i j k:Value) (S:zx)
theorem slices_Clone.r0 :jy zi ⟨false,false,false⟩ (je zi O) (reg Try.f43 0) (reg Try.f43 0).toList ([b,c,l,f,g,i,j,k]) S =
  ( some ([b,c,Value.slice none 0 0,f,g,i,j,k],S)):=by
 kernel_rfl
theorem slices_Clone.r1 :jy zi ⟨false,false,false⟩ (je zi O) (reg Try.f43 1) (reg Try.f43 1).toList ([b,c,l,f,g,i,j,k]) S =
  (zS (wz zi BinOp.eql 26 (dem b) (Value.slice none 0 0) S) (fun o d=>some ([b,c,l,dem b,o,i,j,k],d)) ()):=by
 kernel_rfl
theorem slices_Clone.r2 :jy zi ⟨false,false,false⟩ (je zi O) (reg Try.f43 2) (reg Try.f43 2).toList ([b,c,l,f,g,i,j,k]) S =
  ( some ([b,c,Value.slice none 0 0,f,g,i,j,k],S)):=by
 kernel_rfl
theorem slices_Clone.r3 :jy zi ⟨false,false,false⟩ (je zi O) (reg Try.f43 3) (reg Try.f43 3).toList ([b,c,l,f,g,i,j,k]) S =
  (zS (jh zi 26 0 [] S) (fun m d=>zS (jF zi 26 26 m (dem b) d) (fun n p=>some ([b,c,n,f,g,dem m,dem b,dem n],p)) ()) ()):=by
 kernel_rfl
theorem slices_Clone.runs {b:Value} {S d:zx} {e:AEx} {T:List Value} (h:zG zi O false slices_Clone.code ([b,zh,zh,zh,zh,zh,zh,zh]) S=some (e,T,d)) (he:e=.normal∨e=.ret):je zi O 43 [b] S=some (T.getD 2 zh,d) :=
 jY rfl rfl Try.func43 (by decide) slices_Clone.body (by exact h) he (yM (a:=T.getD 2 zh) ((show zQ zi T d Try.f43.results.toList=zQ zi T d [(ResultVar.tmp 2)] from by kernel_rfl).trans (by simp only [zQ])) (by kernel_rfl))
end Go.Proofs.Ytblpnklfimkfoaa
namespace Go.Proofs.Ytblpnklfimkfoaa
open Go.Abs
abbrev zD.id:FuncId:=42
noncomputable def zD.jB:Code:=(.seq (.region 3 (reg Try.f42 3) false) (.seq (.cond (.tmp 11) Code.skip (.exit 0)) (.seq (.block 1 (.seq (.region 4 (reg Try.f42 4) false) (.seq (.seq (.region 5 (reg Try.f42 5) false) (.cond (.tmp 28) (.exit 0) Code.skip)) (.seq (.region 6 (reg Try.f42 6) false) (.seq (.region 7 (reg Try.f42 7) false) (.cond (.tmp 38) (.seq (.region 8 (reg Try.f42 8) false) Code.ret) Code.skip)))))) (.region 9 (reg Try.f42 9) false))))
noncomputable def zD.code:Code:=(.seq (.region 0 (reg Try.f42 0) false) (.seq (.region 1 (reg Try.f42 1) false) (.seq (.seq (.region 2 (reg Try.f42 2) false) (.block 0 (.loop zD.jB))) (.seq (.region 10 (reg Try.f42 10) false) Code.ret))))
theorem zD.body:Try.f42.body=some zD.code:=by kernel_rfl
theorem zD.eta {T:List Value} (h:T.length=46):T=[T.getD 0 zh,T.getD 1 zh,T.getD 2 zh,T.getD 3 zh,T.getD 4 zh,T.getD 5 zh,T.getD 6 zh,T.getD 7 zh,T.getD 8 zh,T.getD 9 zh,T.getD 10 zh,T.getD 11 zh,T.getD 12 zh,T.getD 13 zh,T.getD 14 zh,T.getD 15 zh,T.getD 16 zh,T.getD 17 zh,T.getD 18 zh,T.getD 19 zh,T.getD 20 zh,T.getD 21 zh,T.getD 22 zh,T.getD 23 zh,T.getD 24 zh,T.getD 25 zh,T.getD 26 zh,T.getD 27 zh,T.getD 28 zh,T.getD 29 zh,T.getD 30 zh,T.getD 31 zh,T.getD 32 zh,T.getD 33 zh,T.getD 34 zh,T.getD 35 zh,T.getD 36 zh,T.getD 37 zh,T.getD 38 zh,T.getD 39 zh,T.getD 40 zh,T.getD 41 zh,T.getD 42 zh,T.getD 43 zh,T.getD 44 zh,T.getD 45 zh]:=(qw T 46 h).trans (by kernel_rfl)
theorem zD.list {T:List Value} (h:T.length=46):∃ P V Y Z x4 U Q R W X a b c d f g i k l m n o p q r s t u w x y z A B C D E F G H I J K L M N,T=[P,V,Y,Z,x4,U,Q,R,W,X,a,b,c,d,f,g,i,k,l,m,n,o,p,q,r,s,t,u,w,x,y,z,A,B,C,D,E,F,G,H,I,J,K,L,M,N]:=⟨_,_,_,_,_,_,_,_,_,_,_,_,_,_,_,_,_,_,_,_,_,_,_,_,_,_,_,_,_,_,_,_,_,_,_,_,_,_,_,_,_,_,_,_,_,_,zD.eta h⟩
variable (P V Y Z x4 U Q R W X a b c d f g i k l m n o p q r s t u w x y z A B C D E F G H I J K L M N:Value) (S:zx)
theorem zD.r0 :jy zi ⟨false,false,false⟩ (je zi O) (reg Try.f42 0) (reg Try.f42 0).toList ([P,V,Y,Z,x4,U,Q,R,W,X,a,b,c,d,f,g,i,k,l,m,n,o,p,q,r,s,t,u,w,x,y,z,A,B,C,D,E,F,G,H,I,J,K,L,M,N]) S =
  ( some ([P,V,Value.int IntKind.u64 0,Value.slice none 0 0,.int .i64 0,U,Q,R,W,X,a,b,c,d,f,g,i,k,l,m,n,o,p,q,r,s,t,u,w,x,y,z,A,B,C,D,E,F,G,H,I,J,K,L,M,N],S)):=by
 kernel_rfl
theorem zD.r1 :jy zi ⟨false,false,false⟩ (je zi O) (reg Try.f42 1) (reg Try.f42 1).toList ([P,V,Y,Z,x4,U,Q,R,W,X,a,b,c,d,f,g,i,k,l,m,n,o,p,q,r,s,t,u,w,x,y,z,A,B,C,D,E,F,G,H,I,J,K,L,M,N]) S =
  ( some ([P,V,Y,Z,x4,Value.int IntKind.u64 0,Q,R,W,X,a,b,c,d,f,g,i,k,l,m,n,o,p,q,r,s,t,u,w,x,y,z,A,B,C,D,E,F,G,H,I,J,K,L,M,N],S)):=by
 kernel_rfl
theorem zD.r2 :jy zi ⟨false,false,false⟩ (je zi O) (reg Try.f42 2) (reg Try.f42 2).toList ([P,V,Y,Z,x4,U,Q,R,W,X,a,b,c,d,f,g,i,k,l,m,n,o,p,q,r,s,t,u,w,x,y,z,A,B,C,D,E,F,G,H,I,J,K,L,M,N]) S =
  (zS (qO zi 26 (dem P) S) (fun v1 S1=>some ([P,V,Y,Z,x4,U,Q,R,dem P,v1,.int .i64 0,b,c,d,f,g,i,k,l,m,n,o,p,q,r,s,t,u,w,x,y,z,A,B,C,D,E,F,G,H,I,J,K,L,M,N],S1)) ()):=by
 kernel_rfl
theorem zD.r3 :jy zi ⟨false,false,false⟩ (je zi O) (reg Try.f42 3) (reg Try.f42 3).toList ([P,V,Y,Z,x4,U,Q,R,W,X,a,b,c,d,f,g,i,k,l,m,n,o,p,q,r,s,t,u,w,x,y,z,A,B,C,D,E,F,G,H,I,J,K,L,M,N]) S =
  (zS (wz zi BinOp.lss 3 a X S) (fun v0 S1=>some ([P,V,Y,Z,x4,U,Q,R,W,X,a,v0,c,d,f,g,i,k,l,m,n,o,p,q,r,s,t,u,w,x,y,z,A,B,C,D,E,F,G,H,I,J,K,L,M,N],S1)) ()):=by
 kernel_rfl
theorem zD.r4 :jy zi ⟨false,false,false⟩ (je zi O) (reg Try.f42 4) (reg Try.f42 4).toList ([P,V,Y,Z,x4,U,Q,R,W,X,a,b,c,d,f,g,i,k,l,m,n,o,p,q,r,s,t,u,w,x,y,z,A,B,C,D,E,F,G,H,I,J,K,L,M,N]) S =
  (zS (jv zi 26 W (dem a) S) (fun v1 S1=>zS (jA zi false 5 v1 S1) (fun v2 S2=>some ([P,V,Y,Z,x4,U,a,v2,W,X,dem a,b,dem a,v1,dem v2,g,i,k,l,m,n,o,p,q,r,s,t,u,w,x,y,z,A,B,C,D,E,F,G,H,I,J,K,L,M,N],S2)) ()) ()):=by
 kernel_rfl
theorem zD.r5 :jy zi ⟨false,false,false⟩ (je zi O) (reg Try.f42 5) (reg Try.f42 5).toList ([P,V,Y,Z,x4,U,Q,R,W,X,a,b,c,d,f,g,i,k,l,m,n,o,p,q,r,s,t,u,w,x,y,z,A,B,C,D,E,F,G,H,I,J,K,L,M,N]) S =
  (zS (wz zi BinOp.eql 3 (dem Q) (.int .i64 9) S) (fun v1 S1=>gdK (dem v1) true (ret R) S1 (fun v3 S2=>gdK (dem v1) true (wz zi BinOp.gtr 5 (dem v3) (Value.int IntKind.u8 1)) S2 (fun v4 S3=>zS (qY (dem v1) v4 (Value.bool false) S3) (fun v5 S4=>gdK (dem v5) false (ret Q) S4 (fun v7 S5=>gdK (dem v5) false (wz zi BinOp.gtr 3 (dem v7) (.int .i64 0)) S5 (fun v8 S6=>gdK (dem v5) false (ret v8) S6 (fun v9 S7=>gdK (dem v9) true (ret R) S7 (fun a0 S8=>gdK (dem v9) true (wz zi BinOp.eql 5 (dem a0) (Value.int IntKind.u8 0)) S8 (fun a1 S9=>gdK (dem v5) false (qY (dem v9) a1 (Value.bool false)) S9 (fun a2 a3=>zS (qY (dem v5) (Value.bool true) a2 a3) (fun a4 a5=>some ([P,V,Y,Z,x4,U,Q,R,W,X,a,b,c,d,f,dem Q,v1,dem v1,dem v3,v4,v5,dem v5,dem v7,v8,dem v9,dem a0,a1,a2,a4,x,y,z,A,B,C,D,E,F,G,H,I,J,K,L,M,N],a5)) ()) ()) ()) ()) ()) ()) ()) ()) ()) ()) ()):=by
 refine sP Try.f42 5 0 (v:=Q) ?_
 refine sD Try.f42 5 1 (fun v1 S1=>?_)
 refine sP Try.f42 5 2 (v:=v1) ?_
 refine sG Try.f42 5 3 (j:=2) (fun v3 S2=>?_)
 refine sG Try.f42 5 4 (j:=2) (fun v4 S3=>?_)
 refine sD Try.f42 5 5 (fun v5 S4=>?_)
 refine sP Try.f42 5 6 (v:=v5) ?_
 refine sG Try.f42 5 7 (j:=6) (fun v7 S5=>?_)
 refine sG Try.f42 5 8 (j:=6) (fun v8 S6=>?_)
 refine sG Try.f42 5 9 (j:=6) (fun v9 S7=>?_)
 refine sG Try.f42 5 10 (j:=9) (fun a0 S8=>?_)
 refine sG Try.f42 5 11 (j:=9) (fun a1 S9=>?_)
 refine sG Try.f42 5 12 (j:=6) (fun a2 a3=>?_)
 refine sD Try.f42 5 13 (fun a4 a5=>?_)
 kernel_rfl
theorem zD.r6 :jy zi ⟨false,false,false⟩ (je zi O) (reg Try.f42 6) (reg Try.f42 6).toList ([P,V,Y,Z,x4,U,Q,R,W,X,a,b,c,d,f,g,i,k,l,m,n,o,p,q,r,s,t,u,w,x,y,z,A,B,C,D,E,F,G,H,I,J,K,L,M,N]) S =
  (zS (wz zi BinOp.and 5 (dem R) (Value.int IntKind.u8 127) S) (fun v2 S1=>zS (wV zi false false 5 75 v2 S1) (fun v3 S2=>zS (wz zi BinOp.mul 3 (.int .i64 7) (dem Q) S2) (fun v5 S3=>zS (wz zi BinOp.shl 75 v3 v5 S3) (fun v6 S4=>zS (wz zi BinOp.or 75 (dem U) v6 S4) (fun v7 S5=>some ([P,V,Y,Z,x4,v7,Q,R,W,X,a,b,c,d,f,g,i,k,l,m,n,o,p,q,r,s,t,u,w,dem U,dem R,v2,v3,dem Q,v5,v6,dem v7,F,G,H,I,J,K,L,M,N],S5)) ()) ()) ()) ()) ()):=by
 kernel_rfl
theorem zD.r7 :jy zi ⟨false,false,false⟩ (je zi O) (reg Try.f42 7) (reg Try.f42 7).toList ([P,V,Y,Z,x4,U,Q,R,W,X,a,b,c,d,f,g,i,k,l,m,n,o,p,q,r,s,t,u,w,x,y,z,A,B,C,D,E,F,G,H,I,J,K,L,M,N]) S =
  (zS (wz zi BinOp.lss 5 (dem R) (Value.int IntKind.u8 128) S) (fun v1 S1=>some ([P,V,Y,Z,x4,U,Q,R,W,X,a,b,c,d,f,g,i,k,l,m,n,o,p,q,r,s,t,u,w,x,y,z,A,B,C,D,E,dem R,v1,H,I,J,K,L,M,N],S1)) ()):=by
 kernel_rfl
theorem zD.r8 :jy zi ⟨false,false,false⟩ (je zi O) (reg Try.f42 8) (reg Try.f42 8).toList ([P,V,Y,Z,x4,U,Q,R,W,X,a,b,c,d,f,g,i,k,l,m,n,o,p,q,r,s,t,u,w,x,y,z,A,B,C,D,E,F,G,H,I,J,K,L,M,N]) S =
  (zS (wz zi BinOp.add 3 (dem Q) (.int .i64 1) S) (fun v3 S1=>zS (wC zi false 26 (dem P) (some v3) none S1) (fun v4 S2=>zS ((je zi O) 43 [(dem v4)] S2) (fun v5 S3=>some ([P,V,U,v5,.int .i64 0,dem U,Q,R,W,X,a,b,c,d,f,g,i,k,l,m,n,o,p,q,r,s,t,u,w,x,y,z,A,B,C,D,E,F,G,dem U,dem P,dem Q,v3,v4,dem v5,N],S3)) ()) ()) ()):=by
 kernel_rfl
theorem zD.r9 :jy zi ⟨false,false,false⟩ (je zi O) (reg Try.f42 9) (reg Try.f42 9).toList ([P,V,Y,Z,x4,U,Q,R,W,X,a,b,c,d,f,g,i,k,l,m,n,o,p,q,r,s,t,u,w,x,y,z,A,B,C,D,E,F,G,H,I,J,K,L,M,N]) S =
  (zS (wz zi BinOp.add 3 a (.int .i64 1) S) (fun v0 S1=>some ([P,V,Y,Z,x4,U,Q,R,W,X,dem v0,b,c,d,f,g,i,k,l,m,n,o,p,q,r,s,t,u,w,x,y,z,A,B,C,D,E,F,G,H,I,J,K,L,M,v0],S1)) ()):=by
 kernel_rfl
theorem zD.r10 :jy zi ⟨false,false,false⟩ (je zi O) (reg Try.f42 10) (reg Try.f42 10).toList ([P,V,Y,Z,x4,U,Q,R,W,X,a,b,c,d,f,g,i,k,l,m,n,o,p,q,r,s,t,u,w,x,y,z,A,B,C,D,E,F,G,H,I,J,K,L,M,N]) S =
  ( some ([P,V,Value.int IntKind.u64 0,Value.slice none 0 0,.int .i64 11,U,Q,R,W,X,a,b,c,d,f,g,i,k,l,m,n,o,p,q,r,s,t,u,w,x,y,z,A,B,C,D,E,F,G,H,I,J,K,L,M,N],S)):=by
 kernel_rfl
theorem zD.runs {P:Value} {S S1:zx} {e:AEx} {T:List Value} (h:zG zi O false zD.code ([P,zh,zh,zh,zh,zh,zh,zh,zh,zh,zh,zh,zh,zh,zh,zh,zh,zh,zh,zh,zh,zh,zh,zh,zh,zh,zh,zh,zh,zh,zh,zh,zh,zh,zh,zh,zh,zh,zh,zh,zh,zh,zh,zh,zh,zh]) S=some (e,T,S1)) (he:e=.normal∨e=.ret)  (h0:jD (T.getD 2 zh)=true) (h1:jD (T.getD 3 zh)=true) (h2:jD (T.getD 4 zh)=true):je zi O 42 [P] S=some (Value.tuple #[T.getD 2 zh,T.getD 3 zh,T.getD 4 zh],S1) :=
 jY rfl rfl Try.func42 (by decide) zD.body (by exact h) he ((qB ((show zQ zi T S1 Try.f42.results.toList=zQ zi T S1 [(ResultVar.tmp 2),(ResultVar.tmp 3),(ResultVar.tmp 4)] from by kernel_rfl).trans (by simp only [zQ])) (by kernel_rfl) (by simp only [List.all_cons,List.all_nil,h0,h1,h2,Bool.and_true])).trans rfl)
end Go.Proofs.Ytblpnklfimkfoaa
namespace Go.Proofs.Ytblpnklfimkfoaa
open Go.Abs
abbrev jo.id:FuncId:=45
noncomputable def jo.jB:Code:=(.seq (.seq (.region 2 (reg Try.f45 2) false) (.cond (.tmp 5) Code.skip (.exit 0))) (.block 1 (.seq (.region 3 (reg Try.f45 3) false) (.region 4 (reg Try.f45 4) false))))
noncomputable def jo.code:Code:=(.seq (.region 0 (reg Try.f45 0) false) (.seq (.region 1 (reg Try.f45 1) false) (.seq (.block 0 (.loop jo.jB)) (.seq (.region 5 (reg Try.f45 5) false) Code.ret))))
theorem jo.body:Try.f45.body=some jo.code:=by kernel_rfl
theorem jo.eta {T:List Value} (h:T.length=19):T=[T.getD 0 zh,T.getD 1 zh,T.getD 2 zh,T.getD 3 zh,T.getD 4 zh,T.getD 5 zh,T.getD 6 zh,T.getD 7 zh,T.getD 8 zh,T.getD 9 zh,T.getD 10 zh,T.getD 11 zh,T.getD 12 zh,T.getD 13 zh,T.getD 14 zh,T.getD 15 zh,T.getD 16 zh,T.getD 17 zh,T.getD 18 zh]:=(qw T 19 h).trans (by kernel_rfl)
theorem jo.list {T:List Value} (h:T.length=19):∃ b o v n p q r s t u c d f g i j k l m,T=[b,o,v,n,p,q,r,s,t,u,c,d,f,g,i,j,k,l,m]:=⟨_,_,_,_,_,_,_,_,_,_,_,_,_,_,_,_,_,_,_,jo.eta h⟩
variable (b o v n p q r s t u c d f g i j k l m:Value) (S:zx)
theorem jo.r0 :jy zi ⟨false,false,false⟩ (je zi O) (reg Try.f45 0) (reg Try.f45 0).toList ([b,o,v,n,p,q,r,s,t,u,c,d,f,g,i,j,k,l,m]) S =
  ( some ([b,o,Value.slice none 0 0,n,p,q,r,s,t,u,c,d,f,g,i,j,k,l,m],S)):=by
 kernel_rfl
theorem jo.r1 :jy zi ⟨false,false,false⟩ (je zi O) (reg Try.f45 1) (reg Try.f45 1).toList ([b,o,v,n,p,q,r,s,t,u,c,d,f,g,i,j,k,l,m]) S =
  ( some ([b,o,v,Value.slice none 0 0,p,q,r,s,t,u,c,d,f,g,i,j,k,l,m],S)):=by
 kernel_rfl
theorem jo.r2 :jy zi ⟨false,false,false⟩ (je zi O) (reg Try.f45 2) (reg Try.f45 2).toList ([b,o,v,n,p,q,r,s,t,u,c,d,f,g,i,j,k,l,m]) S =
  (zS (wz zi BinOp.geq 75 (dem b) (Value.int IntKind.u64 128) S) (fun A w=>some ([b,o,v,n,dem b,A,r,s,t,u,c,d,f,g,i,j,k,l,m],w)) ()):=by
 kernel_rfl
theorem jo.r3 :jy zi ⟨false,false,false⟩ (je zi O) (reg Try.f45 3) (reg Try.f45 3).toList ([b,o,v,n,p,q,r,s,t,u,c,d,f,g,i,j,k,l,m]) S =
  (zS (wV zi false false 75 5 (dem b) S) (fun x w=>zS (wz zi BinOp.or 5 x (Value.int IntKind.u8 128) w) (fun y B=>zS (jh zi 26 1 [(0,y)] B) (fun z C=>zS (jF zi 26 26 n z C) (fun D E=>some ([b,o,v,D,p,q,dem n,dem b,x,y,z,dem D,f,g,i,j,k,l,m],E)) ()) ()) ()) ()):=by
 kernel_rfl
theorem jo.r4 :jy zi ⟨false,false,false⟩ (je zi O) (reg Try.f45 4) (reg Try.f45 4).toList ([b,o,v,n,p,q,r,s,t,u,c,d,f,g,i,j,k,l,m]) S =
  (zS (wz zi BinOp.shr 75 (dem b) (Value.int IntKind.u64 7) S) (fun A w=>some ([A,o,v,n,p,q,r,s,t,u,c,d,dem b,dem A,i,j,k,l,m],w)) ()):=by
 kernel_rfl
theorem jo.r5 :jy zi ⟨false,false,false⟩ (je zi O) (reg Try.f45 5) (reg Try.f45 5).toList ([b,o,v,n,p,q,r,s,t,u,c,d,f,g,i,j,k,l,m]) S =
  (zS (wV zi false false 75 5 (dem b) S) (fun x w=>zS (jh zi 26 1 [(0,x)] w) (fun y B=>zS (jF zi 26 26 n y B) (fun z C=>some ([b,o,z,dem n,p,q,r,s,t,u,c,d,f,g,dem n,dem b,x,y,dem z],C)) ()) ()) ()):=by
 kernel_rfl
theorem jo.runs {b:Value} {S w:zx} {e:AEx} {T:List Value} (h:zG zi O false jo.code ([b,zh,zh,zh,zh,zh,zh,zh,zh,zh,zh,zh,zh,zh,zh,zh,zh,zh,zh]) S=some (e,T,w)) (he:e=.normal∨e=.ret):je zi O 45 [b] S=some (T.getD 2 zh,w) :=
 jY rfl rfl Try.func45 (by decide) jo.body (by exact h) he (yM (a:=T.getD 2 zh) ((show zQ zi T w Try.f45.results.toList=zQ zi T w [(ResultVar.tmp 2)] from by kernel_rfl).trans (by simp only [zQ])) (by kernel_rfl))
end Go.Proofs.Ytblpnklfimkfoaa
namespace Go.Proofs.Ytblpnklfimkfoaa
open Go.Abs
def enc (n:Nat):List UInt8:=if n < 128 then [UInt8.ofNat n] else UInt8.ofNat (n % 128+128)::enc (n / 128)
termination_by n
decreasing_by omega
theorem kL {n:Nat} (h:n < 128):enc n=[UInt8.ofNat n]:=by rw [enc,if_pos h]
theorem JH {n:Nat} (h:¬ n < 128):enc n=UInt8.ofNat (n % 128+128)::enc (n / 128):=by rw [enc,if_neg h]
theorem wrap_u8 (n:Nat):IntKind.u8.wrap (n:Int)=((n % 256:Nat):Int):=by
 simp [IntKind.wrap,IntKind.bits,IntKind.signed]
theorem wrap_u64 (n:Nat):IntKind.u64.wrap (n:Int)=((n % 2 ^ 64:Nat):Int):=by
 simp [IntKind.wrap,IntKind.bits,IntKind.signed]
theorem agV:∀ m:Fin 256,orI .u8 (m.val:Int) 128=((m.val % 128+128:Nat):Int):=by decide +kernel
theorem aeS (n:Nat):orI .u8 (IntKind.u8.wrap (n:Int)) 128=((UInt8.ofNat (n % 128+128)).toNat:Int):=by
 rw [wrap_u8,agV ⟨n % 256,by omega⟩]
 simp only [UInt8.toNat_ofNat']
 omega
theorem afd {n:Nat}:IntKind.u8.wrap (n:Int)=((UInt8.ofNat n).toNat:Int):=by
 rw [wrap_u8]
 simp
theorem ahe (n:Nat):(n:Int).fdiv (2 ^ min (Int.toNat 7) (IntKind.bits .u64))=((n / 128:Nat):Int):=by
 have:(2:Int) ^ min (Int.toNat 7) (IntKind.bits .u64)=128:=by decide
 rw [this,Int.fdiv_eq_ediv_of_nonneg _ (by omega)]
 omega
theorem afy (k:Nat):∀ n,n < 128 ^ (k+1)→(enc n).length≤k+1:=by
 induction k with
 | zero=>intro n h;rw [kL (by omega)];simp
 | succ k ih =>
  intro n h
  by_cases hn:n < 128
  ·
   rw [kL hn];simp
  ·
   rw [JH hn]
   have:=ih (n / 128) (by rw [Nat.div_lt_iff_lt_mul (by omega)];exact h)
   simp only [List.length_cons];omega
theorem xE {n:Nat} (h:n < 2 ^ 64):(enc n).length≤10:=afy 9 n (Nat.lt_of_lt_of_le h (by decide))
theorem agx:sv 2 1 0 []=by_ 2 []:=rfl
theorem agq (x:UInt8):sv 2 1 1 [.int .u8 x.toNat]=by_ 2 [x]:=rfl
theorem aay {k:Nat} {l:List UInt8} {x:UInt8} {S:zx} (h:Okl k l) (hk:k≠1) (hl:l.length≤140737488355000):jF zi 26 26 (by_ k l) (by_ 2 [x]) S=some (by_ 2 (l++[x]),S):=by
 rw [qU h hk Okl.own (by simp;omega),if_neg (fun h=>by have:=h.2;simp at this)]
theorem jo.round:∀ (n:Nat) (l:List UInt8) (k:Nat) {T:List Value} {S:zx} {r:St},yH (zG zi O false jo.jB) T S=r→T.length=19→T.getD 0 zh=.int .u64 n→T.getD 3 zh=by_ k l →
  Okl k l→k≠1→n * 2 ^ l.length < 2 ^ 64→∃ T' l' k' n',r=some (.exit 0,T',S)∧T'.length=19∧T'.getD 0 zh=.int .u64 (n':Nat)∧T'.getD 3 zh=by_ k' l' ∧
   Okl k' l'∧k'≠1∧n' < 128∧l'++[UInt8.ofNat n']=l++enc n:=by
 intro n
 induction n using Nat.strongRecOn with
 | _ n ih =>
  intro l k T S r hL hT h0 h3 hs hk hl
  obtain ⟨x0,x1,x2,x3,x4,x5,x6,x7,x8,x9,x10,x11,x12,x13,x14,x15,x16,x17,x18,hTe⟩:=jo.list hT
  rw [hTe] at h0 h3
  simp only [List.getD_cons_succ,List.getD_cons_zero] at h0 h3
  subst h0 h3
  have hr:zG zi O false jo.jB T S=zG zi O false jo.jB T S:=rfl
  by_cases hlt:n < 128
  ·
   have hd:decide ((128:Int)≤(n:Int))=false:=by simp;omega
   conv at hr =>
    rhs
    rw [hTe]
    simp only [jo.jB,zSs,reduceIte,zk,zn,zo,zq,jo.r2,hd]
   exact ⟨_,l,k,n,hL.symm.trans (jE hr (by simp)),rfl,rfl,rfl,hs,hk,hlt,by rw [kL hlt]⟩
  ·
   have hd:decide ((128:Int)≤(n:Int))=true:=by simp;omega
   have hll:l.length < 64:=by
    have:2 ^ l.length < 2 ^ 64:=Nat.lt_of_le_of_lt (Nat.le_mul_of_pos_left _ (by omega)) hl
    exact (Nat.pow_lt_pow_iff_right (by omega)).1 this
   have e1:∀ x S,jF zi 26 26 (by_ k l) (by_ 2 [x]) S=some (by_ 2 (l++[x]),S):=fun x S=>aay hs hk (by omega)
   conv at hr =>
    rhs
    rw [hTe]
    simp only [jo.jB,zSs,reduceIte,zk,zn,zo,zq,jo.r2,hd,jo.r3,xG,aci,aeS,Jg,agq,e1,jo.r4,adb _ _ _ _ (show (0:Int)≤7 by omega),ahe]
   have hmul:n / 128 * 2 ^ (l.length+1) < 2 ^ 64:=by
    refine Nat.lt_of_le_of_lt ?_ hl
    rw [Nat.pow_succ,Nat.mul_comm (2 ^ l.length) 2,← Nat.mul_assoc]
    exact Nat.mul_le_mul_right _ (by omega)
   obtain ⟨T',l',k',n',g1,g2,g3,g4,g5,g6,g7,g8⟩:=ih (n / 128) (by omega) _ 2 ((wH hr).symm.trans hL) rfl rfl rfl Okl.own (by decide) (by simpa using hmul)
   refine ⟨T',l',k',n',g1,g2,g3,g4,g5,g6,g7,?_⟩
   rw [g8,JH hlt,List.append_assoc];rfl
theorem jo.v (n:Nat) (hn:n < 2 ^ 64) (S:zx):je zi O jo.id [.int .u64 n] S=some (by_ 2 (enc n),S):=by
 obtain ⟨T,hTe⟩:∃ T,T=(.int .u64 n::zh::zh::zh::zh::zh::zh::zh::zh::zh::zh::zh::zh::zh::zh::zh::zh::zh::zh::[]):=⟨_,rfl⟩
 have hr:zG zi O false jo.code T S=zG zi O false jo.code T S:=rfl
 conv at hr =>
  rhs
  rw [hTe]
  simp only [jo.code,zSs,reduceIte,zk,zn,zo,zq,jo.r0,jo.r1]
 generalize hL:yH (zG zi O false jo.jB) _ _=r at hr
 obtain ⟨T',l',k',n',rfl,g2,g3,g4,g5,g6,g7,g8⟩:=jo.round n [] 0 hL rfl rfl rfl Okl.none (by decide) (by simpa using hn)
 obtain ⟨x0,x1,x2,x3,x4,x5,x6,x7,x8,x9,x10,x11,x12,x13,x14,x15,x16,x17,x18,hT'⟩:=jo.list g2
 rw [hT'] at g3 g4
 simp only [List.getD_cons_succ,List.getD_cons_zero] at g3 g4
 subst g3 g4
 have hlen:l'.length+1=(enc n).length:=by simpa using congrArg List.length g8
 have h10:=xE hn
 have e1:∀ x S,jF zi 26 26 (by_ k' l') (by_ 2 [x]) S=some (by_ 2 (l'++[x]),S):=fun x S=>aay g5 g6 (by omega)
 conv at hr =>
  rhs
  rw [hT']
  simp only [zSs,reduceIte,zk,zn,zo,zq,jo.r5,xG,afd,Jg,agq,e1]
 rw [hTe] at hr
 have:=jo.runs hr (.inr rfl)
 rw [List.nil_append] at g8
 rw [← g8]
 exact this
end Go.Proofs.Ytblpnklfimkfoaa
namespace Go.Proofs.Ytblpnklfimkfoaa
open Go.Abs
theorem slices_Clone.v {k:Nat} {l:List UInt8} (h:Okl k l) (hk:k≠2) (hl:l.length≤140737488355328) (S:zx):je zi O slices_Clone.id [by_ k l] S=some (by_ (if k=0 then 0 else 2) l,S):=by
 obtain ⟨T,hTe⟩:∃ T,T=(by_ k l::zh::zh::zh::zh::zh::zh::zh::[]):=⟨_,rfl⟩
 have hr:zG zi O false slices_Clone.code T S=zG zi O false slices_Clone.code T S:=rfl
 conv at hr =>
  rhs
  rw [hTe]
  simp only [slices_Clone.code,zSs,reduceIte,zk,zn,zo,zq,slices_Clone.r0,slices_Clone.r1,if_neg hk,acH h]
 by_cases h0:k=0
 ·
  have hl0:=h.nil h0
  subst h0 hl0
  conv at hr =>
   rhs
   simp only [decide_true,zSs,reduceIte,zk,zn,zo,zq,slices_Clone.r2]
  rw [hTe] at hr
  exact slices_Clone.runs hr (.inr rfl)
 ·
  have e1:∀ S,jF zi 26 26 (by_ 2 []) (by_ k l) S=some (by_ 2 l,S):=fun S=>by
   rw [qU Okl.own (by decide) h (by simpa using hl)];rfl
  conv at hr =>
   rhs
   simp only [h0,decide_false,zSs,reduceIte,zk,zn,zo,zq,slices_Clone.r3,xM,agx,if_neg hk,e1]
  rw [hTe] at hr
  rw [if_neg h0]
  exact slices_Clone.runs hr (.inr rfl)
def scan:Nat→Nat→List UInt8→Option (Nat×List UInt8)
 | _,_,[]=>none
 | i,acc,x::r=>if (i=9∧1 < x.toNat)∨(0 < i∧x.toNat=0) then none else if x.toNat < 128 then some (acc+x.toNat * 128 ^ i,r) else scan (i+1) (acc+(x.toNat - 128) * 128 ^ i) r
def Vx (l:List UInt8):Value :=
 match scan 0 0 l with
 | none=>.tuple #[.int .u64 0,.slice none 0 0,.int .i64 11]
 | some (m,rest)=>.tuple #[.int .u64 (m:Nat),by_ 2 rest,.int .i64 0]
theorem zD.stop (x0 x1 x2 x3 x4 x5 x6 x7 x8 x9 x10 x11 x12 x13 x14 x15 x16 x17 x18 x19 x20 x21 x22 x23 x24 x25 x26 x27 x28 x29 x30 x31 x32 x33 x34 x35 x36 x37 x38 x39 x40 x41 x42 x43 x44 x45:Value) (i x:Int) (S:zx) (h6:x6=.int .i64 i) (h7:x7=.int .u8 x):∃ y15 y16 y17 y18 y19 y20 y21 y22 y23 y24 y25 y26 y27,jy zi ⟨false,false,false⟩ (je zi O) (reg Try.f42 5) (reg Try.f42 5).toList (x0::x1::x2::x3::x4::x5::x6::x7::x8::x9::x10::x11::x12::x13::x14::x15::x16::x17::x18::x19::x20::x21::x22::x23::x24::x25::x26::x27::x28::x29::x30::x31::x32::x33::x34::x35::x36::x37::x38::x39::x40::x41::x42::x43::x44::x45::[]) S =
  some ((x0::x1::x2::x3::x4::x5::x6::x7::x8::x9::x10::x11::x12::x13::x14::y15::y16::y17::y18::y19::y20::y21::y22::y23::y24::y25::y26::y27::.bool (decide ((i=9∧1 < x)∨(0 < i∧x=0)))::x29::x30::x31::x32::x33::x34::x35::x36::x37::x38::x39::x40::x41::x42::x43::x44::x45::[]),S):=by
 subst h6 h7
 rw [zD.r5]
 simp only [zSs,reduceIte,zk,zn,zo,zq]
 rcases Bool.eq_false_or_eq_true (decide (i=9)) with d1 | d1 <;> rcases Bool.eq_false_or_eq_true (decide (1 < x)) with d2 | d2 <;> rcases Bool.eq_false_or_eq_true (decide (0 < i)) with d3 | d3 <;> rcases Bool.eq_false_or_eq_true (decide (x=0)) with d4 | d4 <;>
  simp only [d1,d2,d3,d4,zSs,reduceIte,zk,zn,zo,zq] <;> simp only [decide_eq_true_eq,decide_eq_false_iff_not] at d1 d2 d3 d4 <;>
  simp only [d1,d2,d3,d4,true_and,false_and,and_true,and_false,or_true,true_or,or_false,false_or,decide_true,decide_false,not_true,not_false_iff,zo,zn,and_self,or_self] <;> first | exact ⟨_,_,_,_,_,_,_,_,_,_,_,_,_,rfl⟩ | omega
theorem agB:∀ m:Fin 256,agM .u8 (m.val:Int) 127=((m.val % 128:Nat):Int):=by decide +kernel
theorem acD (x:UInt8):agM .u8 (x.toNat:Int) 127=((x.toNat % 128:Nat):Int):=agB ⟨x.toNat,x.toNat_lt⟩
theorem kH {n:Nat} (h:n < 2 ^ 64):IntKind.u64.wrap (n:Int)=(n:Int):=by
 rw [wrap_u64,Nat.mod_eq_of_lt h]
theorem aeV {a c i:Nat} (ha:a < 2 ^ i) (h:c * 2 ^ i < 2 ^ 64) (h2:a < 2 ^ 64):orI .u64 (a:Int) ((c * 2 ^ i:Nat):Int)=((a+c * 2 ^ i:Nat):Int):=by
 have hor:a ||| c * 2 ^ i=a+c * 2 ^ i:=by
  have:=Nat.shiftLeft_add_eq_or_of_lt ha c
  rw [Nat.shiftLeft_eq] at this
  rw [Nat.or_comm,← this,Nat.add_comm]
 have hlt:a ||| c * 2 ^ i < 2 ^ 64:=Nat.or_lt_two_pow h2 h
 unfold orI
 rw [BitVec.ofInt_natCast,BitVec.ofInt_natCast,BitVec.toNat_or,BitVec.toNat_ofNat,BitVec.toNat_ofNat]
 rw [show IntKind.bits .u64=64 from rfl,Nat.mod_eq_of_lt h2,Nat.mod_eq_of_lt h,kH hlt,hor]
theorem ahf {c i:Nat} (hi:i≤9) (h:c * 128 ^ i < 2 ^ 64):IntKind.u64.wrap ((c:Int) * 2 ^ (min (Int.toNat (7 * (i:Int))) (IntKind.bits .u64)))=((c * 2 ^ (7 * i):Nat):Int):=by
 have e1:min (Int.toNat (7 * (i:Int))) (IntKind.bits .u64)=7 * i:=by
  rw [show IntKind.bits .u64=64 from rfl];omega
 have e2:(128:Nat) ^ i=2 ^ (7 * i):=by rw [Nat.pow_mul]
 rw [e1,show (c:Int) * 2 ^ (7 * i)=((c * 2 ^ (7 * i):Nat):Int) by simp,kH (by rw [← e2];exact h)]
theorem adD {l pre suf:List UInt8} {x:UInt8} (hl:l=pre++x::suf):(l.drop ((pre.length:Int)+1).toNat).take ((l.length:Int).toNat - ((pre.length:Int)+1).toNat)=suf:=by
 rw [show ((pre.length:Int)+1).toNat=pre.length+1 by omega,show (l.length:Int).toNat=l.length by omega,hl]
 rw [show pre++x::suf=(pre++[x])++suf by simp,show pre.length+1=(pre++[x]).length by simp,List.drop_left]
 rw [List.take_of_length_le];simp;omega
theorem zD.round {k:Nat} {l:List UInt8} (hv:Okl k l) (hk:k≠2) (hlen:l.length≤140737488355328) {S:zx}:∀ (suf pre:List UInt8) (acc:Nat) {T:List Value} {r:St},yH (zG zi O false zD.jB) T S=r→T.length=46 →
  T.getD 0 zh=by_ k l→T.getD 8 zh=by_ k l→T.getD 9 zh=.int .i64 l.length→T.getD 10 zh=.int .i64 pre.length→T.getD 5 zh=.int .u64 acc→l=pre++suf→acc < 128 ^ pre.length→pre.length≤9 →
  ∃ e T',r=some (e,T',S)∧match scan pre.length acc suf with
   | none=>e=.exit 0∧T'.length=46
   | some (m,rest)=>e=.ret∧m < 2 ^ 64∧T'.getD 2 zh=.int .u64 m∧T'.getD 3 zh=by_ 2 rest∧T'.getD 4 zh=.int .i64 0:=by
 intro suf
 induction suf with
 | nil =>
  intro pre acc T r hL hT h0 h8 h9 h10 h5 hl hacc hpre
  obtain ⟨x0,x1,x2,x3,x4,x5,x6,x7,x8,x9,x10,x11,x12,x13,x14,x15,x16,x17,x18,x19,x20,x21,x22,x23,x24,x25,x26,x27,x28,x29,x30,x31,x32,x33,x34,x35,x36,x37,x38,x39,x40,x41,x42,x43,x44,x45,hTe⟩:=zD.list hT
  rw [hTe] at h0 h8 h9 h10 h5
  simp only [List.getD_cons_succ,List.getD_cons_zero] at h0 h8 h9 h10 h5
  subst h0 h8 h9 h10 h5
  have hr:zG zi O false zD.jB T S=zG zi O false zD.jB T S:=rfl
  have hd:decide ((pre.length:Int) < (l.length:Int))=false:=by rw [hl];simp
  conv at hr =>
   rhs
   rw [hTe]
   simp only [zD.jB,zSs,reduceIte,zk,zn,zo,zq,zD.r3,hd]
  exact ⟨_,_,hL.symm.trans (jE hr (by simp)),rfl,rfl⟩
 | cons x suf ih =>
  intro pre acc T r hL hT h0 h8 h9 h10 h5 hl hacc hpre
  obtain ⟨x0,x1,x2,x3,x4,x5,x6,x7,x8,x9,x10,x11,x12,x13,x14,x15,x16,x17,x18,x19,x20,x21,x22,x23,x24,x25,x26,x27,x28,x29,x30,x31,x32,x33,x34,x35,x36,x37,x38,x39,x40,x41,x42,x43,x44,x45,hTe⟩:=zD.list hT
  rw [hTe] at h0 h8 h9 h10 h5
  simp only [List.getD_cons_succ,List.getD_cons_zero] at h0 h8 h9 h10 h5
  subst h0 h8 h9 h10 h5
  have hr:zG zi O false zD.jB T S=zG zi O false zD.jB T S:=rfl
  have hlt:(pre.length:Int) < (l.length:Int):=by rw [hl];simp;omega
  have hd:decide ((pre.length:Int) < (l.length:Int))=true:=by simpa using hlt
  have k0:k≠0:=fun h=>by have:=hv.nil h;rw [this] at hl;simp at hl
  have e1:∀ S,jv zi 26 (by_ k l) (.int .i64 pre.length) S=some (EP [.int .u8 x.toNat],S):=fun S=>by
   rw [agQ hv (by omega) hlt];rw [aeF hl]
  obtain ⟨y15,y16,y17,y18,y19,y20,y21,y22,y23,y24,y25,y26,y27,e3⟩:=zD.stop (by_ k l) x1 x2 x3 x4 (.int .u64 acc) (.int .i64 pre.length) (.int .u8 x.toNat) (by_ k l) (.int .i64 l.length) (.int .i64 pre.length) (.bool true) (.int .i64 pre.length) (EP [.int .u8 x.toNat]) (.int .u8 x.toNat) x15 x16 x17 x18 x19 x20 x21 x22 x23 x24 x25 x26 x27 x28 x29 x30 x31 x32 x33 x34 x35 x36 x37 x38 x39 x40 x41 x42 x43 x44 x45 (pre.length:Int) (x.toNat:Int) S rfl rfl
  conv at hr =>
   rhs
   rw [hTe]
   simp only [zD.jB,zSs,reduceIte,zk,zn,zo,zq,zD.r3,hd,zD.r4,e1,aeZ,if_neg hk,e3]
  have hst:((pre.length:Int)=9∧1 < (x.toNat:Int)∨0 < (pre.length:Int)∧(x.toNat:Int)=0) ↔ ((pre.length=9∧1 < x.toNat)∨(0 < pre.length∧x.toNat=0)):=by omega
  by_cases hs:(pre.length=9∧1 < x.toNat)∨(0 < pre.length∧x.toNat=0)
  ·
   have hs2:=decide_eq_true (hst.2 hs)
   conv at hr =>
    rhs
    simp only [hs2,zSs,reduceIte,zk,zn,zo,zq]
   refine ⟨_,_,hL.symm.trans (jE hr (by simp)),?_⟩
   rw [scan,if_pos hs]
   exact ⟨rfl,rfl⟩
  ·
   have hs2:=decide_eq_false (fun h=>hs (hst.1 h))
   have hx256:=x.toNat_lt
   have hpw:128 ^ pre.length≤128 ^ 9:=Nat.pow_le_pow_right (by omega) hpre
   have hc64:x.toNat % 128 * 128 ^ pre.length < 2 ^ 64:=by
    by_cases h9:pre.length=9
    ·
     rw [h9];have:x.toNat % 128≤1:=by omega
     exact Nat.lt_of_le_of_lt (Nat.mul_le_mul_right _ this) (by decide)
    ·
     have h8:128 ^ pre.length≤128 ^ 8:=Nat.pow_le_pow_right (by omega) (by omega)
     exact Nat.lt_of_le_of_lt (Nat.mul_le_mul (by omega:x.toNat % 128≤127) h8) (by decide)
   have hm:IntKind.i64.wrap (7 * (pre.length:Int))=7 * (pre.length:Int):=wrap_i64 (by omega) (by omega)
   have e128:(128:Nat) ^ pre.length=2 ^ (7 * pre.length):=by rw [Nat.pow_mul]
   have hor:=aeV (a:=acc) (c:=x.toNat % 128) (i:=7 * pre.length) (by rw [← e128];exact hacc) (by rw [← e128];exact hc64) (Nat.lt_of_lt_of_le hacc (Nat.le_trans hpw (by decide)))
   conv at hr =>
    rhs
    simp only [hs2,zSs,reduceIte,zk,zn,zo,zq,zD.r6,adq,acD,JV,kH (show x.toNat % 128 < 2 ^ 64 by omega),hm,adF _ _ _ _ (show (0:Int)≤7 * (pre.length:Int) by omega),ahf hpre hc64,aci,hor,zD.r7]
   rw [← e128] at hr
   have hadd:acc+x.toNat % 128 * 128 ^ pre.length < 128 ^ (pre.length+1):=by
    rw [Nat.pow_succ]
    have:x.toNat % 128 * 128 ^ pre.length≤127 * 128 ^ pre.length:=Nat.mul_le_mul_right _ (by omega)
    omega
   have hi1:IntKind.i64.wrap ((pre.length:Int)+1)=(pre.length:Int)+1:=wrap_i64 (by omega) (by omega)
   by_cases hxs:x.toNat < 128
   ·
    have hd2:decide ((x.toNat:Int) < 128)=true:=by simp;omega
    have e4:∀ S,y5 zi 26 (by_ k l) (some (.int .i64 ((pre.length:Int)+1))) none S=some (by_ k suf,S):=fun S=>by
     rw [Zw hv (lo:=some (.int .i64 ((pre.length:Int)+1))) (hi:=none) (i:=(pre.length:Int)+1) (j:=l.length) rfl rfl (by omega) (by omega) (by omega),adD hl,if_neg hk]
    have ok2:Okl k suf:=⟨hv.le,fun h=>absurd h k0⟩
    have e5:∀ S,je zi O slices_Clone.id [by_ k suf] S=some (by_ 2 suf,S):=fun S=>by
     rw [slices_Clone.v ok2 hk (by have:=congrArg List.length hl;simp at this;omega),if_neg k0]
    conv at hr =>
     rhs
     simp only [hd2,zSs,reduceIte,zk,zn,zo,zq,zD.r8,hi1,if_neg hk,e4,e5]
    refine ⟨_,_,hL.symm.trans (jE hr (by simp)),?_⟩
    rw [scan,if_neg hs,if_pos hxs]
    have hxm:x.toNat % 128=x.toNat:=by omega
    rw [hxm]
    refine ⟨rfl,?_,rfl,rfl,rfl⟩
    rw [hxm] at hadd
    by_cases h9:pre.length=9
    ·
     rw [h9] at hacc ⊢
     have:x.toNat≤1:=by omega
     have h1:x.toNat * 128 ^ 9≤1 * 128 ^ 9:=Nat.mul_le_mul_right _ this
     have h2:(128:Nat) ^ 9+1 * 128 ^ 9=2 ^ 64:=by decide
     omega
    ·
     have h8:128 ^ (pre.length+1)≤128 ^ 9:=Nat.pow_le_pow_right (by omega) (by omega)
     exact Nat.lt_of_lt_of_le hadd (Nat.le_trans h8 (by decide))
   ·
    have hd2:decide ((x.toNat:Int) < 128)=false:=by simp;omega
    conv at hr =>
     rhs
     simp only [hd2,zSs,reduceIte,zk,zn,zo,zq,zD.r9,hi1]
    obtain ⟨e,T',g1,g3⟩:=ih (pre++[x]) (acc+x.toNat % 128 * 128 ^ pre.length) ((wH hr).symm.trans hL) rfl rfl rfl rfl (by simp) rfl (by simp [hl]) (by simpa using hadd) (by simp;omega)
    refine ⟨e,T',g1,?_⟩
    rw [scan,if_neg hs,if_neg hxs]
    have hxm:x.toNat % 128=x.toNat - 128:=by omega
    rw [hxm] at g3
    simpa using g3
theorem zD.v {k:Nat} {l:List UInt8} (hv:Okl k l) (hk:k≠2) (hlen:l.length≤140737488355328) (S:zx):je zi O zD.id [by_ k l] S=some (Vx l,S):=by
 obtain ⟨T,hTe⟩:∃ T,T=(by_ k l::zh::zh::zh::zh::zh::zh::zh::zh::zh::zh::zh::zh::zh::zh::zh::zh::zh::zh::zh::zh::zh::zh::zh::zh::zh::zh::zh::zh::zh::zh::zh::zh::zh::zh::zh::zh::zh::zh::zh::zh::zh::zh::zh::zh::zh::[]):=⟨_,rfl⟩
 have hr:zG zi O false zD.code T S=zG zi O false zD.code T S:=rfl
 conv at hr =>
  rhs
  rw [hTe]
  simp only [zD.code,zSs,reduceIte,zk,zn,zo,zq,zD.r0,zD.r1,zD.r2,if_neg hk,qp hv]
 generalize hL:yH (zG zi O false zD.jB) _ _=r at hr
 obtain ⟨e,T',rfl,g3⟩:=zD.round hv hk hlen l [] 0 hL rfl rfl rfl rfl rfl rfl rfl (by simp) (by simp)
 simp only [List.length_nil] at g3
 unfold Vx
 cases hsc:scan 0 0 l with
 | none =>
  rw [hsc] at g3
  obtain ⟨rfl,hT'⟩:=g3
  obtain ⟨x0,x1,x2,x3,x4,x5,x6,x7,x8,x9,x10,x11,x12,x13,x14,x15,x16,x17,x18,x19,x20,x21,x22,x23,x24,x25,x26,x27,x28,x29,x30,x31,x32,x33,x34,x35,x36,x37,x38,x39,x40,x41,x42,x43,x44,x45,hTe'⟩:=zD.list hT'
  conv at hr =>
   rhs
   rw [hTe']
   simp only [zSs,reduceIte,zk,zn,zo,zq,zD.r10]
  rw [hTe] at hr
  exact zD.runs hr (.inr rfl) rfl rfl rfl
 | some mr =>
  obtain ⟨m,rest⟩:=mr
  rw [hsc] at g3
  obtain ⟨rfl,hm,h2,h3,h4⟩:=g3
  conv at hr =>
   rhs
   simp only [zSs,reduceIte,zk,zn,zo,zq]
  rw [hTe] at hr
  have hrun:=zD.runs hr (.inr rfl) (by rw [h2];rfl) (by rw [h3];exact jg) (by rw [h4];rfl)
  rw [h2,h3,h4] at hrun
  exact hrun
theorem Xo:∀ (suf:List UInt8) (i acc:Nat),acc < 128 ^ i→i≤9→∀ m rest,scan i acc suf=some (m,rest)→m < 2 ^ 64∧rest.length < suf.length:=by
 intro suf
 induction suf with
 | nil=>intro i acc _ _ m rest h;cases h
 | cons x suf ih =>
  intro i acc hacc hi m rest h
  rw [scan] at h
  have hx256:=x.toNat_lt
  split at h
  ·
   cases h
  ·
   rename_i hs
   split at h
   ·
    rename_i hx
    cases h
    refine ⟨?_,by simp⟩
    by_cases h9:i=9
    ·
     subst h9
     have:x.toNat≤1:=by omega
     have h1:x.toNat * 128 ^ 9≤1 * 128 ^ 9:=Nat.mul_le_mul_right _ this
     have h2:(128:Nat) ^ 9+1 * 128 ^ 9=2 ^ 64:=by decide
     omega
    ·
     have h8:128 ^ (i+1)≤128 ^ 9:=Nat.pow_le_pow_right (by omega) (by omega)
     have h3:acc+x.toNat * 128 ^ i < 128 ^ (i+1):=by
      rw [Nat.pow_succ]
      have:x.toNat * 128 ^ i≤127 * 128 ^ i:=Nat.mul_le_mul_right _ (by omega)
      omega
     exact Nat.lt_of_lt_of_le h3 (Nat.le_trans h8 (by decide))
   ·
    rename_i hx
    have h9:i≠9:=by omega
    have hadd:acc+(x.toNat - 128) * 128 ^ i < 128 ^ (i+1):=by
     rw [Nat.pow_succ]
     have:(x.toNat - 128) * 128 ^ i≤127 * 128 ^ i:=Nat.mul_le_mul_right _ (by omega)
     omega
    obtain ⟨h1,h2⟩:=ih (i+1) _ hadd (by omega) m rest h
    exact ⟨h1,by simp;omega⟩
end Go.Proofs.Ytblpnklfimkfoaa
namespace Go.Proofs.Ytblpnklfimkfoaa
open Go.Abs
theorem Xp (n:Nat):0 < (enc n).length:=by
 by_cases h:n < 128
 ·
  rw [kL h];simp
 ·
  rw [JH h];simp
section
variable {k:Nat} {l:List UInt8} {S:zx}
end
end Go.Proofs.Ytblpnklfimkfoaa
namespace Go.Proofs.Ytblpnklfimkfoaa
open Go.Abs
def Qr (l:List UInt8):List UInt8:=enc l.length++l
def acK (l:List UInt8):Value:=if 4096 < l.length then .tuple #[.slice none 0 0,.int .i64 11] else .tuple #[by_ 2 (Qr l),.int .i64 0]
def WJ (l:List UInt8):Option (List UInt8×List UInt8) :=
 match scan 0 0 l with
 | some (m,rest)=>if m≤4096∧m≤rest.length then some (rest.take m,rest.drop m) else none
 | none=>none
def X7 (k:Nat) (l:List UInt8):Value :=
 match WJ l with
 | some (a,b)=>.tuple #[by_ k a,by_ k b,.int .i64 0]
 | none=>.tuple #[.slice none 0 0,.slice none 0 0,.int .i64 11]
section
variable {k:Nat} {l:List UInt8}
theorem jH.v (hv:Okl k l) (hk:k≠2) (S:zx):je zi O jH.id [by_ k l] S=some (acK l,S):=by
 obtain ⟨T,hTe⟩:∃ T,T=(by_ k l::zh::zh::zh::zh::zh::zh::zh::zh::zh::zh::zh::zh::[]):=⟨_,rfl⟩
 have hr:zG zi O false jH.code T S=zG zi O false jH.code T S:=rfl
 conv at hr =>
  rhs
  rw [hTe]
  simp only [jH.code,zSs,reduceIte,zk,zn,zo,zq,jH.r0,jH.r1,if_neg hk,qp hv,goInt]
 unfold acK
 by_cases hl:4096 < l.length
 ·
  have hd:decide ((4096:Int) < (l.length:Int))=true:=by rw [decide_eq_true_eq];omega
  conv at hr =>
   rhs
   simp only [hd,zSs,reduceIte,zk,zn,zo,zq,jH.r2]
  rw [hTe] at hr
  rw [if_pos hl]
  exact jH.runs hr (.inr rfl) (by simp only [List.getD_cons_succ,List.getD_cons_zero,jg,jc,zO,zX,jd]) (by simp only [List.getD_cons_succ,List.getD_cons_zero,jg,jc,zO,zX,jd])
 ·
  have hd:decide ((4096:Int) < (l.length:Int))=false:=by rw [decide_eq_false_iff_not];omega
  have h10:=xE (n:=l.length) (by omega)
  have hp:=Xp l.length
  have e1:∀ S,jF zi 26 26 (by_ 2 (enc l.length)) (by_ k l) S=some (by_ 2 (Qr l),S):=fun S=>by
   rw [qU Okl.own (by decide) hv (by omega)];rfl
  conv at hr =>
   rhs
   simp only [hd,zSs,reduceIte,zk,zn,zo,zq,jH.r3,if_neg hk,qp hv,goInt,qM,kH (show l.length < 2 ^ 64 by omega),jo.v _ (show l.length < 2 ^ 64 by omega),e1]
  rw [hTe] at hr
  rw [if_neg hl]
  exact jH.runs hr (.inr rfl) (by simp only [List.getD_cons_succ,List.getD_cons_zero,jg,jc,zO,zX,jd]) (by simp only [List.getD_cons_succ,List.getD_cons_zero,jg,jc,zO,zX,jd])
theorem zM.v (hv:Okl k l) (hk:k≠2) (hlen:l.length≤140737488355328) (S:zx):je zi O zM.id [by_ k l] S=some (X7 2 l,S):=by
 obtain ⟨T,hTe⟩:∃ T,T=(by_ k l::zh::zh::zh::zh::zh::zh::zh::zh::zh::zh::zh::zh::zh::zh::zh::zh::zh::zh::zh::zh::zh::zh::zh::zh::zh::zh::zh::zh::zh::zh::zh::zh::zh::zh::[]):=⟨_,rfl⟩
 have hr:zG zi O false zM.code T S=zG zi O false zM.code T S:=rfl
 have e1:∀ S,je zi O 42 [by_ k l] S=some (Vx l,S):=zD.v hv hk hlen
 conv at hr =>
  rhs
  rw [hTe]
  simp only [zM.code,zSs,reduceIte,zk,zn,zo,zq,zM.r0,zM.r1,if_neg hk,e1]
 unfold X7 WJ
 unfold Vx at hr
 cases hsc:scan 0 0 l with
 | none =>
  rw [hsc] at hr
  have d1:decide ((11:Int)=0)=false:=by decide
  conv at hr =>
   rhs
   simp only [zSs,reduceIte,zk,zn,zo,zq,zM.r2,d1,zM.r3]
  rw [hTe] at hr
  exact zM.runs hr (.inr rfl) (by simp only [List.getD_cons_succ,List.getD_cons_zero,jg,jc,zO,zX,jd]) (by simp only [List.getD_cons_succ,List.getD_cons_zero,jg,jc,zO,zX,jd]) (by simp only [List.getD_cons_succ,List.getD_cons_zero,jg,jc,zO,zX,jd])
 | some mr =>
  obtain ⟨m,rest⟩:=mr
  obtain ⟨hm,hrl⟩:=Xo l 0 0 (by decide) (by omega) m rest hsc
  rw [hsc] at hr
  have d1:decide ((0:Int)=0)=true:=by decide
  dsimp only
  by_cases h1:m≤4096
  ·
   have d2:decide ((4096:Int) < (m:Int))=false:=by rw [decide_eq_false_iff_not];omega
   by_cases h2:m≤rest.length
   ·
    have d3:decide ((rest.length:Int) < (m:Int))=false:=by rw [decide_eq_false_iff_not];omega
    have s1:∀ S,y5 zi 26 (by_ 1 rest) none (some (.int .u64 m)) S=some (by_ 1 (rest.take m),S):=fun S=>by
     rw [Zw Okl.read (lo:=none) (hi:=some (.int .u64 m)) (i:=0) (j:=m) rfl rfl (by omega) (by omega) (by omega)];simp
    have s2:∀ S,y5 zi 26 (by_ 1 rest) (some (.int .u64 m)) none S=some (by_ 1 (rest.drop m),S):=fun S=>by
     rw [Zw Okl.read (lo:=some (.int .u64 m)) (hi:=none) (i:=m) (j:=rest.length) rfl rfl (by omega) (by omega) (by omega)]
     simp only [Int.toNat_natCast]
     rw [List.take_of_length_le (by simp)];rfl
    have c1:∀ S,je zi O 43 [by_ 1 (rest.take m)] S=some (by_ 2 (rest.take m),S):=fun S=>slices_Clone.v Okl.read (by decide) (by simp;omega) S
    have c2:∀ S,je zi O 43 [by_ 1 (rest.drop m)] S=some (by_ 2 (rest.drop m),S):=fun S=>slices_Clone.v Okl.read (by decide) (by simp;omega) S
    conv at hr =>
     rhs
     simp only [zSs,reduceIte,zk,zn,zo,zq,zM.r2,d1,d2,qp (Okl.read),goInt,qM,kH (show rest.length < 2 ^ 64 by omega),d3,zM.r4,s1,s2,c1,c2]
    rw [hTe] at hr
    rw [if_pos ⟨h1,h2⟩]
    exact zM.runs hr (.inr rfl) (by simp only [List.getD_cons_succ,List.getD_cons_zero,jg,jc,zO,zX,jd]) (by simp only [List.getD_cons_succ,List.getD_cons_zero,jg,jc,zO,zX,jd]) (by simp only [List.getD_cons_succ,List.getD_cons_zero,jg,jc,zO,zX,jd])
   ·
    have d3:decide ((rest.length:Int) < (m:Int))=true:=by rw [decide_eq_true_eq];omega
    conv at hr =>
     rhs
     simp only [zSs,reduceIte,zk,zn,zo,zq,zM.r2,d1,d2,qp (Okl.read),goInt,qM,kH (show rest.length < 2 ^ 64 by omega),d3,zM.r3]
    rw [hTe] at hr
    rw [if_neg (fun h=>h2 h.2)]
    exact zM.runs hr (.inr rfl) (by simp only [List.getD_cons_succ,List.getD_cons_zero,jg,jc,zO,zX,jd]) (by simp only [List.getD_cons_succ,List.getD_cons_zero,jg,jc,zO,zX,jd]) (by simp only [List.getD_cons_succ,List.getD_cons_zero,jg,jc,zO,zX,jd])
  ·
   have d2:decide ((4096:Int) < (m:Int))=true:=by rw [decide_eq_true_eq];omega
   conv at hr =>
    rhs
    simp only [zSs,reduceIte,zk,zn,zo,zq,zM.r2,d1,d2,zM.r3]
   rw [hTe] at hr
   rw [if_neg (fun h=>h1 h.1)]
   exact zM.runs hr (.inr rfl) (by simp only [List.getD_cons_succ,List.getD_cons_zero,jg,jc,zO,zX,jd]) (by simp only [List.getD_cons_succ,List.getD_cons_zero,jg,jc,zO,zX,jd]) (by simp only [List.getD_cons_succ,List.getD_cons_zero,jg,jc,zO,zX,jd])
end
end Go.Proofs.Ytblpnklfimkfoaa
namespace Go.Proofs.Ytblpnklfimkfoaa
open Go.Abs
theorem Wq {n:Nat} (h:n < 256):(UInt8.ofNat n).toNat=n:=by rw [UInt8.toNat_ofNat'];omega
theorem Xj:∀ (n i acc:Nat) (r:List UInt8),i≤9→(0 < i→0 < n)→n * 128 ^ i < 2 ^ 64→scan i acc (enc n++r)=some (acc+n * 128 ^ i,r):=by
 intro n
 induction n using Nat.strongRecOn with
 | _ n ih =>
  intro i acc r hi hn hlt
  have h9:i=9→n≤1:=by
   intro h;subst h
   have:(128:Nat) ^ 9=2 ^ 63:=by decide
   omega
  by_cases hs:n < 128
  ·
   rw [kL hs,List.singleton_append,scan,Wq (by omega),if_neg (by rintro (⟨h1,h2⟩ | ⟨h1,h2⟩);exact absurd (h9 h1) (by omega);exact absurd (hn h1) (by omega)),if_pos hs]
  ·
   rw [JH hs,List.cons_append,scan,Wq (by omega)]
   have hi9:i≠9:=fun h=>by have:=h9 h;omega
   rw [if_neg (by rintro (⟨h1,h2⟩ | ⟨h1,h2⟩);exact hi9 h1;omega),if_neg (by omega)]
   have hmul:n / 128 * 128 ^ (i+1)≤n * 128 ^ i:=by
    rw [Nat.pow_succ,← Nat.mul_assoc,Nat.mul_right_comm]
    exact Nat.mul_le_mul_right _ (by omega)
   rw [ih (n / 128) (by omega) (i+1) _ r (by omega) (fun _=>by omega) (Nat.lt_of_le_of_lt hmul hlt)]
   congr 2
   have:n=n % 128+n / 128 * 128:=by omega
   have e1:(n % 128+128 - 128) * 128 ^ i+n / 128 * 128 ^ (i+1)=n * 128 ^ i:=by
    rw [Nat.pow_succ]
    conv=>rhs;rw [this,Nat.add_mul]
    rw [Nat.add_sub_cancel,Nat.mul_comm (128 ^ i) 128,← Nat.mul_assoc]
   omega
theorem XW {n:Nat} (h:n < 2 ^ 64) (r:List UInt8):scan 0 0 (enc n++r)=some (n,r):=by
 rw [Xj n 0 0 r (by omega) (by omega) (by simpa using h)];simp
theorem KG:∀ (l:List UInt8) (i acc m:Nat) (r:List UInt8),scan i acc l=some (m,r)→∃ n,l=enc n++r∧m=acc+n * 128 ^ i∧(0 < i→0 < n):=by
 intro l
 induction l with
 | nil=>intro i acc m r h;cases h
 | cons x l ih =>
  intro i acc m r h
  rw [scan] at h
  have hx:=x.toNat_lt
  split at h
  ·
   cases h
  ·
   rename_i hs
   split at h
   ·
    rename_i hx2
    cases h
    refine ⟨x.toNat,?_,rfl,fun hi=>by omega⟩
    rw [kL hx2];simp
   ·
    rename_i hx2
    obtain ⟨n,h1,h2,h3⟩:=ih _ _ _ _ h
    refine ⟨x.toNat - 128+n * 128,?_,?_,fun _=>?_⟩
    ·
     have hn:=h3 (by omega)
     rw [JH (by omega),show (x.toNat - 128+n * 128) / 128=n by omega,show (x.toNat - 128+n * 128) % 128+128=x.toNat by omega,h1]
     simp
    ·
     rw [h2,Nat.pow_succ,Nat.add_mul]
     rw [Nat.mul_comm (128 ^ i) 128,← Nat.mul_assoc];omega
    ·
     have:=h3 (by omega);omega
theorem QJ {l r:List UInt8} {m:Nat} (h:scan 0 0 l=some (m,r)):l=enc m++r∧m < 2 ^ 64:=by
 obtain ⟨n,h1,h2,_⟩:=KG l 0 0 m r h
 have:m=n:=by simpa using h2
 subst this
 exact ⟨h1,(Xo l 0 0 (by decide) (by omega) m r h).1⟩
end Go.Proofs.Ytblpnklfimkfoaa
namespace Go.Proofs.Ytblpnklfimkfoaa
open Go.Abs
theorem yP {l r:List UInt8} (h:l.length≤4096):WJ (Qr l++r)=some (l,r):=by
 unfold WJ Qr
 rw [List.append_assoc,XW (by omega)]
 dsimp only
 rw [if_pos ⟨h,by simp⟩]
 simp
theorem WT {l a b:List UInt8} (h:WJ l=some (a,b)):l=Qr a++b∧a.length≤4096:=by
 unfold WJ at h
 cases hs:scan 0 0 l with
 | none=>rw [hs] at h;cases h
 | some mr =>
  obtain ⟨m,rest⟩:=mr
  rw [hs] at h
  dsimp only at h
  split at h
  ·
   rename_i hc
   cases h
   obtain ⟨h1,h2⟩:=QJ hs
   have hl:(rest.take m).length=m:=by simp;omega
   refine ⟨?_,by omega⟩
   unfold Qr
   rw [hl,List.append_assoc,List.take_append_drop]
   exact h1
  ·
   cases h
end Go.Proofs.Ytblpnklfimkfoaa
namespace Go.Proofs.Ytblpnklfimkfoaa
open Go.Abs
abbrev zA.id:FuncId:=44
noncomputable def zA.jB:Code:=(.seq (.region 6 (reg Try.f44 6) false) (.seq (.cond (.tmp 22) Code.skip (.exit 0)) (.seq (.block 1 (.seq (.region 7 (reg Try.f44 7) false) (.seq (.seq (.region 8 (reg Try.f44 8) false) (.cond (.tmp 34) (.seq (.region 9 (reg Try.f44 9) false) Code.ret) Code.skip)) (.seq (.region 10 (reg Try.f44 10) false) (.region 11 (reg Try.f44 11) false))))) (.region 12 (reg Try.f44 12) false))))
noncomputable def zA.code:Code:=(.seq (.region 0 (reg Try.f44 0) false) (.seq (.seq (.region 1 (reg Try.f44 1) false) (.cond (.tmp 17) (.seq (.region 2 (reg Try.f44 2) false) Code.ret) Code.skip)) (.seq (.region 3 (reg Try.f44 3) false) (.seq (.region 4 (reg Try.f44 4) false) (.seq (.seq (.region 5 (reg Try.f44 5) false) (.block 0 (.loop zA.jB))) (.seq (.region 13 (reg Try.f44 13) false) Code.ret))))))
theorem zA.body:Try.f44.body=some zA.code:=by kernel_rfl
theorem zA.eta {T:List Value} (h:T.length=45):T=[T.getD 0 zh,T.getD 1 zh,T.getD 2 zh,T.getD 3 zh,T.getD 4 zh,T.getD 5 zh,T.getD 6 zh,T.getD 7 zh,T.getD 8 zh,T.getD 9 zh,T.getD 10 zh,T.getD 11 zh,T.getD 12 zh,T.getD 13 zh,T.getD 14 zh,T.getD 15 zh,T.getD 16 zh,T.getD 17 zh,T.getD 18 zh,T.getD 19 zh,T.getD 20 zh,T.getD 21 zh,T.getD 22 zh,T.getD 23 zh,T.getD 24 zh,T.getD 25 zh,T.getD 26 zh,T.getD 27 zh,T.getD 28 zh,T.getD 29 zh,T.getD 30 zh,T.getD 31 zh,T.getD 32 zh,T.getD 33 zh,T.getD 34 zh,T.getD 35 zh,T.getD 36 zh,T.getD 37 zh,T.getD 38 zh,T.getD 39 zh,T.getD 40 zh,T.getD 41 zh,T.getD 42 zh,T.getD 43 zh,T.getD 44 zh]:=(qw T 45 h).trans (by kernel_rfl)
variable (P N V W X Y Z Q R U b a f g i k l m n o c d p q r s t u w x y z A B C D E F G H I J K L M:Value) (S:zx)
theorem zA.r0 :jy zi ⟨false,false,false⟩ (je zi O) (reg Try.f44 0) (reg Try.f44 0).toList ([P,N,V,W,X,Y,Z,Q,R,U,b,a,f,g,i,k,l,m,n,o,c,d,p,q,r,s,t,u,w,x,y,z,A,B,C,D,E,F,G,H,I,J,K,L,M]) S =
  ( some ([P,N,V,W,Value.slice none 0 0,Value.slice none 0 0,.int .i64 0,Q,R,U,b,a,f,g,i,k,l,m,n,o,c,d,p,q,r,s,t,u,w,x,y,z,A,B,C,D,E,F,G,H,I,J,K,L,M],S)):=by
 kernel_rfl
theorem zA.r1 :jy zi ⟨false,false,false⟩ (je zi O) (reg Try.f44 1) (reg Try.f44 1).toList ([P,N,V,W,X,Y,Z,Q,R,U,b,a,f,g,i,k,l,m,n,o,c,d,p,q,r,s,t,u,w,x,y,z,A,B,C,D,E,F,G,H,I,J,K,L,M]) S =
  (zS (wz zi BinOp.lss 3 (dem N) (.int .i64 0) S) (fun v1 S1=>gdK (dem v1) false (ret N) S1 (fun v3 S2=>gdK (dem v1) false (wz zi BinOp.gtr 3 (dem v3) (.int .i64 64)) S2 (fun v4 S3=>zS (qY (dem v1) (Value.bool true) v4 S3) (fun v5 S4=>some ([P,N,V,W,X,Y,Z,Q,R,U,b,a,dem N,v1,dem v1,dem v3,v4,v5,n,o,c,d,p,q,r,s,t,u,w,x,y,z,A,B,C,D,E,F,G,H,I,J,K,L,M],S4)) ()) ()) ()) ()):=by
 refine sP Try.f44 1 0 (v:=N) ?_
 refine sD Try.f44 1 1 (fun v1 S1=>?_)
 refine sP Try.f44 1 2 (v:=v1) ?_
 refine sG Try.f44 1 3 (j:=2) (fun v3 S2=>?_)
 refine sG Try.f44 1 4 (j:=2) (fun v4 S3=>?_)
 refine sD Try.f44 1 5 (fun v5 S4=>?_)
 kernel_rfl
theorem zA.r2 :jy zi ⟨false,false,false⟩ (je zi O) (reg Try.f44 2) (reg Try.f44 2).toList ([P,N,V,W,X,Y,Z,Q,R,U,b,a,f,g,i,k,l,m,n,o,c,d,p,q,r,s,t,u,w,x,y,z,A,B,C,D,E,F,G,H,I,J,K,L,M]) S =
  ( some ([P,N,V,W,Value.slice none 0 0,Value.slice none 0 0,.int .i64 11,Q,R,U,b,a,f,g,i,k,l,m,n,o,c,d,p,q,r,s,t,u,w,x,y,z,A,B,C,D,E,F,G,H,I,J,K,L,M],S)):=by
 kernel_rfl
theorem zA.r3 :jy zi ⟨false,false,false⟩ (je zi O) (reg Try.f44 3) (reg Try.f44 3).toList ([P,N,V,W,X,Y,Z,Q,R,U,b,a,f,g,i,k,l,m,n,o,c,d,p,q,r,s,t,u,w,x,y,z,A,B,C,D,E,F,G,H,I,J,K,L,M]) S =
  (zS ((je zi O) 43 [(dem (dem P))] S) (fun v1 S1=>some ([P,N,V,W,X,Y,Z,v1,R,U,b,a,f,g,i,k,l,m,dem P,dem v1,c,d,p,q,r,s,t,u,w,x,y,z,A,B,C,D,E,F,G,H,I,J,K,L,M],S1)) ()):=by
 kernel_rfl
theorem zA.r4 :jy zi ⟨false,false,false⟩ (je zi O) (reg Try.f44 4) (reg Try.f44 4).toList ([P,N,V,W,X,Y,Z,Q,R,U,b,a,f,g,i,k,l,m,n,o,c,d,p,q,r,s,t,u,w,x,y,z,A,B,C,D,E,F,G,H,I,J,K,L,M]) S =
  ( some ([P,N,V,W,X,Y,Z,Q,Value.slice none 0 0,U,b,a,f,g,i,k,l,m,n,o,c,d,p,q,r,s,t,u,w,x,y,z,A,B,C,D,E,F,G,H,I,J,K,L,M],S)):=by
 kernel_rfl
theorem zA.r5 :jy zi ⟨false,false,false⟩ (je zi O) (reg Try.f44 5) (reg Try.f44 5).toList ([P,N,V,W,X,Y,Z,Q,R,U,b,a,f,g,i,k,l,m,n,o,c,d,p,q,r,s,t,u,w,x,y,z,A,B,C,D,E,F,G,H,I,J,K,L,M]) S =
  ( some ([P,N,V,W,X,Y,Z,Q,R,U,b,a,f,g,i,k,l,m,n,o,dem N,.int .i64 0,p,q,r,s,t,u,w,x,y,z,A,B,C,D,E,F,G,H,I,J,K,L,M],S)):=by
 kernel_rfl
theorem zA.r6 :jy zi ⟨false,false,false⟩ (je zi O) (reg Try.f44 6) (reg Try.f44 6).toList ([P,N,V,W,X,Y,Z,Q,R,U,b,a,f,g,i,k,l,m,n,o,c,d,p,q,r,s,t,u,w,x,y,z,A,B,C,D,E,F,G,H,I,J,K,L,M]) S =
  (zS (wz zi BinOp.lss 3 d c S) (fun v0 S1=>some ([P,N,V,W,X,Y,Z,Q,R,U,b,a,f,g,i,k,l,m,n,o,c,d,v0,q,r,s,t,u,w,x,y,z,A,B,C,D,E,F,G,H,I,J,K,L,M],S1)) ()):=by
 kernel_rfl
theorem zA.r7 :jy zi ⟨false,false,false⟩ (je zi O) (reg Try.f44 7) (reg Try.f44 7).toList ([P,N,V,W,X,Y,Z,Q,R,U,b,a,f,g,i,k,l,m,n,o,c,d,p,q,r,s,t,u,w,x,y,z,A,B,C,D,E,F,G,H,I,J,K,L,M]) S =
  (zS ((je zi O) 42 [(dem (dem Q))] S) (fun v1 S1=>zS (zL v1 0 S1) (fun v3 S2=>zS (zL (zY 0 v1) 1 S2) (fun v4 S3=>zS (zL (zY 1 (zY 0 v1)) 2 S3) (fun v5 S4=>some ([P,N,V,W,X,Y,Z,Q,R,v3,v4,v5,f,g,i,k,l,m,n,o,c,d,p,zY 2 (zY 1 (zY 0 v1)),dem Q,dem v1,dem v3,dem v4,dem v5,x,y,z,A,B,C,D,E,F,G,H,I,J,K,L,M],S4)) ()) ()) ()) ()):=by
 kernel_rfl
theorem zA.r8 :jy zi ⟨false,false,false⟩ (je zi O) (reg Try.f44 8) (reg Try.f44 8).toList ([P,N,V,W,X,Y,Z,Q,R,U,b,a,f,g,i,k,l,m,n,o,c,d,p,q,r,s,t,u,w,x,y,z,A,B,C,D,E,F,G,H,I,J,K,L,M]) S =
  (zS (wz zi BinOp.neq 29 (dem a) (.int .i64 0) S) (fun v1 S1=>gdK (dem v1) false (ret U) S1 (fun v3 S2=>gdK (dem v1) false (wz zi BinOp.gtr 75 (dem v3) (Value.int IntKind.u64 4611686018427387905)) S2 (fun v4 S3=>zS (qY (dem v1) (Value.bool true) v4 S3) (fun v5 S4=>some ([P,N,V,W,X,Y,Z,Q,R,U,b,a,f,g,i,k,l,m,n,o,c,d,p,q,r,s,t,u,w,dem a,v1,dem v1,dem v3,v4,v5,D,E,F,G,H,I,J,K,L,M],S4)) ()) ()) ()) ()):=by
 refine sP Try.f44 8 0 (v:=a) ?_
 refine sD Try.f44 8 1 (fun v1 S1=>?_)
 refine sP Try.f44 8 2 (v:=v1) ?_
 refine sG Try.f44 8 3 (j:=2) (fun v3 S2=>?_)
 refine sG Try.f44 8 4 (j:=2) (fun v4 S3=>?_)
 refine sD Try.f44 8 5 (fun v5 S4=>?_)
 kernel_rfl
theorem zA.r9 :jy zi ⟨false,false,false⟩ (je zi O) (reg Try.f44 9) (reg Try.f44 9).toList ([P,N,V,W,X,Y,Z,Q,R,U,b,a,f,g,i,k,l,m,n,o,c,d,p,q,r,s,t,u,w,x,y,z,A,B,C,D,E,F,G,H,I,J,K,L,M]) S =
  ( some ([P,N,V,W,Value.slice none 0 0,Value.slice none 0 0,.int .i64 11,Q,R,U,b,a,f,g,i,k,l,m,n,o,c,d,p,q,r,s,t,u,w,x,y,z,A,B,C,D,E,F,G,H,I,J,K,L,M],S)):=by
 kernel_rfl
theorem zA.r10 :jy zi ⟨false,false,false⟩ (je zi O) (reg Try.f44 10) (reg Try.f44 10).toList ([P,N,V,W,X,Y,Z,Q,R,U,b,a,f,g,i,k,l,m,n,o,c,d,p,q,r,s,t,u,w,x,y,z,A,B,C,D,E,F,G,H,I,J,K,L,M]) S =
  (zS (wV zi false false 75 3 (dem U) S) (fun v2 S1=>zS (wz zi BinOp.sub 3 v2 (.int .i64 1) S1) (fun v3 S2=>zS (jh zi 56 1 [(0,v3)] S2) (fun v4 S3=>zS (jF zi 56 56 R v4 S3) (fun v5 S4=>some ([P,N,V,W,X,Y,Z,Q,v5,U,b,a,f,g,i,k,l,m,n,o,c,d,p,q,r,s,t,u,w,x,y,z,A,B,C,dem R,dem U,v2,v3,v4,dem v5,J,K,L,M],S4)) ()) ()) ()) ()):=by
 kernel_rfl
theorem zA.r11 :jy zi ⟨false,false,false⟩ (je zi O) (reg Try.f44 11) (reg Try.f44 11).toList ([P,N,V,W,X,Y,Z,Q,R,U,b,a,f,g,i,k,l,m,n,o,c,d,p,q,r,s,t,u,w,x,y,z,A,B,C,D,E,F,G,H,I,J,K,L,M]) S =
  ( some ([P,N,V,W,X,Y,Z,b,R,U,dem b,a,f,g,i,k,l,m,n,o,c,d,p,q,r,s,t,u,w,x,y,z,A,B,C,D,E,F,G,H,I,dem b,K,L,M],S)):=by
 kernel_rfl
theorem zA.r12 :jy zi ⟨false,false,false⟩ (je zi O) (reg Try.f44 12) (reg Try.f44 12).toList ([P,N,V,W,X,Y,Z,Q,R,U,b,a,f,g,i,k,l,m,n,o,c,d,p,q,r,s,t,u,w,x,y,z,A,B,C,D,E,F,G,H,I,J,K,L,M]) S =
  (zS (wz zi BinOp.add 3 d (.int .i64 1) S) (fun v0 S1=>some ([P,N,V,W,X,Y,Z,Q,R,U,b,a,f,g,i,k,l,m,n,o,c,dem v0,p,q,r,s,t,u,w,x,y,z,A,B,C,D,E,F,G,H,I,J,v0,L,M],S1)) ()):=by
 kernel_rfl
theorem zA.r13 :jy zi ⟨false,false,false⟩ (je zi O) (reg Try.f44 13) (reg Try.f44 13).toList ([P,N,V,W,X,Y,Z,Q,R,U,b,a,f,g,i,k,l,m,n,o,c,d,p,q,r,s,t,u,w,x,y,z,A,B,C,D,E,F,G,H,I,J,K,L,M]) S =
  ( some ([P,N,V,W,R,Q,.int .i64 0,dem Q,dem R,U,b,a,f,g,i,k,l,m,n,o,c,d,p,q,r,s,t,u,w,x,y,z,A,B,C,D,E,F,G,H,I,J,K,dem R,dem Q],S)):=by
 kernel_rfl
theorem zA.rs:type_of% (ahi @zA.r0 (ahi @zA.r1 (ahi @zA.r2 (ahi @zA.r3 (ahi @zA.r4 (ahi @zA.r5 (ahi @zA.r6 (ahi @zA.r7 (ahi @zA.r8 (ahi @zA.r9 (ahi @zA.r10 (ahi @zA.r11 (ahi @zA.r12 (@zA.r13)))))))))))))):=ahi @zA.r0 (ahi @zA.r1 (ahi @zA.r2 (ahi @zA.r3 (ahi @zA.r4 (ahi @zA.r5 (ahi @zA.r6 (ahi @zA.r7 (ahi @zA.r8 (ahi @zA.r9 (ahi @zA.r10 (ahi @zA.r11 (ahi @zA.r12 (@zA.r13)))))))))))))
theorem zA.runs {P N:Value} {S S1:zx} {e:AEx} {T:List Value} (h:zG zi O false zA.code ([P,N,zh,zh,zh,zh,zh,zh,zh,zh,zh,zh,zh,zh,zh,zh,zh,zh,zh,zh,zh,zh,zh,zh,zh,zh,zh,zh,zh,zh,zh,zh,zh,zh,zh,zh,zh,zh,zh,zh,zh,zh,zh,zh,zh]) S=some (e,T,S1)) (he:e=.normal∨e=.ret)  (h0:jD (T.getD 4 zh)=true) (h1:jD (T.getD 5 zh)=true) (h2:jD (T.getD 6 zh)=true):je zi O 44 [P,N] S=some (Value.tuple #[T.getD 4 zh,T.getD 5 zh,T.getD 6 zh],S1) :=
 jY rfl rfl Try.func44 (by decide) zA.body (by exact h) he ((qB ((show zQ zi T S1 Try.f44.results.toList=zQ zi T S1 [(ResultVar.tmp 4),(ResultVar.tmp 5),(ResultVar.tmp 6)] from by kernel_rfl).trans (by simp only [zQ])) (by kernel_rfl) (by simp only [List.all_cons,List.all_nil,h0,h1,h2,Bool.and_true])).trans rfl)
end Go.Proofs.Ytblpnklfimkfoaa
namespace Go.Proofs.Ytblpnklfimkfoaa
open Go.Abs
abbrev zJ.id:FuncId:=32
noncomputable def zJ.jB:Code:=(.seq (.region 5 (reg Try.f32 5) false) (.seq (.cond (.tmp 13) Code.skip (.exit 0)) (.seq (.block 1 (.seq (.region 6 (reg Try.f32 6) false) (.seq (.seq (.region 7 (reg Try.f32 7) false) (.cond (.tmp 17) (.seq (.region 8 (reg Try.f32 8) false) Code.ret) Code.skip)) (.region 9 (reg Try.f32 9) false)))) (.region 10 (reg Try.f32 10) false))))
noncomputable def zJ.code:Code:=(.seq (.region 0 (reg Try.f32 0) false) (.seq (.seq (.region 1 (reg Try.f32 1) false) (.cond (.tmp 9) (.seq (.region 2 (reg Try.f32 2) false) Code.ret) Code.skip)) (.seq (.region 3 (reg Try.f32 3) false) (.seq (.seq (.region 4 (reg Try.f32 4) false) (.block 0 (.loop zJ.jB))) (.seq (.region 11 (reg Try.f32 11) false) Code.ret)))))
theorem zJ.body:Try.f32.body=some zJ.code:=by kernel_rfl
theorem zJ.eta {T:List Value} (h:T.length=26):T=[T.getD 0 zh,T.getD 1 zh,T.getD 2 zh,T.getD 3 zh,T.getD 4 zh,T.getD 5 zh,T.getD 6 zh,T.getD 7 zh,T.getD 8 zh,T.getD 9 zh,T.getD 10 zh,T.getD 11 zh,T.getD 12 zh,T.getD 13 zh,T.getD 14 zh,T.getD 15 zh,T.getD 16 zh,T.getD 17 zh,T.getD 18 zh,T.getD 19 zh,T.getD 20 zh,T.getD 21 zh,T.getD 22 zh,T.getD 23 zh,T.getD 24 zh,T.getD 25 zh]:=(qw T 26 h).trans (by kernel_rfl)
variable (s v A B u w t x y z b c a d f g i j k l m n o p q r:Value) (S:zx)
theorem zJ.r0 :jy zi ⟨false,false,false⟩ (je zi O) (reg Try.f32 0) (reg Try.f32 0).toList ([s,v,A,B,u,w,t,x,y,z,b,c,a,d,f,g,i,j,k,l,m,n,o,p,q,r]) S =
  ( some ([s,v,Value.slice none 0 0,.int .i64 0,u,w,t,x,y,z,b,c,a,d,f,g,i,j,k,l,m,n,o,p,q,r],S)):=by
 kernel_rfl
theorem zJ.r1 :jy zi ⟨false,false,false⟩ (je zi O) (reg Try.f32 1) (reg Try.f32 1).toList ([s,v,A,B,u,w,t,x,y,z,b,c,a,d,f,g,i,j,k,l,m,n,o,p,q,r]) S =
  (zS (qO zi 56 (dem s) S) (fun D C=>zS (wz zi BinOp.gtr 3 D (.int .i64 64) C) (fun G F=>some ([s,v,A,B,u,w,t,dem s,D,G,b,c,a,d,f,g,i,j,k,l,m,n,o,p,q,r],F)) ()) ()):=by
 kernel_rfl
theorem zJ.r2 :jy zi ⟨false,false,false⟩ (je zi O) (reg Try.f32 2) (reg Try.f32 2).toList ([s,v,A,B,u,w,t,x,y,z,b,c,a,d,f,g,i,j,k,l,m,n,o,p,q,r]) S =
  ( some ([s,v,Value.slice none 0 0,.int .i64 11,u,w,t,x,y,z,b,c,a,d,f,g,i,j,k,l,m,n,o,p,q,r],S)):=by
 kernel_rfl
theorem zJ.r3 :jy zi ⟨false,false,false⟩ (je zi O) (reg Try.f32 3) (reg Try.f32 3).toList ([s,v,A,B,u,w,t,x,y,z,b,c,a,d,f,g,i,j,k,l,m,n,o,p,q,r]) S =
  ( some ([s,v,A,B,Value.slice none 0 0,w,t,x,y,z,b,c,a,d,f,g,i,j,k,l,m,n,o,p,q,r],S)):=by
 kernel_rfl
theorem zJ.r4 :jy zi ⟨false,false,false⟩ (je zi O) (reg Try.f32 4) (reg Try.f32 4).toList ([s,v,A,B,u,w,t,x,y,z,b,c,a,d,f,g,i,j,k,l,m,n,o,p,q,r]) S =
  (zS (qO zi 56 (dem s) S) (fun D C=>some ([s,v,A,B,u,w,t,x,y,z,dem s,D,.int .i64 0,d,f,g,i,j,k,l,m,n,o,p,q,r],C)) ()):=by
 kernel_rfl
theorem zJ.r5 :jy zi ⟨false,false,false⟩ (je zi O) (reg Try.f32 5) (reg Try.f32 5).toList ([s,v,A,B,u,w,t,x,y,z,b,c,a,d,f,g,i,j,k,l,m,n,o,p,q,r]) S =
  (zS (wz zi BinOp.lss 3 a c S) (fun E C=>some ([s,v,A,B,u,w,t,x,y,z,b,c,a,E,f,g,i,j,k,l,m,n,o,p,q,r],C)) ()):=by
 kernel_rfl
theorem zJ.r6 :jy zi ⟨false,false,false⟩ (je zi O) (reg Try.f32 6) (reg Try.f32 6).toList ([s,v,A,B,u,w,t,x,y,z,b,c,a,d,f,g,i,j,k,l,m,n,o,p,q,r]) S =
  (zS (jv zi 56 b a S) (fun E C=>zS (jA zi false 3 E C) (fun D F=>some ([s,v,A,B,u,w,D,x,y,z,b,c,a,d,E,dem D,i,j,k,l,m,n,o,p,q,r],F)) ()) ()):=by
 kernel_rfl
theorem zJ.r7 :jy zi ⟨false,false,false⟩ (je zi O) (reg Try.f32 7) (reg Try.f32 7).toList ([s,v,A,B,u,w,t,x,y,z,b,c,a,d,f,g,i,j,k,l,m,n,o,p,q,r]) S =
  (zS (wz zi BinOp.lss 3 (dem t) (.int .i64 (-1)) S) (fun D C=>some ([s,v,A,B,u,w,t,x,y,z,b,c,a,d,f,g,dem t,D,k,l,m,n,o,p,q,r],C)) ()):=by
 kernel_rfl
theorem zJ.r8 :jy zi ⟨false,false,false⟩ (je zi O) (reg Try.f32 8) (reg Try.f32 8).toList ([s,v,A,B,u,w,t,x,y,z,b,c,a,d,f,g,i,j,k,l,m,n,o,p,q,r]) S =
  ( some ([s,v,Value.slice none 0 0,.int .i64 11,u,w,t,x,y,z,b,c,a,d,f,g,i,j,k,l,m,n,o,p,q,r],S)):=by
 kernel_rfl
theorem zJ.r9 :jy zi ⟨false,false,false⟩ (je zi O) (reg Try.f32 9) (reg Try.f32 9).toList ([s,v,A,B,u,w,t,x,y,z,b,c,a,d,f,g,i,j,k,l,m,n,o,p,q,r]) S =
  (zS (wV zi false false 3 75 (dem t) S) (fun G C=>zS (wz zi BinOp.add 75 G (Value.int IntKind.u64 1) C) (fun H F=>zS ((je zi O) 45 [(dem H)] F) (fun I K=>zS (jF zi 26 26 u I K) (fun J L=>some ([s,v,A,B,J,w,t,x,y,z,b,c,a,d,f,g,i,j,dem u,dem t,G,H,I,dem J,q,r],L)) ()) ()) ()) ()):=by
 kernel_rfl
theorem zJ.r10 :jy zi ⟨false,false,false⟩ (je zi O) (reg Try.f32 10) (reg Try.f32 10).toList ([s,v,A,B,u,w,t,x,y,z,b,c,a,d,f,g,i,j,k,l,m,n,o,p,q,r]) S =
  (zS (wz zi BinOp.add 3 a (.int .i64 1) S) (fun E C=>some ([s,v,A,B,u,w,t,x,y,z,b,c,dem E,d,f,g,i,j,k,l,m,n,o,p,E,r],C)) ()):=by
 kernel_rfl
theorem zJ.r11 :jy zi ⟨false,false,false⟩ (je zi O) (reg Try.f32 11) (reg Try.f32 11).toList ([s,v,A,B,u,w,t,x,y,z,b,c,a,d,f,g,i,j,k,l,m,n,o,p,q,r]) S =
  ( some ([s,v,u,.int .i64 0,dem u,w,t,x,y,z,b,c,a,d,f,g,i,j,k,l,m,n,o,p,q,dem u],S)):=by
 kernel_rfl
theorem zJ.rs:type_of% (ahi @zJ.r0 (ahi @zJ.r1 (ahi @zJ.r2 (ahi @zJ.r3 (ahi @zJ.r4 (ahi @zJ.r5 (ahi @zJ.r6 (ahi @zJ.r7 (ahi @zJ.r8 (ahi @zJ.r9 (ahi @zJ.r10 (@zJ.r11)))))))))))):=ahi @zJ.r0 (ahi @zJ.r1 (ahi @zJ.r2 (ahi @zJ.r3 (ahi @zJ.r4 (ahi @zJ.r5 (ahi @zJ.r6 (ahi @zJ.r7 (ahi @zJ.r8 (ahi @zJ.r9 (ahi @zJ.r10 (@zJ.r11)))))))))))
theorem zJ.runs {s:Value} {S C:zx} {e:AEx} {T:List Value} (h:zG zi O false zJ.code ([s,zh,zh,zh,zh,zh,zh,zh,zh,zh,zh,zh,zh,zh,zh,zh,zh,zh,zh,zh,zh,zh,zh,zh,zh,zh]) S=some (e,T,C)) (he:e=.normal∨e=.ret)  (h0:jD (T.getD 2 zh)=true) (h1:jD (T.getD 3 zh)=true):je zi O 32 [s] S=some (Value.tuple #[T.getD 2 zh,T.getD 3 zh],C) :=
 jY rfl rfl Try.func32 (by decide) zJ.body (by exact h) he ((qB ((show zQ zi T C Try.f32.results.toList=zQ zi T C [(ResultVar.tmp 2),(ResultVar.tmp 3)] from by kernel_rfl).trans (by simp only [zQ])) (by kernel_rfl) (by simp only [List.all_cons,List.all_nil,h0,h1,Bool.and_true])).trans rfl)
end Go.Proofs.Ytblpnklfimkfoaa
namespace Go.Proofs.Ytblpnklfimkfoaa
open Go.Abs
theorem ag0 (x:Int):sv 2 1 1 [.int .i64 x]=iz 2 [x]:=rfl
theorem afr {k:Nat} {l:List Int} {x:Int} {S:zx} (h:Okl k l) (hk:k≠1) (hl:l.length≤17592186044000):jF zi 56 56 (iz k l) (iz 2 [x]) S=some (iz 2 (l++[x]),S):=by
 rw [QA h hk Okl.own (by simp;omega),if_neg (fun h=>by have:=h.2;simp at this)]
end Go.Proofs.Ytblpnklfimkfoaa
namespace Go.Abs
open Go.RowKit
theorem agi {b:Nat} {e:Ty} {α:Type} (f:α→List Value) (Q:α→Prop) (h:∀ x,e.Good x→∃ y,e.Jk x=f y∧Q y) (hf:∀ y,(f y).length=e.sz) (x:(Ty.slc b e).Val) (hg:(Ty.slc b e).Good x) :
  ∃ k l,Okl k l∧k≠2∧(Ty.slc b e).Jk x=[vs f e.sz k l]∧l.length * b≤140737488351232∧∀ y ∈ l,Q y:=by
 match x,hg with
 | none,_=>exact ⟨0,[],Okl.none,by decide,rfl,by simp,fun y hy=>by cases hy⟩
 | some xs,hg =>
  obtain ⟨h1,h2,h3⟩:=hg
  have key:∀ xs:List e.Val,(∀ n ∈ xs,e.Good n)→∃ l:List α,xs.flatMap e.Jk=l.flatMap f∧l.length=xs.length∧∀ y ∈ l,Q y:=by
   intro xs
   induction xs with
   | nil=>intro _;exact ⟨[],rfl,rfl,fun y hy=>by cases hy⟩
   | cons n xs ih =>
    intro hn
    obtain ⟨y,hy,hq⟩:=h n (hn n (by simp))
    obtain ⟨l,k1,k2,k3⟩:=ih (fun m hm=>hn m (by simp [hm]))
    refine ⟨y::l,by rw [List.flatMap_cons,List.flatMap_cons,hy,k1],by simp [k2],fun z hz=>?_⟩
    rcases List.mem_cons.1 hz with rfl | hz
    ·
     exact hq
    ·
     exact k3 z hz
  obtain ⟨l,k1,k2,k3⟩:=key xs h3
  refine ⟨1,l,Okl.read,by decide,?_,by rw [k2];exact h1,k3⟩
  show [SL 1 e.sz (List.length xs) (List.flatMap e.Jk xs)]=[_]
  unfold vs
  rw [sv1,k1,k2]
theorem ZW {cs xs:List Value} (h:cs.length=xs.length):splice cs 0 xs=xs:=by
 unfold splice
 rw [List.take_zero,List.nil_append,Nat.zero_add,← h,List.drop_length,List.append_nil]
theorem af7 {k e n:Nat} {cs:List Value}:(sv k e n cs).oneCell'=true:=by unfold sv;split <;> rfl
theorem af9 {α:Type} {f:α→List Value} {e k:Nat} {l:List α}:(vs f e k l).oneCell'=true:=af7
theorem afq {k:IntKind} {n:Int}:(Value.int k n).oneCell'=true:=rfl
theorem acv {P:Program} {t:TypeId} {z xs:List Value} {x:Value} (S:zx) (hx:x.cells.toList=xs) (hs:qI P t=some z.length) (hl:xs.length=z.length) (h1:xs.all (·.oneCell')=true) :
  ∃ S2,qG P t (.pointer (some ⟨S.next,0,none⟩)) x (S.push (.cells z (.own []) 0))=some (zh,S2)∧S2.get S.next=some (.cells xs (.own []) 0)∧Ext S S2∧S.next < S2.next:=by
 have hg:(S.push (.cells z (.own []) 0)).get S.next=some (.cells z (.own []) 0):=by rw [zx.zZ,if_pos rfl]
 refine ⟨_,kJ hg hs (by rw [← Array.length_toList,hx,hl]) (by rw [hx];exact h1) (by simp),?_,(Ext.push S _).set (Nat.le_refl _) _,by simp [zx.kills]⟩
 rw [zx.jw,if_pos rfl,hx,ZW hl.symm]
theorem agh (x:Value) (S:zx):∃ S2,YJ x S=some (.pointer (some ⟨S.next,0,none⟩),S2)∧S2.get S.next=some (.cells x.cells.toList (.own []) 0)∧Ext S S2∧S.next < S2.next :=
 ⟨_,rfl,by rw [zx.zZ,if_pos rfl],Ext.push _ _,by simp⟩
end Go.Abs
namespace Go.Proofs.Ytblpnklfimkfoaa
open Go.Abs
theorem bb0 (S:zx):jh zi 26 0 [] S=some (by_ 2 [],S):=by rw [xM];rfl
structure Tb where
 k:Nat
 b:List UInt8
structure Tb.Ok (t:Tb):Prop where
 okl:Okl t.k t.b
 ne:t.k≠2
 le:t.b.length≤140737488351232
end Go.Proofs.Ytblpnklfimkfoaa
namespace Go.Proofs.Ytblpnklfimkfoaa
open Go.Abs
def encs (l:List Int):List UInt8:=l.flatMap fun n=>enc (n+1).toNat
def acM (k:Nat) (l:List Int):Value:=if 64 < l.length∨∃ n ∈ l,n < -1 then .tuple #[.slice none 0 0,.int .i64 11] else .tuple #[by_ (if l=[] then k else 2) (encs l),.int .i64 0]
theorem VP {n:Int} (h:-1≤n) (h2:n < 9223372036854775808):IntKind.u64.wrap (IntKind.u64.wrap n+1)=((n+1).toNat:Int):=by
 simp [IntKind.wrap,IntKind.bits,IntKind.signed]
 omega
theorem Xb (a b:List Int):encs (a++b)=encs a++encs b:=by simp [encs]
theorem adS (n:Int):encs [n]=enc (n+1).toNat:=by simp [encs]
theorem YA {l:List Int} (h:∀ n ∈ l,n < 9223372036854775808):(encs l).length≤l.length * 10:=by
 induction l with
 | nil=>simp [encs]
 | cons n l ih =>
  have h1:=ih fun m hm=>h m (by simp [hm])
  have h2:(enc (n+1).toNat).length≤10:=xE (by have:=h n (by simp);omega)
  simp only [encs,List.flatMap_cons,List.length_append,List.length_cons] at *
  omega
theorem zJ.round {k:Nat} {l:List Int} (hv:Okl k l) (hk:k≠2) (h64:l.length≤64) (hb:∀ n ∈ l,n < 9223372036854775808) {S:zx}:∀ (suf pre:List Int) {T:List Value} {r:St},yH (zG zi O false zJ.jB) T S=r→T.length=26 →
  T.getD 10 zh=iz k l→T.getD 11 zh=.int .i64 l.length→T.getD 12 zh=.int .i64 pre.length→T.getD 4 zh=by_ (if pre=[] then 0 else 2) (encs pre)→l=pre++suf →
  ∃ e T',r=some (e,T',S)∧if (∃ n ∈ suf,n < -1) then e=.ret∧T'.getD 2 zh=.slice none 0 0∧T'.getD 3 zh=.int .i64 11 else e=.exit 0∧T'.length=26∧T'.getD 4 zh=by_ (if l=[] then 0 else 2) (encs l):=by
 intro suf
 induction suf with
 | nil =>
  intro pre T r hL hT ha hb hc h4 hl
  have hTe:=zJ.eta hT
  rw [ha,hb,hc,h4] at hTe
  have hr:zG zi O false zJ.jB T S=zG zi O false zJ.jB T S:=rfl
  have hd:¬ (pre.length:Int) < (l.length:Int):=by rw [hl];simp
  conv at hr =>
   rhs
   rw [hTe]
   simp only [zJ.jB,zJ.code,zJ.rs,zSs,reduceIte,zk,zn,zo,zq,hd]
  refine ⟨_,_,hL.symm.trans (jE hr (by simp)),?_⟩
  rw [if_neg (by simp)]
  simp only [List.append_nil] at hl
  subst hl
  exact ⟨rfl,rfl,rfl⟩
 | cons n suf ih =>
  intro pre T r hL hT ha hbb hc h4 hl
  have hTe:=zJ.eta hT
  rw [ha,hbb,hc,h4] at hTe
  have hr:zG zi O false zJ.jB T S=zG zi O false zJ.jB T S:=rfl
  have hll:l.length=pre.length+(suf.length+1):=by rw [hl];simp
  have hlt:(pre.length:Int) < (l.length:Int):=by omega
  have e1:∀ S,jv zi 56 (iz k l) (.int .i64 pre.length) S=some (EP [.int .i64 n],S):=fun S=>by
   rw [aeL hv (by omega) hlt];rw [QL hl]
  have hn:=hb n (by rw [hl];simp)
  by_cases h1:n < -1
  ·
   conv at hr =>
    rhs
    rw [hTe]
    simp only [zJ.jB,zJ.code,zJ.rs,zSs,reduceIte,zk,zn,zo,zq,hlt,e1,xw,h1]
   refine ⟨_,_,hL.symm.trans (jE hr (by simp)),?_⟩
   rw [if_pos ⟨n,by simp,h1⟩]
   exact ⟨rfl,rfl,rfl⟩
  ·
   have w1:=VP (n:=n) (by omega) (by omega)
   have hpb:(encs pre).length≤pre.length * 10:=YA fun m hm=>hb m (by rw [hl];simp [hm])
   have hp10:(enc (n+1).toNat).length≤10:=xE (by omega)
   have hpp:=Xp (n+1).toNat
   have g1:=fun S=>jo.v (n+1).toNat (by omega) S
   have e2:∀ S,jF zi 26 26 (by_ (if pre=[] then 0 else 2) (encs pre)) (by_ 2 (enc (n+1).toNat)) S=some (by_ 2 (encs (pre++[n])),S):=fun S=>by
    have ok:Okl (if pre=[] then 0 else 2) (encs pre):=⟨by split <;> omega,fun h=>by split at h <;> first | (rename_i hp;subst hp;rfl) | omega⟩
    rw [qU ok (by split <;> omega) Okl.own (by omega),if_neg (fun h=>by have:=h.2;omega),Xb,adS]
   have wi:IntKind.i64.wrap ((pre.length:Int)+1)=((pre++[n]).length:Int):=by rw [wrap_i64 (by omega) (by omega)];simp
   conv at hr =>
    rhs
    rw [hTe]
    simp only [zJ.jB,zJ.code,zJ.rs,zSs,reduceIte,zk,zn,zo,zq,hlt,e1,xw,h1,qM,w1,g1,e2,wi]
   obtain ⟨e,T',g1,g2⟩:=ih (pre++[n]) ((wH hr).symm.trans hL) rfl rfl rfl rfl (by rw [if_neg (show ¬ pre++[n]=[] by simp)];rfl) (by simp [hl])
   refine ⟨e,T',g1,?_⟩
   by_cases h2:∃ m ∈ suf,m < -1
   ·
    rw [if_pos h2] at g2
    obtain ⟨m,hm,hm2⟩:=h2
    rw [if_pos ⟨m,by simp [hm],hm2⟩]
    exact g2
   ·
    rw [if_neg h2] at g2
    rw [if_neg (by rintro ⟨m,hm,hm2⟩;rcases List.mem_cons.1 hm with rfl | hm;exact h1 hm2;exact h2 ⟨m,hm,hm2⟩)]
    exact g2
theorem zJ.v {k:Nat} {l:List Int} (hv:Okl k l) (hk:k≠2) (hb:∀ n ∈ l,n < 9223372036854775808) (S:zx):je zi O zJ.id [iz k l] S=some (acM 0 l,S):=by
 obtain ⟨T,hTe⟩:∃ T,T=(iz k l::zh::zh::zh::zh::zh::zh::zh::zh::zh::zh::zh::zh::zh::zh::zh::zh::zh::zh::zh::zh::zh::zh::zh::zh::zh::[]):=⟨_,rfl⟩
 have hr:zG zi O false zJ.code T S=zG zi O false zJ.code T S:=rfl
 unfold acM
 by_cases h1:64 < l.length
 ·
  have d1:(64:Int) < (l.length:Int):=by omega
  conv at hr =>
   rhs
   rw [hTe]
   simp only [zJ.code,zJ.rs,zSs,reduceIte,zk,zn,zo,zq,if_neg hk,Vh hv,goInt,d1]
  rw [hTe] at hr
  rw [if_pos (.inl h1)]
  exact zJ.runs hr (.inr rfl) (by simp only [List.getD_cons_succ,List.getD_cons_zero,jg,jc,zO,zX,jd]) (by simp only [List.getD_cons_succ,List.getD_cons_zero,jg,jc,zO,zX,jd])
 ·
  have d1:¬ (64:Int) < (l.length:Int):=by omega
  conv at hr =>
   rhs
   rw [hTe]
   simp only [zJ.code,zJ.rs,zSs,reduceIte,zk,zn,zo,zq,if_neg hk,Vh hv,goInt,d1,xM,agx]
  generalize hL:yH (zG zi O false zJ.jB) _ _=r at hr
  obtain ⟨e,T',rfl,g⟩:=zJ.round hv hk (by omega) hb l [] hL rfl rfl rfl rfl rfl rfl
  by_cases h2:∃ n ∈ l,n < -1
  ·
   rw [if_pos h2] at g
   obtain ⟨rfl,g2,g3⟩:=g
   conv at hr =>
    rhs
    simp only [zSs,reduceIte,zk,zn,zo,zq]
   rw [hTe] at hr
   rw [if_pos (.inr h2)]
   have hrun:=zJ.runs hr (.inr rfl) (by rw [g2];rfl) (by rw [g3];rfl)
   rw [g2,g3] at hrun
   exact hrun
  ·
   rw [if_neg h2] at g
   obtain ⟨rfl,g2,g3⟩:=g
   have hTe':=zJ.eta g2
   rw [g3] at hTe'
   conv at hr =>
    rhs
    rw [hTe']
    simp only [zJ.code,zJ.rs,zSs,reduceIte,zk,zn,zo,zq]
   rw [hTe] at hr
   rw [if_neg (by rintro (h | h);exact h1 h;exact h2 h)]
   exact zJ.runs hr (.inr rfl) (by simp only [List.getD_cons_succ,List.getD_cons_zero,jg,jc,zO,zX,jd]) (by simp only [List.getD_cons_succ,List.getD_cons_zero,jg,jc,zO,zX,jd])
end Go.Proofs.Ytblpnklfimkfoaa
namespace Go.Proofs.Ytblpnklfimkfoaa
open Go.Abs
def yT:Nat→List UInt8→Option (List Int×List UInt8)
 | 0,l=>some ([],l)
 | m+1,l=>match scan 0 0 l with
  | some (n,r)=>if n≤4611686018427387905 then (match yT m r with
   | some (a,b)=>some (((n:Int) - 1)::a,b)
   | none=>none) else none
  | none=>none
def Jv (k0 k1:Nat) (many:Int) (l:List UInt8):Value :=
 if many < 0∨64 < many then .tuple #[.slice none 0 0,.slice none 0 0,.int .i64 11]
 else match yT many.toNat l with
  | some (a,b)=>.tuple #[iz (if many=0 then k0 else 2) a,by_ (if many=0 then k1 else 2) b,.int .i64 0]
  | none=>.tuple #[.slice none 0 0,.slice none 0 0,.int .i64 11]
theorem zA.round {many:Int} (hmany:many≤64) {S:zx}:∀ (m:Nat) (i:Int) (rest:List UInt8) (kr:Nat) (out:List Int) (ko:Nat) {T:List Value} {r:St},yH (zG zi O false zA.jB) T S=r→T.length=45 →
  T.getD 20 zh=.int .i64 many→T.getD 21 zh=.int .i64 i→T.getD 7 zh=by_ kr rest→T.getD 8 zh=iz ko out→0≤i→many=i+m→Okl kr rest→rest.length≤140737488355328→Okl ko out→ko≠1→(out.length:Int)=i →
  ∃ e T',r=some (e,T',S)∧match yT m rest with
   | none=>e=.ret∧T'.getD 4 zh=.slice none 0 0∧T'.getD 5 zh=.slice none 0 0∧T'.getD 6 zh=.int .i64 11
   | some (a,b)=>e=.exit 0∧T'.length=45∧T'.getD 8 zh=iz (if m=0 then ko else 2) (out++a)∧T'.getD 7 zh=by_ (if m=0 then kr else 2) b:=by
 intro m
 induction m with
 | zero =>
  intro i rest kr out ko T r hL hT h1 h2 h3 h4 h0 hm hkr hlen hko hk1 hol
  have hTe:=zA.eta hT
  rw [h1,h2,h3,h4] at hTe
  have hr:zG zi O false zA.jB T S=zG zi O false zA.jB T S:=rfl
  have hd:¬ i < many:=by omega
  conv at hr =>
   rhs
   rw [hTe]
   simp only [zA.jB,zA.code,zA.rs,zSs,reduceIte,zk,zn,zo,zq,hd]
  exact ⟨_,_,hL.symm.trans (jE hr (by simp)),rfl,rfl,by simp,rfl⟩
 | succ m ih =>
  intro i rest kr out ko T r hL hT h1 h2 h3 h4 h0 hm hkr hlen hko hk1 hol
  have hTe:=zA.eta hT
  rw [h1,h2,h3,h4] at hTe
  have hr:zG zi O false zA.jB T S=zG zi O false zA.jB T S:=rfl
  have hd:i < many:=by omega
  have g1:∀ S,je zi O zD.id [by_ (if kr=2 then 1 else kr) rest] S=some (Vx rest,S):=zD.v hkr.dem (by split <;> omega) hlen
  unfold Vx at g1
  rw [yT]
  cases hsc:scan 0 0 rest with
  | none =>
   rw [hsc] at g1
   have d11:¬ (11:Int)=0:=by omega
   conv at hr =>
    rhs
    rw [hTe]
    simp only [zA.jB,zA.code,zA.rs,zSs,reduceIte,zk,zn,zo,zq,afW,hd,g1,d11]
   exact ⟨_,_,hL.symm.trans (jE hr (by simp)),rfl,rfl,rfl,rfl⟩
  | some nr =>
   obtain ⟨n,r'⟩:=nr
   rw [hsc] at g1
   obtain ⟨hn,hrl⟩:=Xo rest 0 0 (by decide) (by omega) n r' hsc
   dsimp only
   by_cases h5:n≤4611686018427387905
   ·
    have d1:¬ (4611686018427387905:Int) < (n:Int):=by omega
    have w1:IntKind.i64.wrap (n:Int)=(n:Int):=wrap_i64 (by omega) (by omega)
    have w2:IntKind.i64.wrap ((n:Int) - 1)=(n:Int) - 1:=wrap_i64 (by omega) (by omega)
    have w3:IntKind.i64.wrap (i+1)=i+1:=wrap_i64 (by omega) (by omega)
    have e1:∀ x S,jF zi 56 56 (iz ko out) (iz 2 [x]) S=some (iz 2 (out++[x]),S):=fun x S=>afr hko hk1 (by omega)
    conv at hr =>
     rhs
     rw [hTe]
     simp only [zA.jB,zA.code,zA.rs,zSs,reduceIte,zk,zn,zo,zq,afW,hd,g1,d1,Y1,w1,w2,w3,V6,ag0,e1]
    obtain ⟨e,T',g2,g3⟩:=ih (i+1) r' 2 (out++[(n:Int) - 1]) 2 ((wH hr).symm.trans hL) rfl rfl rfl rfl rfl (by omega) (by omega) Okl.own (by omega) Okl.own (by decide) (by simp;omega)
    refine ⟨e,T',g2,?_⟩
    rw [if_pos h5]
    cases hrn:yT m r' with
    | none=>rw [hrn] at g3;exact g3
    | some ab =>
     obtain ⟨a,b⟩:=ab
     rw [hrn] at g3
     obtain ⟨q1,q2,q3,q4⟩:=g3
     refine ⟨q1,q2,?_,?_⟩
     ·
      rw [q3];simp
     ·
      rw [q4];simp
   ·
    have d1:(4611686018427387905:Int) < (n:Int):=by omega
    conv at hr =>
     rhs
     rw [hTe]
     simp only [zA.jB,zA.code,zA.rs,zSs,reduceIte,zk,zn,zo,zq,afW,hd,g1,d1]
    refine ⟨_,_,hL.symm.trans (jE hr (by simp)),?_⟩
    rw [if_neg h5]
    exact ⟨rfl,rfl,rfl,rfl⟩
theorem zA.v {k:Nat} {l:List UInt8} {many:Int} (hv:Okl k l) (hk:k≠2) (hlen:l.length≤140737488355328) (S:zx):je zi O zA.id [by_ k l,.int .i64 many] S=some (Jv 0 (if k=0 then 0 else 2) many l,S):=by
 obtain ⟨T,hTe⟩:∃ T,T=(by_ k l::.int .i64 many::zh::zh::zh::zh::zh::zh::zh::zh::zh::zh::zh::zh::zh::zh::zh::zh::zh::zh::zh::zh::zh::zh::zh::zh::zh::zh::zh::zh::zh::zh::zh::zh::zh::zh::zh::zh::zh::zh::zh::zh::zh::zh::zh::[]):=⟨_,rfl⟩
 have hr:zG zi O false zA.code T S=zG zi O false zA.code T S:=rfl
 have c1:∀ S,je zi O 43 [by_ k l] S=some (by_ (if k=0 then 0 else 2) l,S):=slices_Clone.v hv hk hlen
 unfold Jv
 by_cases h1:many < 0
 ·
  conv at hr =>
   rhs
   rw [hTe]
   simp only [zA.code,zA.rs,zSs,reduceIte,zk,zn,zo,zq,h1]
  rw [hTe] at hr
  rw [if_pos (.inl h1)]
  exact zA.runs hr (.inr rfl) (by simp only [List.getD_cons_succ,List.getD_cons_zero,jg,jc,zO,zX,jd]) (by simp only [List.getD_cons_succ,List.getD_cons_zero,jg,jc,zO,zX,jd]) (by simp only [List.getD_cons_succ,List.getD_cons_zero,jg,jc,zO,zX,jd])
 ·
  by_cases h2:64 < many
  ·
   conv at hr =>
    rhs
    rw [hTe]
    simp only [zA.code,zA.rs,zSs,reduceIte,zk,zn,zo,zq,h1,h2]
   rw [hTe] at hr
   rw [if_pos (.inr h2)]
   exact zA.runs hr (.inr rfl) (by simp only [List.getD_cons_succ,List.getD_cons_zero,jg,jc,zO,zX,jd]) (by simp only [List.getD_cons_succ,List.getD_cons_zero,jg,jc,zO,zX,jd]) (by simp only [List.getD_cons_succ,List.getD_cons_zero,jg,jc,zO,zX,jd])
  ·
   rw [if_neg (by omega)]
   conv at hr =>
    rhs
    rw [hTe]
    simp only [zA.code,zA.rs,zSs,reduceIte,zk,zn,zo,zq,h1,h2,if_neg hk,c1]
   generalize hL:yH (zG zi O false zA.jB) _ _=r at hr
   have okr:Okl (if k=0 then 0 else 2) l:=⟨by split <;> omega,fun h=>by split at h <;> first | (rename_i hp;exact hv.nil hp) | omega⟩
   obtain ⟨e,T',rfl,g⟩:=zA.round (many:=many) (by omega) many.toNat 0 l (if k=0 then 0 else 2) [] 0 hL rfl rfl rfl rfl rfl (by omega) (by omega) okr hlen Okl.none (by decide) rfl
   cases hrn:yT many.toNat l with
   | none =>
    rw [hrn] at g
    obtain ⟨rfl,g2,g3,g4⟩:=g
    conv at hr =>
     rhs
     simp only [zSs,reduceIte,zk,zn,zo,zq]
    rw [hTe] at hr
    have hrun:=zA.runs hr (.inr rfl) (by rw [g2];rfl) (by rw [g3];rfl) (by rw [g4];rfl)
    rw [g2,g3,g4] at hrun
    exact hrun
   | some ab =>
    obtain ⟨a,b⟩:=ab
    rw [hrn] at g
    obtain ⟨rfl,g2,g3,g4⟩:=g
    have hTe':=zA.eta g2
    rw [g3,g4] at hTe'
    have hz:(many.toNat=0) ↔ (many=0):=by omega
    simp only [hz,List.nil_append] at hTe'
    conv at hr =>
     rhs
     rw [hTe']
     simp only [zA.code,zA.rs,zSs,reduceIte,zk,zn,zo,zq]
    rw [hTe] at hr
    exact zA.runs hr (.inr rfl) (by simp only [List.getD_cons_succ,List.getD_cons_zero,jg,jc,zO,zX,jd]) (by simp only [List.getD_cons_succ,List.getD_cons_zero,jg,jc,zO,zX,jd]) (by simp only [List.getD_cons_succ,List.getD_cons_zero,jg,jc,zO,zX,jd])
end Go.Proofs.Ytblpnklfimkfoaa
namespace Go.Proofs.Ytblpnklfimkfoaa
open Go.Abs
def Few (n:Int):Prop:=-1≤n∧n≤4611686018427387904
theorem ZY:∀ (m:Nat) (l:List UInt8) (a:List Int) (b:List UInt8),yT m l=some (a,b) ↔ a.length=m∧l=encs a++b∧∀ n ∈ a,Few n:=by
 intro m
 induction m with
 | zero =>
  intro l a b
  constructor
  ·
   intro h;cases h;exact ⟨rfl,rfl,fun n h=>by cases h⟩
  ·
   rintro ⟨h1,h2,_⟩
   have:a=[]:=List.length_eq_zero_iff.mp h1
   subst this
   rw [h2];rfl
 | succ m ih =>
  intro l a b
  rw [yT]
  constructor
  ·
   intro h
   cases hsc:scan 0 0 l with
   | none=>rw [hsc] at h;cases h
   | some nr =>
    obtain ⟨n,r⟩:=nr
    rw [hsc] at h
    dsimp only at h
    split at h
    ·
     rename_i hn
     cases hr:yT m r with
     | none=>rw [hr] at h;cases h
     | some ab =>
      obtain ⟨a',b'⟩:=ab
      rw [hr] at h
      obtain ⟨h1,h2,h3⟩:=(ih r a' b').mp hr
      cases h
      obtain ⟨f1,f2⟩:=QJ hsc
      refine ⟨by simp [h1],?_,fun x hx=>?_⟩
      ·
       rw [f1,h2]
       have:((n:Int) - 1+1).toNat=n:=by omega
       simp [encs,this]
      ·
       rcases List.mem_cons.1 hx with rfl | hx
       ·
        unfold Few;omega
       ·
        exact h3 x hx
    ·
     cases h
  ·
   rintro ⟨h1,h2,h3⟩
   cases a with
   | nil=>simp at h1
   | cons x a =>
    have hx:Few x:=h3 x (by simp)
    unfold Few at hx
    have he:encs (x::a)++b=enc (x+1).toNat++(encs a++b):=by simp [encs]
    rw [h2,he,XW (by omega)]
    dsimp only
    rw [if_pos (by omega),(ih (encs a++b) a b).mpr ⟨by simpa using h1,rfl,fun n hn=>h3 n (by simp [hn])⟩]
    have:((x+1).toNat:Int) - 1=x:=by omega
    simp only [this]
theorem V8 {m:Nat} {l:List UInt8} {a:List Int} {b:List UInt8} (h:yT m l=some (a,b)):a.length=m∧b.length≤l.length:=by
 obtain ⟨h1,h2,_⟩:=(ZY m l a b).mp h
 exact ⟨h1,by rw [h2];simp⟩
theorem ac5 {k:Nat} {l:List Int} (h:l.length≤64) (h1:∀ n ∈ l,-1≤n) (h0:l≠[]):acM k l=.tuple #[by_ 2 (encs l),.int .i64 0]:=by
 unfold acM
 rw [if_neg (by rintro (h2 | ⟨n,h2,h3⟩);{ omega };{ have:=h1 n h2;omega }),if_neg h0]
theorem Xd {k0 k1 m:Nat} {l:List UInt8} (h0:0 < m) (h:m≤64):Jv k0 k1 m l=match yT m l with
  | some (a,b)=>.tuple #[iz 2 a,by_ 2 b,.int .i64 0]
  | none=>.tuple #[.slice none 0 0,.slice none 0 0,.int .i64 11]:=by
 unfold Jv
 rw [if_neg (by omega),Int.toNat_natCast]
 have:(m:Int)≠0:=by omega
 simp only [if_neg this]
 all_goals (cases yT m l <;> rfl)
end Go.Proofs.Ytblpnklfimkfoaa
namespace Go.Abs
open Go.RowKit
def gv (x b:Bool) (v:Value):Value:=if x=b then v else zh
theorem adX (x b:Bool) (v:Value):dem (gv x b v)=gv x b (dem v):=by
 unfold gv;split
 ·
  rfl
 ·
  exact JU
theorem J5 {R:Type} {K:Value→zx→Option R} {p:ZB K} {m:M Value} {S:zx} (x b:Bool):gdK (.bool x) b m S K p=if x=b then zS (m S) K p else K zh S:=by
 cases x <;> cases b <;> rfl
section
variable {R:Type} {K:Value→zx→Option R} {p:ZB K} {S:zx} {x b c y z:Bool} {m m':M Value} {P:Program} {O:Ora} {t:TypeId} {v w u:Value}
theorem jX (h:x=b→m S=m' S):gdK (.bool x) b m S K p=gdK (.bool x) b m' S K p:=by
 rw [J5,J5]
 split
 ·
  rename_i hx;rw [h hx]
 ·
  rfl
theorem wM (h:m S=some (v,S)):gdK (.bool x) b m S K p=K (gv x b v) S:=by
 rw [J5]
 unfold gv
 split
 ·
  rw [h];rfl
 ·
  rfl
theorem xH (h:x=b):gv x b v=v:=if_pos h
theorem acd {fx:Bool}:gdK (.bool x) b (jA P fx t (gv x b v)) S K p=gdK (.bool x) b (jA P fx t v) S K p:=jX fun h=>by rw [xH h]
theorem Jd {f:Nat}:gdK (.bool x) b (zW P t (gv x b v) f) S K p=gdK (.bool x) b (zW P t v f) S K p:=jX fun h=>by rw [xH h]
theorem Ju:gdK (.bool x) b (jL (gv x b v)) S K p=gdK (.bool x) b (jL v) S K p:=jX fun h=>by rw [xH h]
theorem aek:gdK (.bool x) b (qO P t (gv x b v)) S K p=gdK (.bool x) b (qO P t v) S K p:=jX fun h=>by rw [xH h]
theorem Zq:gdK (.bool x) b (jv P t (gv x b v) w) S K p=gdK (.bool x) b (jv P t v w) S K p:=jX fun h=>by rw [xH h]
theorem Zz:gdK (.bool x) b (jv P t v (gv x b w)) S K p=gdK (.bool x) b (jv P t v w) S K p:=jX fun h=>by rw [xH h]
theorem agd {op:UnOp}:gdK (.bool x) b (aUn P op (gv x b v)) S K p=gdK (.bool x) b (aUn P op v) S K p:=jX fun h=>by rw [xH h]
theorem acf {hp dr:Bool} {t2:TypeId}:gdK (.bool x) b (wV P hp dr t t2 (gv x b v)) S K p=gdK (.bool x) b (wV P hp dr t t2 v) S K p:=jX fun h=>by rw [xH h]
theorem aa1 {op:BinOp}:gdK (.bool x) b (wz P op t (gv x b v) w) S K p=gdK (.bool x) b (wz P op t v w) S K p:=jX fun h=>by rw [xH h]
theorem abw {op:BinOp}:gdK (.bool x) b (wz P op t v (gv x b w)) S K p=gdK (.bool x) b (wz P op t v w) S K p:=jX fun h=>by rw [xH h]
theorem Ve {g:FuncId} {l:List Value}:gdK (.bool x) b (je P O g (gv x b v::l)) S K p=gdK (.bool x) b (je P O g (v::l)) S K p:=jX fun h=>by rw [xH h]
theorem XR {g:FuncId} {l:List Value}:gdK (.bool x) b (je P O g (u::gv x b v::l)) S K p=gdK (.bool x) b (je P O g (u::v::l)) S K p:=jX fun h=>by rw [xH h]
theorem KO {g:FuncId} {l:List Value}:gdK (.bool x) b (acJ (je P O) g (gv x b v::l)) S K p=gdK (.bool x) b (acJ (je P O) g (v::l)) S K p:=jX fun h=>by rw [xH h]
theorem Kz {g:FuncId} {l:List Value}:gdK (.bool x) b (acJ (je P O) g (u::gv x b v::l)) S K p=gdK (.bool x) b (acJ (je P O) g (u::v::l)) S K p:=jX fun h=>by rw [xH h]
theorem aed:gdK (.bool x) b (ret v) S K p=K (gv x b v) S:=wM rfl
theorem af0:gv x b (gv x b v)=gv x b v:=by unfold gv;split <;> rfl
theorem Vl:gdK (gv x c (.bool y)) b m S K p=gdK (.bool ((x == c) && (y == b))) true m S K p:=by
 unfold gv
 cases x <;> cases c <;> cases y <;> cases b <;> rfl
theorem ab1 {fx:Bool}:gdK (.bool ((x == c) && (y == b))) true (jA P fx t (gv x c v)) S K p=gdK (.bool ((x == c) && (y == b))) true (jA P fx t v) S K p:=jX fun h=>by rw [xH (by simp at h;exact h.1)]
theorem aaV {op:BinOp}:gdK (.bool ((x == c) && (y == b))) true (wz P op t (gv x c v) w) S K p=gdK (.bool ((x == c) && (y == b))) true (wz P op t v w) S K p:=jX fun h=>by rw [xH (by simp at h;exact h.1)]
theorem acj {op:BinOp}:gdK (.bool ((x == c) && (y == b))) true (wz P op t v (gv x c w)) S K p=gdK (.bool ((x == c) && (y == b))) true (wz P op t v w) S K p:=jX fun h=>by rw [xH (by simp at h;exact h.1)]
theorem adW:gdK (.bool x) c (qY (gv x c (.bool y)) (.bool true) (gv ((x == c) && (y == false)) true (.bool z))) S K p=K (gv x c (.bool (y || z))) S:=by
 unfold gv
 cases x <;> cases c <;> cases y <;> cases z <;> rfl
theorem abN:gdK (.bool x) c (qY (gv x c (.bool y)) (gv ((x == c) && (y == true)) true (.bool z)) (.bool false)) S K p=K (gv x c (.bool (y && z))) S:=by
 unfold gv
 cases x <;> cases c <;> cases y <;> cases z <;> rfl
theorem agj:(if x=true then Value.bool true else gv x false (.bool y))=.bool (x || y):=by cases x <;> rfl
theorem aep:(if x=true then gv x true (.bool y) else Value.bool false)=.bool (x && y):=by cases x <;> rfl
theorem agF:gv true true v=v:=rfl
theorem agy:gv false false v=v:=rfl
theorem aga:gv true false v=zh:=rfl
theorem ags:gv false true v=zh:=rfl
theorem ad7 {k:IntKind} {a d:Int}:gdK (.bool x) b (wz P .lss t (.int k a) (.int k d)) S K p=K (gv x b (.bool (decide (a < d)))) S:=wM (Qe k a d)
theorem aer {k:IntKind} {a d:Int}:gdK (.bool x) b (wz P .leq t (.int k a) (.int k d)) S K p=K (gv x b (.bool (decide (a≤d)))) S:=wM (YH k a d)
theorem aeE {k:IntKind} {a d:Int}:gdK (.bool x) b (wz P .gtr t (.int k a) (.int k d)) S K p=K (gv x b (.bool (decide (d < a)))) S:=wM (YP k a d)
theorem aef {k:IntKind} {a d:Int}:gdK (.bool x) b (wz P .geq t (.int k a) (.int k d)) S K p=K (gv x b (.bool (decide (d≤a)))) S:=wM (YB k a d)
theorem ad9 {k:IntKind} {a d:Int}:gdK (.bool x) b (wz P .eql t (.int k a) (.int k d)) S K p=K (gv x b (.bool (decide (a=d)))) S:=wM (Qj k a d)
theorem aej {k:IntKind} {a d:Int}:gdK (.bool x) b (wz P .neq t (.int k a) (.int k d)) S K p=K (gv x b (.bool (!decide (a=d)))) S:=wM (YV k a d)
theorem aee {k:IntKind} {a d:Int}:gdK (.bool x) b (wz P .add t (.int k a) (.int k d)) S K p=K (gv x b (.int k (k.wrap (a+d)))) S:=wM (Qi k a d)
theorem ad8 {k:IntKind} {a d:Int}:gdK (.bool x) b (wz P .sub t (.int k a) (.int k d)) S K p=K (gv x b (.int k (k.wrap (a - d)))) S:=wM (Ql k a d)
theorem adT:gdK (.bool x) b (aUn P .not (.bool y)) S K p=K (gv x b (.bool (!y))) S:=wM (by cases y <;> rfl)
end
theorem gvw:type_of% (ahi @adX (ahi @acd (ahi @Jd (ahi @Ju (ahi @aek (ahi @Zq (ahi @Zz (ahi @agd (ahi @acf (ahi @aa1 (ahi @abw (ahi @Ve (ahi @XR (ahi @KO (ahi @Kz (ahi @aed (ahi @af0 (ahi @Vl (ahi @ab1 (ahi @aaV (ahi @acj (ahi @adW (ahi @abN (ahi @agj (ahi @aep (ahi @agF (ahi @agy (ahi @aga (ahi @ags (ahi @ad7 (ahi @aer (ahi @aeE (ahi @aef (ahi @ad9 (ahi @aej (ahi @aee (ahi @ad8 @adT))))))))))))))))))))))))))))))))))))) :=
 ahi @adX (ahi @acd (ahi @Jd (ahi @Ju (ahi @aek (ahi @Zq (ahi @Zz (ahi @agd (ahi @acf (ahi @aa1 (ahi @abw (ahi @Ve (ahi @XR (ahi @KO (ahi @Kz (ahi @aed (ahi @af0 (ahi @Vl (ahi @ab1 (ahi @aaV (ahi @acj (ahi @adW (ahi @abN (ahi @agj (ahi @aep (ahi @agF (ahi @agy (ahi @aga (ahi @ags (ahi @ad7 (ahi @aer (ahi @aeE (ahi @aef (ahi @ad9 (ahi @aej (ahi @aee (ahi @ad8 @adT))))))))))))))))))))))))))))))))))))
end Go.Abs
namespace Go.Proofs.Ytblpnklfimkfoaa
open Go.Abs
structure wP where
 kind:Int
 index:Int
 view:Int
 value:Int
 k:Nat
 txt:List UInt8
def fR (r:wP):List Value:=[.int .i64 r.kind,.int .i64 r.index,.int .i64 r.view,.int .i64 r.value,by_ r.k r.txt]
abbrev rv (r:wP):Value:=.agg [Value.int .i64 r.kind,.int .i64 r.index,.int .i64 r.view,.int .i64 r.value,by_ r.k r.txt].toArray
def Big (n:Int):Prop:=-9223372036854775808≤n∧n < 9223372036854775808
structure wP.Ok (r:wP):Prop where
 okl:Okl r.k r.txt
 ne:r.k≠2
 len:r.txt.length≤140737488351232
 kind:Big r.kind
 index:Big r.index
 view:Big r.view
 value:Big r.value
abbrev rz:wP:=⟨0,0,0,0,0,[]⟩
theorem af5:rz.Ok:=by
 have z:Big 0:=⟨by omega,by omega⟩
 exact ⟨Okl.none,by decide,by simp,z,z,z,z⟩
theorem XK (r:wP):(fR r).length=5:=rfl
theorem Zj {r:wP} {d:Nat} (h:r.k≤2):jk (d+6) (rv r)=true:=by
 have h1:jk (d+5) (by_ r.k r.txt)=true:=Jp (d:=d+1) h fun _ _=>rfl
 refine abq ?_
 simp only [List.all_cons,List.all_nil,h1,Bool.and_true]
 rfl
theorem adP (r:wP):(fR r).all (·.oneCell')=true:=by
 simp only [fR,List.all_cons,List.all_nil,afq,af9,Bool.and_true]
theorem abD (r:wP):okq 3 (rv r)=true:=by
 have h:okq 2 (by_ r.k r.txt)=true:=by unfold by_ vs sv;split <;> rfl
 simp only [okq,List.toList_toArray,List.all_cons,List.all_nil,h,Bool.and_true]
section
variable {S:zx} {q e:Nat} {m:wP} {own:Own}
theorem acU (h:S.get q=some (.cells (fR m) own e)):jA zi false 3 (.pointer (some ⟨q,0+0,none⟩)) S=some (.int .i64 m.kind,S):=kQ (t:=3) (o:=0+0) h QH rfl
theorem acE (h:S.get q=some (.cells (fR m) own e)):jA zi false 3 (.pointer (some ⟨q,0+1,none⟩)) S=some (.int .i64 m.index,S):=kQ (t:=3) (o:=0+1) h QH rfl
theorem acX (h:S.get q=some (.cells (fR m) own e)):jA zi false 3 (.pointer (some ⟨q,0+2,none⟩)) S=some (.int .i64 m.view,S):=kQ (t:=3) (o:=0+2) h QH rfl
theorem adC (h:S.get q=some (.cells (fR m) own e)):jA zi false 3 (.pointer (some ⟨q,0+3,none⟩)) S=some (.int .i64 m.value,S):=kQ (t:=3) (o:=0+3) h QH rfl
theorem adN (h:S.get q=some (.cells (fR m) own e)) (hk:m.k≠2):jA zi false 26 (.pointer (some ⟨q,0+4,none⟩)) S=some (by_ m.k m.txt,S):=by
 rw [Y9 (o:=0+4) (v:=by_ m.k m.txt) h yY rfl (fun l h=>by unfold by_ vs sv at h;split at h <;> cases h),abe,if_neg hk]
theorem KQ (h:S.get q=some (.cells (fR m) own e)) (hk:m.k≠2):jA zi false 28 (.pointer (some ⟨q,0,none⟩)) S=some (rv m,S):=by
 rw [aam h]
 simp only [adA,afh,if_neg hk]
end
abbrev acz (m:wP):zx:=zx.empty.push (.cells (fR m) (.own []) 0)
theorem afa (m:wP):YJ (rv m) zx.empty=some (.pointer (some ⟨0,0,none⟩),acz m):=rfl
theorem Yr (m:wP):(acz m).get 0=some (.cells (fR m) (.own []) 0):=rfl
abbrev KW (a b:wP):zx:=(acz a).push (.cells (fR b) (.own []) 0)
theorem agW (a b:wP):YJ (rv b) (acz a)=some (.pointer (some ⟨1,0,none⟩),KW a b):=by kernel_rfl
theorem abd (a b:wP):(KW a b).get 0=some (.cells (fR a) (.own []) 0):=by kernel_rfl
theorem abH (a b:wP):(KW a b).get 1=some (.cells (fR b) (.own []) 0):=by kernel_rfl
theorem afK (S:zx):qW zi 28 S=some (.pointer (some ⟨S.next,0,none⟩),S.push (.cells (fR rz) (.own []) 0)):=by kernel_rfl
abbrev ad1 (S:zx) (q:Nat) (x:wP):zx:=(S.kills []).set q (.cells (fR x) (.own []) 0)
theorem ZE (S:zx) (q:Nat) (x:wP):(ad1 S q x).get q=some (.cells (fR x) (.own []) 0):=by rw [zx.jw,if_pos rfl]
theorem abm {S:zx} {q k:Nat} {x:wP} (h:k≠q):(ad1 S q x).get k=S.get k:=by rw [zx.jw,if_neg h];rfl
theorem agc {S:zx} {q:Nat} {x:wP} (h:S.get q=some (.cells (fR x) (.own []) 0)) (y:wP):qG zi 28 (.pointer (some ⟨q,0,none⟩)) (rv y) S=some (zh,ad1 S q y):=by
 rw [kJ (x:=rv y) (n:=5) h qo (by rw [xC];rfl) (by rw [xC,List.toList_toArray];exact adP y) (by simp [fR]),xC,List.toList_toArray];rfl
theorem ab8 (m:wP) (S:zx):∃ S2,qG zi 28 (.pointer (some ⟨S.next,0,none⟩)) (rv m) (S.push (.cells (fR rz) (.own []) 0))=some (zh,S2)∧S2.get S.next=some (.cells (fR m) (.own []) 0)∧Ext S S2∧S.next < S2.next :=
 acv S (by rw [xC];rfl) qo rfl (adP m)
theorem aeP (m:wP) (S:zx):∃ S2,YJ (rv m) S=some (.pointer (some ⟨S.next,0,none⟩),S2)∧S2.get S.next=some (.cells (fR m) (.own []) 0)∧Ext S S2∧S.next < S2.next:=agh (rv m) S
def aev (n:Int):Bool:=decide (-1≤n) && decide (n≤1073741824)
def Zy (r:wP):List Int:=[r.kind,r.index,r.view,r.value]
def wB (r:wP):Bool:=(Zy r).all aev && decide ((r.txt.length:Int)≤1024)
theorem Jo {n:Int}:aev n=true ↔ -1≤n∧n≤1073741824:=by simp [aev]
theorem kT {r:wP} (h:wB r=true):(∀ n ∈ Zy r,-1≤n∧n≤1073741824)∧r.txt.length≤1024:=by
 unfold wB at h
 rw [Bool.and_eq_true,List.all_eq_true,decide_eq_true_eq] at h
 exact ⟨fun n hn=>Jo.1 (h.1 n hn),by omega⟩
theorem bs4 (a b c d:Int) (S:zx):jh zi 56 4 [(0,.int .i64 a),(1,.int .i64 b),(2,.int .i64 c),(3,.int .i64 d)] S=some (iz 2 [a,b,c,d],S):=by kernel_rfl
theorem zC.round {k:Nat} {l:List Int} (hk:Okl k l) (hl:l.length=4) {S:zx}:∀ (suf pre:List Int) {T:List Value} {r:St},yH (zG zi O false zC.jB) T S=r→T.length=30 →
  T.getD 13 zh=iz k l→T.getD 14 zh=.int .i64 4→T.getD 15 zh=.int .i64 pre.length→l=pre++suf →
  ∃ e T',r=some (e,T',S)∧if suf.all aev then e=.exit 0∧T'.length=30∧T'.getD 1 zh=T.getD 1 zh else e=.ret∧T'.getD 2 zh=.bool false:=by
 intro suf
 induction suf with
 | nil =>
  intro pre T r hL hT h13 h14 h15 hpre
  have hTe:=zC.eta hT
  rw [h13,h14,h15] at hTe
  have hr:zG zi O false zC.jB T S=zG zi O false zC.jB T S:=rfl
  have d1:¬ (pre.length:Int) < 4:=by rw [hpre] at hl;simp at hl;omega
  conv at hr =>
   rhs
   rw [hTe]
   simp only [zC.jB,zC.code,zC.rs,zSs,reduceIte,zk,zn,zo,zq,d1]
  exact ⟨_,_,hL.symm.trans (jE hr (by simp)),rfl,rfl,rfl⟩
 | cons x suf ih =>
  intro pre T r hL hT h13 h14 h15 hpre
  have hTe:=zC.eta hT
  rw [h13,h14,h15] at hTe
  have hr:zG zi O false zC.jB T S=zG zi O false zC.jB T S:=rfl
  have d1:(pre.length:Int) < 4:=by rw [hpre] at hl;simp at hl;omega
  have e1:∀ S,jv zi 56 (iz k l) (.int .i64 pre.length) S=some (EP [.int .i64 x],S):=fun S=>by
   rw [aeL hk (by omega) (by omega)];rw [QL hpre]
  have wi:IntKind.i64.wrap ((pre.length:Int)+1)=((pre++[x]).length:Int):=by rw [wrap_i64 (by omega) (by omega)];simp
  rw [List.all_cons]
  by_cases h1:x < -1
  ·
   have hx:aev x=false:=by rw [Bool.eq_false_iff];intro h;have:=Jo.1 h;omega
   rw [hx,Bool.false_and]
   conv at hr =>
    rhs
    rw [hTe]
    simp only [zC.jB,zC.code,zC.rs,zSs,reduceIte,zk,zn,zo,zq,d1,e1,xw,decide_eq_true h1]
   exact ⟨_,_,hL.symm.trans (jE hr (by simp)),rfl,rfl⟩
  ·
   by_cases h2:1073741824 < x
   ·
    have hx:aev x=false:=by rw [Bool.eq_false_iff];intro h;have:=Jo.1 h;omega
    rw [hx,Bool.false_and]
    conv at hr =>
     rhs
     rw [hTe]
     simp only [zC.jB,zC.code,zC.rs,zSs,reduceIte,zk,zn,zo,zq,d1,e1,xw,decide_eq_false h1,decide_eq_true h2]
    exact ⟨_,_,hL.symm.trans (jE hr (by simp)),rfl,rfl⟩
   ·
    have hx:aev x=true:=Jo.2 (by omega)
    rw [hx,Bool.true_and]
    conv at hr =>
     rhs
     rw [hTe]
     simp only [zC.jB,zC.code,zC.rs,zSs,reduceIte,zk,zn,zo,zq,d1,e1,xw,decide_eq_false h1,decide_eq_false h2,wi]
    obtain ⟨e,T',g1,g2⟩:=ih (pre++[x]) ((wH hr).symm.trans hL) rfl rfl rfl rfl (by simp [hpre])
    exact ⟨e,T',g1,g2⟩
theorem zC.v {r:wP} (hr0:r.Ok) (S:zx):je zi O zC.id [rv r] S=some (.bool (wB r),S):=by
 obtain ⟨T,hTe⟩:∃ T,T=(rv r::zh::zh::zh::zh::zh::zh::zh::zh::zh::zh::zh::zh::zh::zh::zh::zh::zh::zh::zh::zh::zh::zh::zh::zh::zh::zh::zh::zh::zh::[]):=⟨_,rfl⟩
 have hr:zG zi O false zC.code T zx.empty=zG zi O false zC.code T zx.empty:=rfl
 have g0:=Yr r
 have hc:[rv r].all (jk 16)=true:=all1 (Zj hr0.okl.le)
 have ln:∀ S,qO zi 56 (iz 2 [r.kind,r.index,r.view,r.value]) S=some (.int .i64 4,S):=fun S=>Vh Okl.own
 conv at hr =>
  rhs
  rw [hTe]
  simp only [zC.code,zC.rs,zSs,reduceIte,zk,zn,zo,zq,afa,xJ,xA,xK,xq,acU g0,acE g0,acX g0,adC g0,bs4,ln]
 generalize hL:yH (zG zi O false zC.jB) _ _=w at hr
 obtain ⟨e,T',rfl,g⟩:=zC.round (Okl.own (l:=[r.kind,r.index,r.view,r.value])) rfl [r.kind,r.index,r.view,r.value] [] hL rfl rfl rfl rfl rfl
 unfold wB Zy
 cases h:[r.kind,r.index,r.view,r.value].all aev with
 | true =>
  rw [h] at g
  obtain ⟨rfl,g2,g3⟩:=g
  have g3:T'.getD 1 zh=.pointer (some ⟨0,0,none⟩):=g3
  have hTe':=zC.eta g2
  rw [g3] at hTe'
  have lt:∀ S,qO zi 26 (by_ r.k r.txt) S=some (.int .i64 r.txt.length,S):=fun S=>qp hr0.okl
  conv at hr =>
   rhs
   rw [hTe']
   simp only [zC.code,zC.rs,zSs,reduceIte,zk,zn,zo,zq,xI,adN g0 hr0.ne,lt]
  rw [hTe] at hr
  rw [Bool.true_and]
  exact zC.runs hr (.inr rfl) hc rfl
 | false =>
  rw [h] at g
  obtain ⟨rfl,g2⟩:=g
  conv at hr =>
   rhs
   simp only [zSs,reduceIte,zk,zn,zo,zq]
  rw [hTe] at hr
  have hrun:=zC.runs (S:=S) hr (.inr rfl) hc (by rw [g2];rfl)
  rw [g2] at hrun
  rw [Bool.false_and]
  exact hrun
def JB (r:wP):List UInt8:=encs (Zy r)++Qr r.txt
def wQ (r:wP):List UInt8:=Qr (JB r)
def acT (r:wP):Value:=if wB r then .tuple #[by_ 2 (wQ r),.int .i64 0] else .tuple #[.slice none 0 0,.int .i64 51]
theorem Y0 {l:List UInt8} (h:l.length≤1000000000):(Qr l).length≤l.length+10:=by
 unfold Qr
 have:=xE (n:=l.length) (by omega)
 rw [List.length_append];omega
theorem Z7 {r:wP} (h:wB r=true):(JB r).length≤1100:=by
 obtain ⟨h1,h2⟩:=kT h
 have e1:(encs (Zy r)).length≤40:=YA (l:=Zy r) (fun n hn=>by have:=h1 n hn;omega)
 have e2:=Y0 (l:=r.txt) (by omega)
 unfold JB
 rw [List.length_append];omega
theorem Y7 {r:wP} (h:wB r=true):(wQ r).length≤1200:=by
 have:=Z7 h
 have:=Y0 (l:=JB r) (by omega)
 unfold wQ;omega
theorem vC (r:wP):0 < (wQ r).length:=by
 unfold wQ Qr
 have:=Xp (JB r).length
 rw [List.length_append];omega
theorem zI.w {r:wP} (hr0:r.Ok) (hR:wB r=true):(∀ S,je zi O 32 [iz 1 [r.kind,r.index,r.view,r.value]] S=some (.tuple #[by_ 2 (encs (Zy r)),.int .i64 0],S))∧(∀ S,je zi O 33 [by_ r.k r.txt] S=some (.tuple #[by_ 2 (Qr r.txt),.int .i64 0],S)) ∧
  (∀ S,je zi O 33 [by_ 1 (JB r)] S=some (.tuple #[by_ 2 (wQ r),.int .i64 0],S))∧(∀ S,jF zi 26 26 (by_ 2 (encs (Zy r))) (by_ 1 (Qr r.txt)) S=some (by_ 2 (JB r),S)):=by
 obtain ⟨few,hl⟩:=kT hR
 have hi:=Z7 hR
 have el:=Y0 (l:=r.txt) (by omega)
 refine ⟨fun S=>?_,fun S=>?_,fun S=>?_,fun S=>?_⟩
 ·
  rw [zJ.v (l:=[r.kind,r.index,r.view,r.value]) Okl.read (by decide) (fun n hn=>by have:=few n hn;omega) S,ac5 (l:=[r.kind,r.index,r.view,r.value]) (by simp) (fun n hn=>(few n hn).1) (by simp)];rfl
 ·
  rw [jH.v hr0.okl hr0.ne S,acK,if_neg (by omega)]
 ·
  rw [jH.v (l:=JB r) Okl.read (by decide) S,acK,if_neg (by omega)];rfl
 ·
  have e1:(encs (Zy r)).length≤40:=YA (l:=Zy r) (fun n hn=>by have:=few n hn;omega)
  rw [qU Okl.own (by decide) Okl.read (by omega),if_neg (by omega)];rfl
theorem zI.v {r:wP} (hr0:r.Ok) (S:zx):je zi O zI.id [rv r] S=some (acT r,S):=by
 obtain ⟨T,hTe⟩:∃ T,T=(rv r::zh::zh::zh::zh::zh::zh::zh::zh::zh::zh::zh::zh::zh::zh::zh::zh::zh::zh::zh::zh::zh::zh::zh::zh::zh::zh::zh::zh::zh::zh::zh::zh::zh::zh::zh::zh::zh::zh::zh::zh::zh::[]):=⟨_,rfl⟩
 have hr:zG zi O false zI.code T zx.empty=zG zi O false zI.code T zx.empty:=rfl
 have g0:=Yr r
 have hc:[rv r].all (jk 16)=true:=all1 (Zj hr0.okl.le)
 have c0:=fun S=>zC.v hr0 S
 unfold acT
 cases hR:wB r
 ·
  rw [hR] at c0
  conv at hr =>
   rhs
   rw [hTe]
   simp only [zI.code,zI.rs,zSs,reduceIte,zk,zn,zo,zq,afa,KQ g0 hr0.ne,c0]
  rw [hTe] at hr
  exact zI.runs hr (.inr rfl) rfl rfl hc rfl
 ·
  rw [hR] at c0
  obtain ⟨w1,w2,w3,w4⟩:=zI.w hr0 hR
  conv at hr =>
   rhs
   rw [hTe]
   simp only [zI.code,zI.rs,zSs,reduceIte,zk,zn,zo,zq,afa,KQ g0 hr0.ne,c0,xJ,xA,xK,xq,xI,acU g0,acE g0,acX g0,adC g0,adN g0 hr0.ne,if_neg hr0.ne,bs4,w1,w2,w3,w4]
  rw [hTe] at hr
  exact zI.runs hr (.inr rfl) (by simp only [List.getD_cons_succ,List.getD_cons_zero,jg,jc,zO,zX,jd]) rfl hc (vY (all2 (Yx (k:=2) (Nat.le_refl 2)) rfl))
end Go.Proofs.Ytblpnklfimkfoaa
namespace Go.Proofs.Ytblpnklfimkfoaa
open Go.Abs
theorem Kw {k:Nat} {l:List Int} {i:Int} {x:Int} {m:Nat} (h:Okl k l) (hi:i=(m:Int)) (hx:l[m]?=some x) (S:zx):jv zi 56 (iz k l) (.int .i64 i) S=some (EP [.int .i64 x],S):=by
 obtain ⟨h1,h2⟩:=List.getElem?_eq_some_iff.mp hx
 subst hi
 rw [aeL h (by omega) (by omega)]
 simp [← h2]
theorem afw (l:List UInt8):yT 4 l=none∨∃ a b c d r,yT 4 l=some ([a,b,c,d],r)∧r.length≤l.length:=by
 cases h:yT 4 l with
 | none=>exact .inl rfl
 | some ar =>
  obtain ⟨a,r⟩:=ar
  obtain ⟨h1,h2⟩:=V8 h
  match a,h1 with
  | [x,y,z,w],_=>exact .inr ⟨x,y,z,w,r,rfl,h2⟩
theorem ZG {x:wP} (hx:wB x=true) (s:List UInt8):yT 4 (JB x++s)=some (Zy x,Qr x.txt++s):=by
 obtain ⟨f1,_⟩:=kT hx
 exact (ZY _ _ _ _).mpr ⟨rfl,by rw [JB,List.append_assoc],fun n hn=>by have:=f1 n hn;unfold Few;omega⟩
def vH (x y:wP):Prop:=x.kind=y.kind∧x.index=y.index∧x.view=y.view∧x.value=y.value∧x.txt=y.txt
theorem vH.refl (x:wP):vH x x:=⟨rfl,rfl,rfl,rfl,rfl⟩
theorem vH.symm {x y:wP} (h:vH x y):vH y x:=⟨h.1.symm,h.2.1.symm,h.2.2.1.symm,h.2.2.2.1.symm,h.2.2.2.2.symm⟩
theorem vH.trans {x y z:wP} (h:vH x y) (k:vH y z):vH x z:=⟨h.1.trans k.1,h.2.1.trans k.2.1,h.2.2.1.trans k.2.2.1,h.2.2.2.1.trans k.2.2.2.1,h.2.2.2.2.trans k.2.2.2.2⟩
theorem vH.like {x y:wP} (h:vH x y):wB x=wB y∧JB x=JB y∧wQ x=wQ y:=by
 obtain ⟨h1,h2,h3,h4,h5⟩:=h
 simp only [wB,wQ,JB,Zy,h1,h2,h3,h4,h5,and_self]
theorem YN {x y:wP} {s t:List UInt8} (hx:wB x=true) (hy:wB y=true) (h:wQ x++s=wQ y++t):vH x y∧s=t:=by
 have ix:=Z7 hx;have iy:=Z7 hy
 have e1:=yP (l:=JB x) (r:=s) (by omega)
 have e2:=yP (l:=JB y) (r:=t) (by omega)
 have h:Qr (JB x)++s=Qr (JB y)++t:=h
 rw [h,e2] at e1
 simp only [Option.some.injEq,Prod.mk.injEq] at e1
 obtain ⟨e3,e4⟩:=e1
 have f1:=ZG hx []
 have f2:=ZG hy []
 rw [List.append_nil,List.append_nil] at f1 f2
 rw [← e3,f2] at f1
 simp only [Option.some.injEq,Prod.mk.injEq,Zy,List.cons.injEq,and_true] at f1
 obtain ⟨⟨a1,a2,a3,a4⟩,a5⟩:=f1
 have t1:=yP (l:=x.txt) (r:=[]) (by have:=(kT hx).2;omega)
 have t2:=yP (l:=y.txt) (r:=[]) (by have:=(kT hy).2;omega)
 rw [List.append_nil] at t1 t2
 rw [← a5,t2] at t1
 simp only [Option.some.injEq,Prod.mk.injEq,and_true] at t1
 exact ⟨⟨a1.symm,a2.symm,a3.symm,a4.symm,t1.symm⟩,e4.symm⟩
def Y5 (l:List UInt8) (r:wP) (ok:Bool):Prop:=r.Ok∧((ok=true∧wB r=true∧l=JB r)∨(ok=false∧∀ x,wB x=true→l≠JB x))
theorem Yu {n:Int} (h:Few n):Big n:=by unfold Few at h;unfold Big;omega
theorem acL {l:List UInt8} (h:yT 4 l=none):Y5 l rz false:=⟨af5,.inr ⟨rfl,fun x hx hl=>by
 have:=ZG hx []
 rw [List.append_nil,← hl,h] at this;cases this⟩⟩
theorem aaG {l s:List UInt8} {a b c d:Int} (h:yT 4 l=some ([a,b,c,d],s)) (h2:WJ s=none):Y5 l rz false:=⟨af5,.inr ⟨rfl,fun x hx hl=>by
 have:=ZG hx []
 rw [List.append_nil,← hl,h] at this
 simp only [Option.some.injEq,Prod.mk.injEq] at this
 have t:=yP (l:=x.txt) (r:=[]) (by have:=(kT hx).2;omega)
 rw [← this.2,h2] at t;cases t⟩⟩
theorem adK {l s t u:List UInt8} {a b c d:Int} (hl:l.length≤140737488351232) (h:yT 4 l=some ([a,b,c,d],s)) (h2:WJ s=some (t,u)):Y5 l ⟨a,b,c,d,1,t⟩ (decide ((u.length:Int)=0) && wB ⟨a,b,c,d,1,t⟩):=by
 obtain ⟨_,g2,few⟩:=(ZY _ _ _ _).mp h
 obtain ⟨f1,f2⟩:=WT h2
 refine ⟨⟨Okl.read,by show (1:Nat)≠2;decide,by show t.length≤_;omega,Yu (few _ (by simp)),Yu (few _ (by simp)),Yu (few _ (by simp)),Yu (few _ (by simp))⟩,?_⟩
 cases hR:(decide ((u.length:Int)=0) && wB ⟨a,b,c,d,1,t⟩)
 ·
  refine .inr ⟨rfl,fun x hx hl=>?_⟩
  have:=ZG hx []
  rw [List.append_nil,← hl,h] at this
  simp only [Option.some.injEq,Prod.mk.injEq,Zy,List.cons.injEq,and_true] at this
  obtain ⟨⟨i1,i2,i3,i4⟩,i5⟩:=this
  have t2:=yP (l:=x.txt) (r:=[]) (by have:=(kT hx).2;omega)
  rw [← i5,h2] at t2
  simp only [Option.some.injEq,Prod.mk.injEq] at t2
  have hs:vH ⟨a,b,c,d,1,t⟩ x:=⟨i1,i2,i3,i4,t2.1⟩
  rw [hs.like.1,hx,t2.2] at hR
  simp at hR
 ·
  rw [Bool.and_eq_true,decide_eq_true_eq] at hR
  refine .inl ⟨rfl,hR.2,?_⟩
  have hu:u=[]:=List.length_eq_zero_iff.1 (by omega)
  rw [g2,f1,hu,List.append_nil]
  rfl
theorem zF.v {k:Nat} {l:List UInt8} (hk:Okl k l) (k2:k≠2) (hl:l.length≤140737488351232):∃ r ok,Y5 l r ok∧∀ S,je zi O zF.id [by_ k l] S=some (.tuple #[rv r,.bool ok],S):=by
 have a1:qW zi 28 zx.empty=some (.pointer (some ⟨0,0,none⟩),acz rz):=afK zx.empty
 have g1:=Yr rz
 have ne0:(0:Nat)≠2:=by decide
 have cl:[by_ k l].all (jk 16)=true:=all1 (Yx (k:=k) hk.le)
 obtain ⟨T,hTe⟩:∃ T,T=(by_ k l::zh::zh::zh::zh::zh::zh::zh::zh::zh::zh::zh::zh::zh::zh::zh::zh::zh::zh::zh::zh::zh::zh::zh::zh::zh::zh::zh::zh::zh::zh::zh::zh::zh::zh::zh::zh::zh::zh::zh::zh::zh::zh::zh::zh::zh::zh::zh::zh::zh::zh::zh::zh::[]):=⟨_,rfl⟩
 have hr:zG zi O false zF.code T zx.empty=zG zi O false zF.code T zx.empty:=rfl
 have c1:=fun S=>zA.v (many:=4) hk k2 (by omega) S
 have r1:∀ k0 k1,Jv k0 k1 4 l=_:=fun k0 k1=>Xd (m:=4) (by decide) (by decide)
 rw [r1] at c1
 have z0:∀ S,yR zi 28 [] S=some (rv rz,S):=fun S=>VD S
 rcases afw l with h | ⟨a,b,c,d,s,h,hlr⟩
 ·
  rw [h] at c1
  have s1:=agc g1 rz
  refine ⟨rz,false,acL h,fun S=>?_⟩
  conv at hr =>
   rhs
   rw [hTe]
   simp only [zF.code,zF.rs,zSs,reduceIte,zk,zn,zo,zq,if_neg k2,a1,c1,z0,s1]
  rw [hTe] at hr
  exact zF.runs hr (.inr rfl) (KQ (ZE _ 0 rz) ne0) rfl rfl cl rfl
 ·
  rw [h] at c1
  have c2:=fun S=>zM.v (k:=1) (l:=s) Okl.read (by decide) (by omega) S
  unfold X7 at c2
  have a2:qW zi 28 (acz rz)=some (.pointer (some ⟨1,0,none⟩),KW rz rz):=afK (acz rz)
  have s1:=agc (abH rz rz) rz
  have g2:=ZE (KW rz rz) 1 rz
  have g3:(ad1 (KW rz rz) 1 rz).get 0=some (.cells (fR rz) (.own []) 0):=(abm (by decide)).trans (abd rz rz)
  generalize ad1 (KW rz rz) 1 rz=A2 at s1 g2 g3
  cases ht:WJ s with
  | none =>
   rw [ht] at c2
   have s3:=agc g3 rz
   refine ⟨rz,false,aaG h ht,fun S=>?_⟩
   conv at hr =>
    rhs
    rw [hTe]
    simp only [zF.code,zF.rs,zSs,reduceIte,zk,zn,zo,zq,if_neg k2,a1,c1,c2,z0,a2,s1,KQ g2 ne0,abf (abD _),vX g2,s3]
   rw [hTe] at hr
   exact zF.runs hr (.inr rfl) (KQ (ZE _ 0 rz) ne0) rfl rfl cl rfl
  | some tu =>
   obtain ⟨t,u⟩:=tu
   rw [ht] at c2
   have i0:=fun S=>Kw (k:=1) (i:=0) (m:=0) (l:=[a,b,c,d]) Okl.read rfl rfl S
   have i1:=fun S=>Kw (k:=1) (i:=1) (m:=1) (l:=[a,b,c,d]) Okl.read rfl rfl S
   have i2:=fun S=>Kw (k:=1) (i:=2) (m:=2) (l:=[a,b,c,d]) Okl.read rfl rfl S
   have i3:=fun S=>Kw (k:=1) (i:=3) (m:=3) (l:=[a,b,c,d]) Okl.read rfl rfl S
   have hP:=adK hl h ht
   have ne1:(1:Nat)≠2:=by decide
   have bd:=fun S=>vJ (y0:=.int .i64 a) (y1:=.int .i64 b) (y2:=.int .i64 c) (y3:=.int .i64 d) (y4:=by_ 1 t) Zb Zb Zb Zb acS S
   have s2:qG zi 28 (.pointer (some ⟨1,0,none⟩)) (.agg [Value.int .i64 a,.int .i64 b,.int .i64 c,.int .i64 d,by_ 1 t].toArray) A2=some (zh,ad1 A2 1 ⟨a,b,c,d,1,t⟩):=agc g2 ⟨a,b,c,d,1,t⟩
   have q1:=ZE A2 1 ⟨a,b,c,d,1,t⟩
   have q0:(ad1 A2 1 ⟨a,b,c,d,1,t⟩).get 0=some (.cells (fR rz) (.own []) 0):=(abm (by decide)).trans g3
   generalize ad1 A2 1 ⟨a,b,c,d,1,t⟩=A3 at s2 q1 q0
   have s3:=agc q0 ⟨a,b,c,d,1,t⟩
   have c3:=fun S=>zC.v hP.1 S
   have lu:∀ S,qO zi 26 (by_ 1 u) S=some (.int .i64 u.length,S):=fun S=>qp Okl.read
   refine ⟨_,_,hP,fun S=>?_⟩
   conv at hr =>
    rhs
    rw [hTe]
    simp only [zF.code,zF.rs,zSs,reduceIte,zk,zn,zo,zq,if_neg k2,a1,c1,c2,z0,a2,s1,i0,i1,i2,i3,xw,bd,s2,KQ q1 ne1,abf (abD _),lu,wM (KQ q1 ne1),wM (c3 _),gvw,vX q1,s3]
   rw [hTe] at hr
   exact zF.runs hr (.inr rfl) (KQ (ZE A3 0 ⟨a,b,c,d,1,t⟩) ne1) rfl rfl cl (vY (all2 (Zj hP.1.okl.le) rfl))
def JO (l:List UInt8) (rs:List wP) (n:Nat):Prop:=(∀ r ∈ rs,r.Ok∧wB r=true)∧n=(rs.flatMap wQ).length∧∃ rest,l=rs.flatMap wQ++rest∧∀ x t,wB x=true→rest≠wQ x++t
inductive kE:List wP→List wP→Prop
 | nil:kE [] []
 | cons {x y:wP} {l m:List wP} (h:vH x y) (k:kE l m):kE (x::l) (y::m)
theorem VX:∀ (a b:List wP) (l:List UInt8) (n m:Nat),JO l a n→JO l b m→kE a b∧n=m:=by
 intro a
 induction a with
 | nil =>
  intro b l n m ⟨_,h2,rest,h3,h4⟩ ⟨k1,k2,rest2,k3,k4⟩
  cases b with
  | nil=>exact ⟨.nil,by rw [h2,k2]⟩
  | cons y b =>
   rw [List.flatMap_nil,List.nil_append] at h3
   exact absurd (h3.symm.trans (k3.trans (by rw [List.flatMap_cons,List.append_assoc]))) (h4 y _ (k1 y (by simp)).2)
 | cons x a ih =>
  intro b l n m ⟨h1,h2,rest,h3,h4⟩ ⟨k1,k2,rest2,k3,k4⟩
  cases b with
  | nil =>
   rw [List.flatMap_nil,List.nil_append] at k3
   exact absurd (k3.symm.trans (h3.trans (by rw [List.flatMap_cons,List.append_assoc]))) (k4 x _ (h1 x (by simp)).2)
  | cons y b =>
   rw [List.flatMap_cons,List.append_assoc] at h3 k3
   obtain ⟨e1,e2⟩:=YN (h1 x (by simp)).2 (k1 y (by simp)).2 (h3.symm.trans k3)
   obtain ⟨i1,i2⟩:=ih b (a.flatMap wQ++rest) _ _ ⟨fun r hr=>h1 r (by simp [hr]),rfl,rest,rfl,h4⟩ ⟨fun r hr=>k1 r (by simp [hr]),rfl,rest2,e2,k4⟩
   refine ⟨.cons e1 i1,?_⟩
   rw [h2,k2,List.flatMap_cons,List.flatMap_cons,List.length_append,List.length_append,i2,e1.like.2.2]
abbrev rl (k:Nat) (l:List wP):Value:=vs fR 5 k l
theorem Xn (r:wP) (S:zx):jh zi 22 1 [(0,rv r)] S=some (rl 2 [r],S):=by kernel_rfl
theorem XA {k:Nat} {l:List wP} {r:wP} {S:zx} (h:Okl k l) (hk:k≠1) (hl:l.length≤2000000000000):jF zi 22 22 (rl k l) (rl 2 [r]) S=some (rl 2 (l++[r]),S):=by
 rw [Zc yO qo QD rfl QI (by omega) yO XK adP h hk Okl.own (by simp;omega) (by simp;omega),if_neg (fun h=>by have:=h.2;simp at this)]
end Go.Proofs.Ytblpnklfimkfoaa
namespace Go.Proofs.Ytblpnklfimkfoaa
open Go.Abs
theorem afj {k:Nat} {l:List UInt8} {m:Int} {S:zx} (h:Okl k l) (h0:0≤m) (h1:m≤l.length):y5 zi 26 (by_ k l) (some (.int .i64 m)) none S=some (by_ (if k=2 then 1 else k) (l.drop m.toNat),S):=by
 rw [Zw h (i:=m) (j:=l.length) rfl rfl h0 h1 (by omega)]
 congr 2
 rw [List.take_of_length_le (by rw [List.length_drop];omega)]
theorem Vk:∀ (rs:List wP),rs.length≤(rs.flatMap wQ).length
 | []=>by simp
 | r::rs=>by
  have:=Vk rs;have:=vC r
  rw [List.flatMap_cons,List.length_append,List.length_cons];omega
theorem adJ {k d:Nat} {l:List wP} (h:k≤2) (hl:∀ r ∈ l,r.Ok):jk (d+12) (rl k l)=true:=Jp (d:=d+8) h fun r hr=>by
 have h3:jk (d+8) (by_ r.k r.txt)=true:=Jp (d:=d+4) (hl r hr).okl.le fun _ _=>rfl
 simp only [fR,List.all_cons,List.all_nil,h3,Bool.and_true]
 rfl
section
variable {k:Nat} {l:List UInt8}
theorem zB.round (hk:Okl k l) (k2:k≠2) (hl:l.length≤1000000000000):∀ (n:Nat) (suf:List UInt8) (out:List wP) {T:List Value} {r:St} {S:zx},yH (zG zi O false zB.jB) T S=r→T.length=43→suf.length≤n →
  T.getD 0 zh=by_ k l→T.getD 4 zh=rl (if out=[] then 0 else 2) out→T.getD 5 zh=.int .i64 (out.flatMap wQ).length→l=out.flatMap wQ++suf→(∀ r ∈ out,r.Ok∧wB r=true) →
  ∃ T' S' rs m,r=some (.exit 0,T',S')∧T'.length=43∧T'.getD 4 zh=rl (if rs=[] then 0 else 2) rs∧T'.getD 5 zh=.int .i64 (m:Nat)∧JO l rs m:=by
 intro n
 induction n with
 | zero =>
  intro suf out T r S hL hT hn h0 h4 h5 hpre hout
  have hs:suf=[]:=List.length_eq_zero_iff.1 (by omega)
  have hTe:=zB.eta hT
  rw [h0,h4,h5] at hTe
  have hr:zG zi O false zB.jB T S=zG zi O false zB.jB T S:=rfl
  have d1:¬ ((out.flatMap wQ).length:Int) < (l.length:Int):=by rw [hpre,hs];simp
  conv at hr =>
   rhs
   rw [hTe]
   simp only [zB.jB,zB.code,zB.rs,zSs,reduceIte,zk,zn,zo,zq,if_neg k2,qp hk,goInt,d1]
  refine ⟨_,_,out,_,hL.symm.trans (jE hr (by simp)),rfl,rfl,rfl,hout,rfl,[],by rw [hpre,hs],fun x t hx h=>?_⟩
  have:=congrArg List.length h
  have:=vC x
  rw [List.length_append,List.length_nil] at *
  omega
 | succ n ih =>
  intro suf out T r S hL hT hn h0 h4 h5 hpre hout
  have hTe:=zB.eta hT
  rw [h0,h4,h5] at hTe
  have hr:zG zi O false zB.jB T S=zG zi O false zB.jB T S:=rfl
  have hll:l.length=(out.flatMap wQ).length+suf.length:=by rw [hpre,List.length_append]
  by_cases d1:((out.flatMap wQ).length:Int) < (l.length:Int)
  ·
   have sl:=fun S=>afj (S:=S) hk (m:=(out.flatMap wQ).length) (by omega) (by omega)
   rw [Int.toNat_natCast,show l.drop (out.flatMap wQ).length=suf by rw [hpre,List.drop_left],if_neg k2] at sl
   have hk0:k=1:=by
    have:=hk.le
    by_cases h0:k=0
    ·
     have:=hk.nil h0;rw [this] at d1;simp at d1;omega
    ·
     omega
   have c1:=fun S=>zM.v (k:=k) (l:=suf) ⟨hk.le,fun h=>by omega⟩ k2 (by omega) S
   unfold X7 at c1
   cases ht:WJ suf with
   | none =>
    rw [ht] at c1
    conv at hr =>
     rhs
     rw [hTe]
     simp only [zB.jB,zB.code,zB.rs,zSs,reduceIte,zk,zn,zo,zq,if_neg k2,qp hk,goInt,d1,sl,c1]
    refine ⟨_,_,out,_,hL.symm.trans (jE hr (by simp)),rfl,rfl,rfl,hout,rfl,suf,hpre,fun x t hx h=>?_⟩
    have:=yP (l:=JB x) (r:=t) (by have:=Z7 hx;omega)
    rw [show Qr (JB x)++t=suf from h.symm,ht] at this
    cases this
   | some tu =>
    obtain ⟨t,u⟩:=tu
    rw [ht] at c1
    obtain ⟨f1,f2⟩:=WT ht
    obtain ⟨r1,ok,⟨ro,hP⟩,c2⟩:=zF.v (k:=1) (l:=t) Okl.read (by decide) (by omega)
    obtain ⟨S2,b1,b2,b3,b4⟩:=ab8 r1 S
    rcases hP with ⟨rfl,hR,ht1⟩ | ⟨rfl,hno⟩
    ·
     have hsuf:suf=wQ r1++u:=by rw [f1,ht1];rfl
     have hout2:∀ r ∈ out++[r1],r.Ok∧wB r=true:=fun r hr=>by
      rcases List.mem_append.1 hr with hr | hr
      ·
       exact hout r hr
      ·
       rw [List.mem_singleton.1 hr];exact ⟨ro,hR⟩
     have efl:(out++[r1]).flatMap wQ=out.flatMap wQ++wQ r1:=by simp
     have hpre2:l=(out++[r1]).flatMap wQ++u:=by rw [efl,List.append_assoc,← hsuf];exact hpre
     have hlu:l.length=((out++[r1]).flatMap wQ).length+u.length:=by have h9:=congrArg List.length hpre2;rwa [List.length_append] at h9
     have rp:=vC r1
     have hol:=Vk out
     have lu:∀ S,qO zi 26 (by_ 1 u) S=some (.int .i64 u.length,S):=fun S=>qp Okl.read
     have wi:IntKind.i64.wrap ((l.length:Int) - u.length)=(((out++[r1]).flatMap wQ).length:Int):=by rw [wrap_i64 (by omega) (by omega)];omega
     have c3:jA zi false 28 (.pointer (some ⟨S.next,0,none⟩)) S2=some (rv r1,S2):=KQ b2 ro.ne
     have ap:=fun S=>XA (S:=S) (r:=r1) (k:=if out=[] then 0 else 2) (l:=out) ⟨by split <;> omega,fun h=>by split at h <;> first | assumption | omega⟩ (by split <;> omega) (by omega)
     conv at hr =>
      rhs
      rw [hTe]
      simp only [zB.jB,zB.code,zB.rs,zSs,reduceIte,zk,zn,zo,zq,if_neg k2,qp hk,goInt,d1,sl,c1,c2,afK,b1,c3,Xn,ap,lu,wi]
     exact ih u (out++[r1]) ((wH hr).symm.trans hL) rfl (by rw [hsuf,List.length_append] at hn;omega) rfl (by rw [show (if out++[r1]=[] then 0 else 2)=2 from if_neg (by simp)];rfl) rfl hpre2 hout2
    ·
     conv at hr =>
      rhs
      rw [hTe]
      simp only [zB.jB,zB.code,zB.rs,zSs,reduceIte,zk,zn,zo,zq,if_neg k2,qp hk,goInt,d1,sl,c1,c2,afK,b1]
     refine ⟨_,_,out,_,hL.symm.trans (jE hr (by simp)),rfl,rfl,rfl,hout,rfl,suf,hpre,fun x t hx h=>?_⟩
     have:=yP (l:=JB x) (r:=t) (by have:=Z7 hx;omega)
     rw [show Qr (JB x)++t=suf from h.symm,ht] at this
     simp only [Option.some.injEq,Prod.mk.injEq] at this
     exact hno x hx this.1
  ·
   conv at hr =>
    rhs
    rw [hTe]
    simp only [zB.jB,zB.code,zB.rs,zSs,reduceIte,zk,zn,zo,zq,if_neg k2,qp hk,goInt,d1]
   have hs:suf=[]:=List.length_eq_zero_iff.1 (by omega)
   refine ⟨_,_,out,_,hL.symm.trans (jE hr (by simp)),rfl,rfl,rfl,hout,rfl,[],by rw [← hs];exact hpre,fun x t hx h=>?_⟩
   have:=congrArg List.length h
   have:=vC x
   rw [List.length_append,List.length_nil] at *
   omega
theorem zB.v (hk:Okl k l) (k2:k≠2) (hl:l.length≤1000000000000):∃ rs m,JO l rs m∧∀ S,je zi O zB.id [by_ k l] S=some (.tuple #[rl (if rs=[] then 0 else 2) rs,.int .i64 (m:Nat)],S):=by
 obtain ⟨T,hTe⟩:∃ T,T=(by_ k l::zh::zh::zh::zh::zh::zh::zh::zh::zh::zh::zh::zh::zh::zh::zh::zh::zh::zh::zh::zh::zh::zh::zh::zh::zh::zh::zh::zh::zh::zh::zh::zh::zh::zh::zh::zh::zh::zh::zh::zh::zh::zh::[]):=⟨_,rfl⟩
 have hr:zG zi O false zB.code T zx.empty=zG zi O false zB.code T zx.empty:=rfl
 conv at hr =>
  rhs
  rw [hTe]
  simp only [zB.code,zB.rs,zSs,reduceIte,zk,zn,zo,zq]
 generalize hL:yH (zG zi O false zB.jB) _ _=r at hr
 obtain ⟨T',S',rs,m,rfl,g1,g2,g3,g4⟩:=zB.round hk k2 hl l.length l [] hL rfl (Nat.le_refl _) rfl rfl rfl rfl (fun r h=>by cases h)
 have hT':=zB.eta g1
 rw [g2,g3] at hT'
 conv at hr =>
  rhs
  rw [hT']
  simp only [zB.code,zB.rs,zSs,reduceIte,zk,zn,zo,zq]
 rw [hTe] at hr
 refine ⟨rs,m,g4,fun S=>?_⟩
 have hkk:(if rs=[] then 0 else 2)≤2:=by split <;> omega
 exact zB.runs hr (.inr rfl) (by simp only [List.getD_cons_succ,List.getD_cons_zero,jg,jc,zO,zX,jd]) rfl (all1 (Yx (k:=k) hk.le)) (vY (all2 (adJ (d:=3) hkk fun r h=>(g4.1 r h).1) rfl))
end
end Go.Proofs.Ytblpnklfimkfoaa
namespace Go.Proofs.Ytblpnklfimkfoaa
open Go.Abs
abbrev jI.id:FuncId:=15
noncomputable def jI.code:Code:=(.seq (.region 0 (reg Try.f15 0) false) (.seq (.region 1 (reg Try.f15 1) false) (.seq (.region 2 (reg Try.f15 2) false) (.seq (.region 3 (reg Try.f15 3) false) Code.ret))))
theorem jI.body:Try.f15.body=some jI.code:=by kernel_rfl
variable (b d n c g i j k l m:Value) (S:zx)
theorem jI.r0 :jy zi ⟨false,false,false⟩ (je zi O) (reg Try.f15 0) (reg Try.f15 0).toList ([b,d,n,c,g,i,j,k,l,m]) S =
  ( some ([b,d,Value.pointer none,c,g,i,j,k,l,m],S)):=by
 kernel_rfl
theorem jI.r1 :jy zi ⟨false,false,false⟩ (je zi O) (reg Try.f15 1) (reg Try.f15 1).toList ([b,d,n,c,g,i,j,k,l,m]) S =
  (zS (yR zi 73 [] S) (fun o f=>zS (YJ (dem o) f) (fun p q=>some ([b,d,n,p,o,dem p,j,k,l,m],q)) ()) ()):=by
 kernel_rfl
theorem jI.r2 :jy zi ⟨false,false,false⟩ (je zi O) (reg Try.f15 2) (reg Try.f15 2).toList ([b,d,n,c,g,i,j,k,l,m]) S =
  (zS ((je zi O) 39 [(dem (dem c)),(dem (dem b))] S) (fun r f=>some ([b,d,n,c,g,i,dem c,dem b,r,m],f)) ()):=by
 kernel_rfl
theorem jI.r3 :jy zi ⟨false,false,false⟩ (je zi O) (reg Try.f15 3) (reg Try.f15 3).toList ([b,d,n,c,g,i,j,k,l,m]) S =
  ( some ([b,d,c,dem c,g,i,j,k,l,dem c],S)):=by
 kernel_rfl
theorem jI.rs:type_of% (ahi @jI.r0 (ahi @jI.r1 (ahi @jI.r2 (@jI.r3)))):=ahi @jI.r0 (ahi @jI.r1 (ahi @jI.r2 (@jI.r3)))
theorem jI.runs {b:Value} {S f:zx} {e:AEx} {T:List Value} (h:zG zi O false jI.code ([b,zh,zh,zh,zh,zh,zh,zh,zh,zh]) S=some (e,T,f)) (he:e=.normal∨e=.ret):je zi O 15 [b] S=some (T.getD 2 zh,f) :=
 jY rfl rfl Try.func15 (by decide) jI.body (by exact h) he (yM (a:=T.getD 2 zh) ((show zQ zi T f Try.f15.results.toList=zQ zi T f [(ResultVar.tmp 2)] from by kernel_rfl).trans (by simp only [zQ])) (by kernel_rfl))
end Go.Proofs.Ytblpnklfimkfoaa
namespace Go.Proofs.Ytblpnklfimkfoaa
open Go.Abs
abbrev zK.id:FuncId:=23
noncomputable def zK.code:Code:=(.seq (.region 0 (reg Try.f23 0) false) (.seq (.seq (.region 1 (reg Try.f23 1) false) (.cond (.tmp 9) (.seq (.region 2 (reg Try.f23 2) false) Code.ret) Code.skip)) (.seq (.region 3 (reg Try.f23 3) false) (.seq (.region 4 (reg Try.f23 4) false) Code.ret))))
theorem zK.body:Try.f23.body=some zK.code:=by kernel_rfl
variable (b c o p w q r s t u d f g i j k l m n:Value) (S:zx)
theorem zK.r0 :jy zi ⟨true,false,false⟩ (yG O.hp true (je zi O)) (reg Try.f23 0) (reg Try.f23 0).toList ([b,c,o,p,w,q,r,s,t,u,d,f,g,i,j,k,l,m,n]) S =
  ( some ([b,c,o,p,.int .i64 0,q,r,s,t,u,d,f,g,i,j,k,l,m,n],S)):=by
 kernel_rfl
theorem zK.r1 :jy zi ⟨true,false,false⟩ (yG O.hp true (je zi O)) (reg Try.f23 1) (reg Try.f23 1).toList ([b,c,o,p,w,q,r,s,t,u,d,f,g,i,j,k,l,m,n]) S =
  (zS (qO zi 26 (dem c) S) (fun B v=>zS ((je zi O) 40 [(dem (dem b))] v) (fun x z=>zS (wz zi BinOp.gtr 3 B x z) (fun y A=>some ([b,c,o,p,w,dem c,B,dem b,x,y,d,f,g,i,j,k,l,m,n],A)) ()) ()) ()):=by
 kernel_rfl
theorem zK.r2 :jy zi ⟨true,false,false⟩ (yG O.hp true (je zi O)) (reg Try.f23 2) (reg Try.f23 2).toList ([b,c,o,p,w,q,r,s,t,u,d,f,g,i,j,k,l,m,n]) S =
  ( some ([b,c,o,p,.int .i64 41,q,r,s,t,u,d,f,g,i,j,k,l,m,n],S)):=by
 kernel_rfl
theorem zK.r3 :jy zi ⟨true,false,false⟩ (yG O.hp true (je zi O)) (reg Try.f23 3) (reg Try.f23 3).toList ([b,c,o,p,w,q,r,s,t,u,d,f,g,i,j,k,l,m,n]) S =
  (zS (jL (dem b) S) (fun C v=>zS (zW zi 73 C 0 v) (fun x z=>zS (jA zi false 26 x z) (fun y A=>zS (yB zi true 26 26 y (dem c) A) (fun D G=>zS (jL (dem b) G) (fun E H=>zS (zW zi 73 E 0 H) (fun F I=>zS (qG zi 26 F (dem D) I) (fun K J=>some ([b,c,o,p,w,q,r,s,t,u,dem b,dem b,C,x,dem y,dem c,D,E,F],J)) ()) ()) ()) ()) ()) ()) ()):=by
 kernel_rfl
theorem zK.r4 :jy zi ⟨true,false,false⟩ (yG O.hp true (je zi O)) (reg Try.f23 4) (reg Try.f23 4).toList ([b,c,o,p,w,q,r,s,t,u,d,f,g,i,j,k,l,m,n]) S =
  ( some ([b,c,o,p,.int .i64 0,q,r,s,t,u,d,f,g,i,j,k,l,m,n],S)):=by
 kernel_rfl
theorem zK.rs:type_of% (ahi @zK.r0 (ahi @zK.r1 (ahi @zK.r2 (ahi @zK.r3 (@zK.r4))))):=ahi @zK.r0 (ahi @zK.r1 (ahi @zK.r2 (ahi @zK.r3 (@zK.r4))))
theorem zK.runs {b c:Value} {S v:zx} {e:AEx} {T:List Value} (h:zG zi O true zK.code ([b,c,zh,zh,zh,zh,zh,zh,zh,zh,zh,zh,zh,zh,zh,zh,zh,zh,zh]) S=some (e,T,v)) (he:e=.normal∨e=.ret):je zi O 23 [b,c] S=some (T.getD 4 zh,v) :=
 jY rfl rfl Try.func23 (by decide) zK.body (by exact h) he (yM (a:=T.getD 4 zh) ((show zQ zi T v Try.f23.results.toList=zQ zi T v [(ResultVar.tmp 4)] from by kernel_rfl).trans (by simp only [zQ])) (by kernel_rfl))
end Go.Proofs.Ytblpnklfimkfoaa
namespace Go.Proofs.Ytblpnklfimkfoaa
open Go.Abs
abbrev zV.id:FuncId:=40
noncomputable def zV.code:Code:=(.seq (.region 0 (reg Try.f40 0) false) (.seq (.region 1 (reg Try.f40 1) true) Code.ret))
theorem zV.body:Try.f40.body=some zV.code:=by kernel_rfl
variable (b k B l m n o p q r f g i j:Value) (S:zx)
theorem zV.r0 :jy zi ⟨true,false,false⟩ (yG O.hp true (je zi O)) (reg Try.f40 0) (reg Try.f40 0).toList ([b,k,B,l,m,n,o,p,q,r,f,g,i,j]) S =
  ( some ([b,k,.int .i64 0,l,m,n,o,p,q,r,f,g,i,j],S)):=by
 kernel_rfl
theorem zV.d1:yS zi (reg Try.f40 1)=true:=by kernel_rfl
theorem zV.ff1:fixed zi (reg Try.f40 1)=false:=by kernel_rfl
theorem zV.k1:checked zi (reg Try.f40 1)=[]:=by kernel_rfl
theorem zV.g1:again zi (reg Try.f40 1)=[]:=by kernel_rfl
theorem zV.r1 :zG zi O true (.region 1 (reg Try.f40 1) true) ([b,k,B,l,m,n,o,p,q,r,f,g,i,j]) S =
  Jt (zS (jL (dem b) S) (fun s c=>zS (zW zi 73 s 2 c) (fun t C=>zS (jA zi false 3 t C) (fun u D=>zS (jL (dem b) D) (fun w E=>zS (zW zi 73 w 0 E) (fun x F=>zS (jA zi false 26 x F) (fun y G=>zS (qO zi 26 y G) (fun z H=>zS (wz zi BinOp.sub 3 u z H) (fun A I=>zS (yK zi true Builtin.max #[3,3] 3 [(.int .i64 0),A] I) (fun d J=>some ([b,k,d,dem b,s,t,u,dem b,w,x,y,z,A,dem d],J)) ()) ()) ()) ()) ()) ()) ()) ()) ()):=by
 rw [YL zV.d1 zV.ff1 zV.k1 zV.g1]
 refine congrArg Jt ?_
 refine tP Try.f40 1 0 (v:=b) ?_
 refine tD Try.f40 1 1 (fun s c=>?_)
 refine tD Try.f40 1 2 (fun t C=>?_)
 refine tD Try.f40 1 3 (fun u D=>?_)
 refine tP Try.f40 1 4 (v:=b) ?_
 refine tD Try.f40 1 5 (fun w E=>?_)
 refine tD Try.f40 1 6 (fun x F=>?_)
 refine tD Try.f40 1 7 (fun y G=>?_)
 refine tD Try.f40 1 8 (fun z H=>?_)
 refine tD Try.f40 1 9 (fun A I=>?_)
 refine tD Try.f40 1 10 (fun d J=>?_)
 refine tP Try.f40 1 11 (v:=d) ?_
 kernel_rfl
theorem zV.rs:type_of% (ahi @zV.r0 (@zV.r1)):=ahi @zV.r0 (@zV.r1)
theorem zV.runs {b:Value} {S c:zx} {e:AEx} {T:List Value} (h:zG zi O true zV.code ([b,zh,zh,zh,zh,zh,zh,zh,zh,zh,zh,zh,zh,zh]) S=some (e,T,c)) (he:e=.normal∨e=.ret):je zi O 40 [b] S=some (T.getD 2 zh,c) :=
 jY rfl rfl Try.func40 (by decide) zV.body (by exact h) he (yM (a:=T.getD 2 zh) ((show zQ zi T c Try.f40.results.toList=zQ zi T c [(ResultVar.tmp 2)] from by kernel_rfl).trans (by simp only [zQ])) (by kernel_rfl))
end Go.Proofs.Ytblpnklfimkfoaa
namespace Go.Proofs.Ytblpnklfimkfoaa
open Go.Abs
abbrev ji.id:FuncId:=39
noncomputable def ji.code:Code:=(.region 0 (reg Try.f39 0) false)
theorem ji.body:Try.f39.body=some ji.code:=by kernel_rfl
variable (a b d f l m n o p q:Value) (S:zx)
theorem ji.r0 :jy zi ⟨false,false,false⟩ (je zi O) (reg Try.f39 0) (reg Try.f39 0).toList ([a,b,d,f,l,m,n,o,p,q]) S =
  (zS (yK zi false Builtin.min #[3,3] 3 [(dem b),(.int .i64 65536)] S) (fun g c=>zS (yK zi false Builtin.max #[3,3] 3 [(.int .i64 0),g] c) (fun i r=>zS (jL (dem a) r) (fun j s=>zS (zW zi 73 j 2 s) (fun k t=>zS (qG zi 3 k (dem i) t) (fun v u=>some ([a,b,d,f,dem a,dem b,g,i,j,k],u)) ()) ()) ()) ()) ()):=by
 kernel_rfl
theorem ji.rs:type_of% (@ji.r0):=@ji.r0
theorem ji.runs {a b:Value} {S c:zx} {e:AEx} {T:List Value} (h:zG zi O false ji.code ([a,b,zh,zh,zh,zh,zh,zh,zh,zh]) S=some (e,T,c)) (he:e=.normal∨e=.ret):je zi O 39 [a,b] S=some (Value.tuple #[],c) :=
 jY rfl rfl Try.func39 (by decide) ji.body (by exact h) he rfl
end Go.Proofs.Ytblpnklfimkfoaa
namespace Go.Proofs.Ytblpnklfimkfoaa
open Go.Abs
abbrev zN.id:FuncId:=27
noncomputable def zN.code:Code:=(.seq (.region 0 (reg Try.f27 0) true) (.region 1 (reg Try.f27 1) true))
theorem zN.body:Try.f27.body=some zN.code:=by kernel_rfl
variable (a f x2 x3 x4 x5 x6 x7 x8 x9 r s t u w x y z A B C D E F G H I J K L M N P:Value) (S:zx)
theorem zN.d0:yS zi (reg Try.f27 0)=true:=by kernel_rfl
theorem zN.ff0:fixed zi (reg Try.f27 0)=false:=by kernel_rfl
theorem zN.k0:checked zi (reg Try.f27 0)=[]:=by kernel_rfl
theorem zN.g0:again zi (reg Try.f27 0)=[]:=by kernel_rfl
theorem zN.r0 :zG zi O false (.region 0 (reg Try.f27 0) true) ([a,f,x2,x3,x4,x5,x6,x7,x8,x9,r,s,t,u,w,x,y,z,A,B,C,D,E,F,G,H,I,J,K,L,M,N,P]) S =
  Jt (zS (jL (dem a) S) (fun l g=>zS (zW zi 73 l 0 g) (fun m Q=>zS (jA zi false 26 m Q) (fun n R=>zS (jL (dem a) R) (fun o U=>zS (zW zi 73 o 0 U) (fun p V=>zS (jA zi false 26 p V) (fun q W=>zS (qO zi 26 q W) (fun b X=>zS (yK zi false Builtin.min #[3,3] 3 [(dem f),b] X) (fun c Y=>zS (yK zi false Builtin.max #[3,3] 3 [(.int .i64 0),c] Y) (fun d Z=>zS (wC zi false 26 n none (some d) Z) (fun i j=>zS (jL (dem a) j) (fun a0 k=>zS (zW zi 73 a0 0 k) (fun a1 a2=>zS (qG zi 26 a1 (dem i) a2) (fun a4 a3=>some ([a,f,x2,x3,dem a,dem a,l,m,n,dem f,dem a,o,p,q,b,c,d,i,a0,a1,C,D,E,F,G,H,I,J,K,L,M,N,P],a3)) ()) ()) ()) ()) ()) ()) ()) ()) ()) ()) ()) ()) ()):=by
 rw [yu zN.d0 zN.ff0 zN.k0 zN.g0]
 refine congrArg Jt ?_
 refine tP Try.f27 0 0 (v:=a) ?_
 refine tP Try.f27 0 1 (v:=a) ?_
 refine tD Try.f27 0 2 (fun l g=>?_)
 refine tD Try.f27 0 3 (fun m Q=>?_)
 refine tD Try.f27 0 4 (fun n R=>?_)
 refine tP Try.f27 0 5 (v:=f) ?_
 refine tP Try.f27 0 6 (v:=a) ?_
 refine tD Try.f27 0 7 (fun o U=>?_)
 refine tD Try.f27 0 8 (fun p V=>?_)
 refine tD Try.f27 0 9 (fun q W=>?_)
 refine tD Try.f27 0 10 (fun b X=>?_)
 refine tD Try.f27 0 11 (fun c Y=>?_)
 refine tD Try.f27 0 12 (fun d Z=>?_)
 refine tD Try.f27 0 13 (fun i j=>?_)
 refine tD Try.f27 0 14 (fun a0 k=>?_)
 refine tD Try.f27 0 15 (fun a1 a2=>?_)
 refine tD Try.f27 0 16 (fun a4 a3=>?_)
 kernel_rfl
theorem zN.d1:yS zi (reg Try.f27 1)=true:=by kernel_rfl
theorem zN.ff1:fixed zi (reg Try.f27 1)=false:=by kernel_rfl
theorem zN.k1:checked zi (reg Try.f27 1)=[]:=by kernel_rfl
theorem zN.g1:again zi (reg Try.f27 1)=[]:=by kernel_rfl
theorem zN.r1 :zG zi O false (.region 1 (reg Try.f27 1) true) ([a,f,x2,x3,x4,x5,x6,x7,x8,x9,r,s,t,u,w,x,y,z,A,B,C,D,E,F,G,H,I,J,K,L,M,N,P]) S =
  Jt (zS (jL (dem a) S) (fun l g=>zS (zW zi 73 l 1 g) (fun m Q=>zS (jA zi false 3 m Q) (fun n R=>zS (jL (dem a) R) (fun v6 U=>zS (zW zi 73 v6 0 U) (fun o V=>zS (jA zi false 26 o V) (fun p W=>zS (qO zi 26 p W) (fun q X=>zS (yK zi false Builtin.min #[3,3] 3 [n,q] X) (fun b Y=>zS (jL (dem a) Y) (fun c Z=>zS (zW zi 73 c 1 Z) (fun d j=>zS (qG zi 3 d (dem b) j) (fun i k=>some ([a,f,x2,x3,x4,x5,x6,x7,x8,x9,r,s,t,u,w,x,y,z,A,B,dem a,dem a,l,m,n,dem a,v6,o,p,q,b,c,d],k)) ()) ()) ()) ()) ()) ()) ()) ()) ()) ()) ()):=by
 rw [yu zN.d1 zN.ff1 zN.k1 zN.g1]
 refine congrArg Jt ?_
 refine tP Try.f27 1 0 (v:=a) ?_
 refine tP Try.f27 1 1 (v:=a) ?_
 refine tD Try.f27 1 2 (fun l g=>?_)
 refine tD Try.f27 1 3 (fun m Q=>?_)
 refine tD Try.f27 1 4 (fun n R=>?_)
 refine tP Try.f27 1 5 (v:=a) ?_
 refine tD Try.f27 1 6 (fun v6 U=>?_)
 refine tD Try.f27 1 7 (fun o V=>?_)
 refine tD Try.f27 1 8 (fun p W=>?_)
 refine tD Try.f27 1 9 (fun q X=>?_)
 refine tD Try.f27 1 10 (fun b Y=>?_)
 refine tD Try.f27 1 11 (fun c Z=>?_)
 refine tD Try.f27 1 12 (fun d j=>?_)
 refine tD Try.f27 1 13 (fun i k=>?_)
 kernel_rfl
theorem zN.rs:type_of% (ahi @zN.r0 (@zN.r1)):=ahi @zN.r0 (@zN.r1)
theorem zN.runs {a f:Value} {S g:zx} {e:AEx} {T:List Value} (h:zG zi O false zN.code ([a,f,zh,zh,zh,zh,zh,zh,zh,zh,zh,zh,zh,zh,zh,zh,zh,zh,zh,zh,zh,zh,zh,zh,zh,zh,zh,zh,zh,zh,zh,zh,zh]) S=some (e,T,g)) (he:e=.normal∨e=.ret):je zi O 27 [a,f] S=some (Value.tuple #[],g) :=
 jY rfl rfl Try.func27 (by decide) zN.body (by exact h) he rfl
end Go.Proofs.Ytblpnklfimkfoaa
namespace Go.Proofs.Ytblpnklfimkfoaa
open Go.Abs
def Zo (S:zx) (q:Nat) (a:Option Addr) (data:List UInt8):Prop :=
 (a=none∧data=[])∨∃ r anc rest,a=some ⟨r,0,none⟩∧S.get r=some (.cells (data.flatMap cb++rest) (.own anc) 1)∧q < r∧r < S.next∧∀ a ∈ anc,q < a∧a < r
def Old (q:Nat) (S S1:zx):Prop:=∀ k,k < q→S1.get k=S.get k
theorem Old.refl (q:Nat) (S:zx):Old q S S:=fun _ _=>rfl
theorem Old.trans {q:Nat} {S S1 S2:zx} (h:Old q S S1) (k:Old q S1 S2):Old q S S2:=fun i hi=>(k i hi).trans (h i hi)
theorem Old.set {q r:Nat} {S S1:zx} (h:Old q S S1) (hr:q≤r) (o:yg):Old q S (S1.set r o):=fun i hi=>by rw [zx.jw,if_neg (by omega)];exact h i hi
structure Dk (S:zx) (q:Nat) (data:List UInt8) (sy room:Int):Prop where
 lt:q < S.next
 len:data.length≤65536
 sy0:0≤sy
 syl:sy≤data.length
 rm0:0≤room
 rml:room≤65536
 cell:∃ a,S.get q=some (.cells [.slice a data.length data.length,.int .i64 sy,.int .i64 room] (.own []) 0)∧Zo S q a data
theorem Dk.ext {S S1:zx} {q:Nat} {data:List UInt8} {sy room:Int} (h:Dk S q data sy room) (k:Ext S S1):Dk S1 q data sy room:=by
 obtain ⟨a,h1,h2⟩:=h.cell
 refine ⟨Nat.lt_of_lt_of_le h.lt k.1,h.len,h.sy0,h.syl,h.rm0,h.rml,a,by rw [k.2 q h.lt];exact h1,?_⟩
 rcases h2 with h2 | ⟨r,anc,rest,h3,h4,h5,h6,h7⟩
 ·
  exact .inl h2
 ·
  exact .inr ⟨r,anc,rest,h3,by rw [k.2 r h6];exact h4,h5,Nat.lt_of_lt_of_le h6 k.1,h7⟩
theorem Dk.put {S:zx} {q:Nat} {data data':List UInt8} {sy room sy' room':Int} {a:Option Addr} (h:Dk S q data sy room) (hd:Zo S q a data') (h0:data'.length≤65536) (h1:0≤sy') (h2:sy'≤data'.length) (h3:0≤room') (h4:room'≤65536) {cs:List Value} (hc:cs=[.slice a data'.length data'.length,.int .i64 sy',.int .i64 room']) :
  Dk (S.set q (.cells cs (.own []) 0)) q data' sy' room':=by
 subst hc
 refine ⟨by simpa using h.lt,h0,h1,h2,h3,h4,a,by rw [zx.jw,if_pos rfl],?_⟩
 rcases hd with hd | ⟨r,anc,rest,k1,k2,k3,k4,k5⟩
 ·
  exact .inl hd
 ·
  exact .inr ⟨r,anc,rest,k1,by rw [zx.jw,if_neg (by omega)];exact k2,k3,by simpa using k4,k5⟩
theorem Zo.take {S:zx} {q:Nat} {a:Option Addr} {data:List UInt8} (h:Zo S q a data) (n:Nat):Zo S q a (data.take n):=by
 rcases h with ⟨h1,h2⟩ | ⟨r,anc,rest,k1,k2,k3,k4,k5⟩
 ·
  exact .inl ⟨h1,by rw [h2,List.take_nil]⟩
 ·
  refine .inr ⟨r,anc,(data.drop n).flatMap cb++rest,k1,?_,k3,k4,k5⟩
  rw [k2,← List.append_assoc,← List.flatMap_append,List.take_append_drop]
def roomOf (room:Int) (n:Nat):Int:=if room - n > 0 then room - n else 0
section
variable {S:zx} {q:Nat} {data:List UInt8} {sy room:Int}
theorem zV.v (h:Dk S q data sy room):je zi O zV.id [.pointer (some ⟨q,0,none⟩)] S=some (.int .i64 (roomOf room data.length),S):=by
 obtain ⟨T,hTe⟩:∃ T,T=(.pointer (some ⟨q,0,none⟩)::zh::zh::zh::zh::zh::zh::zh::zh::zh::zh::zh::zh::zh::[]):=⟨_,rfl⟩
 have hr:zG zi O true zV.code T S=zG zi O true zV.code T S:=rfl
 obtain ⟨a,h1,h2⟩:=h.cell
 have l1:=kQ (t:=3) (o:=0+2) h1 QH rfl
 have l2:=xu (t:=26) (o:=0+0) h1 yY rfl
 have ln:=fun S=>Qn jJ a data.length data.length S
 have b1:=h.rm0;have b2:=h.rml;have b3:=h.len
 have w1:IntKind.i64.wrap (room - data.length)=room - data.length:=wrap_i64 (by omega) (by omega)
 conv at hr =>
  rhs
  rw [hTe]
  simp only [zV.code,zV.rs,zSs,reduceIte,zk,zn,zo,zq,yj,wY,vO,l1,l2,ln,goInt,w1,agY]
 rw [hTe] at hr
 exact zV.runs hr (.inr rfl)
theorem ji.v {r:Int} (h:Dk S q data sy room):∃ v S1,je zi O ji.id [.pointer (some ⟨q,0,none⟩),.int .i64 r] S=some (v,S1)∧Dk S1 q data sy (max 0 (min r 65536))∧Old q S S1:=by
 obtain ⟨T,hTe⟩:∃ T,T=(.pointer (some ⟨q,0,none⟩)::.int .i64 r::zh::zh::zh::zh::zh::zh::zh::zh::[]):=⟨_,rfl⟩
 have hr:zG zi O false ji.code T S=zG zi O false ji.code T S:=rfl
 obtain ⟨a,h1,h2⟩:=h.cell
 have s1:=fun x:Int=>kJ (P:=zi) (t:=3) (o:=0+2) (x:=.int .i64 x) h1 adv rfl rfl (by simp)
 conv at hr =>
  rhs
  rw [hTe]
  simp only [ji.code,ji.rs,zSs,reduceIte,zk,zn,zo,zq,yj,vO,ag1,agY,s1]
 rw [hTe] at hr
 have hrun:=ji.runs hr (.inl rfl)
 refine ⟨_,_,hrun,?_⟩
 have e:∀ x:Int,(if (if (65536:Int) < x then 65536 else x) > 0 then (if (65536:Int) < x then 65536 else x) else 0)=max 0 (min x 65536):=by intro x;split <;> omega
 rw [e]
 exact ⟨h.put h2 h.len h.sy0 h.syl (by omega) (by omega) rfl,(Old.refl q S).set (Nat.le_refl _) _⟩
end
end Go.Proofs.Ytblpnklfimkfoaa
namespace Go.Proofs.Ytblpnklfimkfoaa
open Go.Abs
section
variable {S:zx} {q:Nat} {data:List UInt8} {sy room:Int}
theorem jI.v {r:Int} (S:zx):∃ S1,je zi O jI.id [.int .i64 r] S=some (.pointer (some ⟨S.next,0,none⟩),S1)∧Dk S1 S.next [] 0 (max 0 (min r 65536))∧Old S.next S S1:=by
 obtain ⟨T,hTe⟩:∃ T,T=(.int .i64 r::zh::zh::zh::zh::zh::zh::zh::zh::zh::[]):=⟨_,rfl⟩
 have hr:zG zi O false jI.code T S=zG zi O false jI.code T S:=rfl
 have h0:Dk (S.push (.cells [.slice none 0 0,.int .i64 0,.int .i64 0] (.own []) 0)) S.next [] 0 0 :=
  ⟨by simp,by simp,by omega,by simp,by omega,by omega,none,by rw [zx.zZ,if_pos rfl];rfl,.inl ⟨rfl,rfl⟩⟩
 obtain ⟨v,S1,e1,d1,o1⟩:=ji.v (r:=r) h0
 have bx:YJ (.agg [.slice none 0 0,.int .i64 0,.int .i64 0].toArray) S=some (.pointer (some ⟨S.next,0,none⟩),S.push (.cells [.slice none 0 0,.int .i64 0,.int .i64 0] (.own []) 0)):=rfl
 conv at hr =>
  rhs
  rw [hTe]
  simp only [jI.code,jI.rs,zSs,reduceIte,zk,zn,zo,zq,QC,bx,e1]
 rw [hTe] at hr
 exact ⟨_,jI.runs hr (.inr rfl),d1,fun k hk=>(o1 k hk).trans (by rw [zx.zZ,if_neg (by omega)])⟩
theorem kG (l:List UInt8):(l.flatMap cb).length=l.length:=by rw [kV QO,Nat.mul_one]
theorem aeG (l:List UInt8):(l.flatMap cb).all (·.oneCell')=true:=by rw [List.all_flatMap,List.all_eq_true];exact fun x _=>rfl
theorem agX (l:List UInt8):(l.flatMap cb).all sg=true:=by rw [List.all_flatMap,List.all_eq_true];exact fun x _=>rfl
def Nin (S:zx) (a:Option Addr) (p:Nat):Prop:=∀ r cs anc e,a=some ⟨r,0,none⟩→S.get r=some (.cells cs (.own anc) e)→p≠r∧p ∉ anc
theorem Nin.none {S:zx} {p:Nat}:Nin S none p:=fun _ _ _ _ h=>by cases h
theorem Nin.new {S:zx} {p r e:Nat} {cs:List Value} {anc:List Nat} (hg:S.get r=some (.cells cs (.own anc) e)) (h:p≠r) (h2:p ∉ anc):Nin S (some ⟨r,0,Option.none⟩) p:=fun r' cs' anc' e' h3 h4=>by
 simp only [Option.some.injEq,Addr.mk.injEq,and_true] at h3
 subst h3
 rw [hg] at h4
 cases h4
 exact ⟨h,h2⟩
theorem Zo.adB {a:Option Addr} {x:Value} {b:List UInt8} (hd:Zo S q a data) (hq:q < S.next) (hsrc:WE zi 26 1 x S=some (b.length,b.flatMap cb)) (hl:data.length+b.length≤65536) :
  ∃ a' S1,yB zi true 26 26 (.slice a data.length data.length) x S=some (.slice a' (data++b).length (data++b).length,S1)∧Zo S1 q a' (data++b)∧S1.get q=S.get q∧q < S1.next∧Old q S S1∧(∀ p,p < S.next→(∀ r,a=some ⟨r,0,none⟩→r < p)→S1.get p=S.get p)∧(a'=none∨a'=some ⟨S.next,0,none⟩)∧S.next≤S1.next∧∀ p,p < S.next→Nin S a p→S1.get p=S.get p∧Nin S1 a' p:=by
 rcases hd with ⟨rfl,rfl⟩ | ⟨r,anc,rest,rfl,k2,k3,k4,k5⟩
 ·
  have e1:=aad (t:=26) (tx:=26) (S:=S) jJ qH JW rfl J4 (by decide) hsrc (by simp at hl;omega) (by simp at hl;omega)
  by_cases h0:b.length=0
  ·
   have hb:b=[]:=List.length_eq_zero_iff.1 h0
   subst hb
   exact ⟨none,S,e1,.inl ⟨rfl,rfl⟩,rfl,hq,Old.refl _ _,fun _ _ _=>rfl,.inl rfl,Nat.le_refl _,fun _ _ _=>⟨rfl,Nin.none⟩⟩
  ·
   rw [if_neg h0,if_neg h0] at e1
   refine ⟨some ⟨S.next,0,none⟩,_,e1,.inr ⟨S.next,[],[],rfl,?_,by omega,by simp,by simp⟩,?_,by simp;omega,fun k hk=>by rw [zx.zZ,if_neg (by omega)],fun p hp _=>by rw [zx.zZ,if_neg (by omega)],.inr rfl,by simp,fun p hp _=>⟨by rw [zx.zZ,if_neg (by omega)],Nin.new (by rw [zx.zZ,if_pos rfl]) (by omega) (by simp)⟩⟩
   ·
    rw [zx.zZ,if_pos rfl,List.append_nil,List.nil_append]
   ·
    rw [zx.zZ,if_neg (by omega)]
 ·
  have hlen:(data.flatMap cb).length=data.length:=kG data
  have htk:((data.flatMap cb++rest).drop 0).take (data.length * 1)=data.flatMap cb:=by
   rw [List.drop_zero,Nat.mul_one,← hlen,List.take_left]
  have e1:=Vw (hp:=true) (t:=26) (tx:=26) (o:=0) (n:=data.length) (c:=data.length) jJ qH JW rfl J4 (by decide) hsrc k2 (by rw [List.length_append,hlen];omega) (by omega) (by omega) (by rw [htk];exact aeG data)
  rw [htk,← List.length_append] at e1
  by_cases h0:0+data.length * 1=(data.flatMap cb++rest).length
  ·
   rw [if_pos h0] at e1
   refine ⟨some ⟨S.next,0,none⟩,_,e1,.inr ⟨S.next,_,[],rfl,by rw [zx.zZ,zx.yx,if_pos rfl,List.append_nil,List.flatMap_append],by omega,by simp,?_⟩,?_,by simp;omega,fun k hk=>by rw [zx.zZ,zx.yx,if_neg (by omega),zx.jw,if_neg (by omega)],fun p hp hr=>by have:=hr r rfl;rw [zx.zZ,zx.yx,if_neg (by omega),zx.jw,if_neg (by omega)],.inr rfl,by simp,fun p hp hn=>by
    obtain ⟨h1,h2⟩:=hn r _ _ _ rfl k2
    refine ⟨by rw [zx.zZ,zx.yx,if_neg (by omega),zx.jw,if_neg h1],Nin.new (by rw [zx.zZ,zx.yx,if_pos rfl]) (by omega) ?_⟩
    split
    ·
     simp
    ·
     intro h;rcases List.mem_cons.1 h with h | h
     ·
      exact h1 h
     ·
      exact h2 h⟩
   ·
    split
    ·
     simp
    ·
     intro x h;rcases List.mem_cons.1 h with h | h
     ·
      omega
     ·
      have:=k5 x h;omega
   ·
    rw [zx.zZ,zx.yx,if_neg (by omega),zx.jw,if_neg (by omega)]
  ·
   rw [if_neg h0] at e1
   refine ⟨some ⟨S.next,0,none⟩,_,e1,.inr ⟨S.next,[],[],rfl,by rw [zx.zZ,zx.yx,zx.qP,if_pos rfl,List.append_nil,List.flatMap_append],by omega,by simp,by simp⟩,?_,by simp;omega,fun k hk=>by rw [zx.zZ,zx.yx,zx.qP,if_neg (by omega),zx.jw,if_neg (by omega),zx.y7,if_neg (fun h=>by have:=k5 k h;omega)],fun p hp hr=>by have:=hr r rfl;rw [zx.zZ,zx.yx,zx.qP,if_neg (by omega),zx.jw,if_neg (by omega),zx.y7,if_neg (fun h=>by have:=k5 p h;omega)],.inr rfl,by simp,fun p hp hn=>by
    obtain ⟨h1,h2⟩:=hn r _ _ _ rfl k2
    exact ⟨by rw [zx.zZ,zx.yx,zx.qP,if_neg (by omega),zx.jw,if_neg h1,zx.y7,if_neg h2],Nin.new (by rw [zx.zZ,zx.yx,zx.qP,if_pos rfl]) (by omega) (by simp)⟩⟩
   rw [zx.zZ,zx.yx,zx.qP,if_neg (by omega),zx.jw,if_neg (by omega),zx.y7,if_neg (fun h=>by have:=k5 q h;omega)]
theorem Zo.append {a:Option Addr} {k:Nat} {b:List UInt8} (hd:Zo S q a data) (hq:q < S.next) (hk:Okl k b) (hl:data.length+b.length≤65536) :
  ∃ a' S1,yB zi true 26 26 (.slice a data.length data.length) (by_ k b) S=some (.slice a' (data++b).length (data++b).length,S1)∧Zo S1 q a' (data++b)∧S1.get q=S.get q∧q < S1.next∧Old q S S1∧∀ p,p < S.next→(∀ r,a=some ⟨r,0,none⟩→r < p)→S1.get p=S.get p:=by
 obtain ⟨a',S1,h1,h2,h3,h4,h5,h6,_⟩:=hd.adB hq (acI jJ hk.okv (by rw [kG,Nat.mul_one]) (aeG b)) hl
 exact ⟨a',S1,h1,h2,h3,h4,h5,h6⟩
def Low (S:zx) (q p:Nat):Prop:=∀ r n c rest own e,S.get q=some (.cells (.slice (some ⟨r,0,none⟩) n c::rest) own e)→r < p
theorem zK.v {k:Nat} {b:List UInt8} (h:Dk S q data sy room) (hk:Okl k b) (k2:k≠2) (hb:b.length≤140737488355328):∃ S1,je zi O zK.id [.pointer (some ⟨q,0,none⟩),by_ k b] S=some (.int .i64 (if roomOf room data.length < b.length then 41 else 0),S1) ∧
  Dk S1 q (if roomOf room data.length < b.length then data else data++b) sy room∧Old q S S1∧∀ p,q < p→p < S.next→Low S q p→S1.get p=S.get p:=by
 obtain ⟨T,hTe⟩:∃ T,T=(.pointer (some ⟨q,0,none⟩)::by_ k b::zh::zh::zh::zh::zh::zh::zh::zh::zh::zh::zh::zh::zh::zh::zh::zh::zh::[]):=⟨_,rfl⟩
 have hr:zG zi O true zK.code T S=zG zi O true zK.code T S:=rfl
 have c1:=zV.v h
 have ln:=fun S=>qp (S:=S) hk
 by_cases h1:roomOf room data.length < b.length
 ·
  conv at hr =>
   rhs
   rw [hTe]
   simp only [zK.code,zK.rs,zSs,reduceIte,zk,zn,zo,zq,if_neg k2,ln,goInt,c1,h1]
  rw [hTe] at hr
  have hrun:=zK.runs hr (.inr rfl)
  rw [if_pos h1,if_pos h1]
  exact ⟨_,hrun,h,Old.refl _ _,fun _ _ _ _=>rfl⟩
 ·
  obtain ⟨a,h3,h4⟩:=h.cell
  have l2:=xu (t:=26) (o:=0+0) h3 yY rfl
  have hle:data.length+b.length≤65536:=by
   have b1:=h.rml;have b2:=h.len
   unfold roomOf at h1
   split at h1 <;> omega
  obtain ⟨a',S1,e1,d1,g1,n1,o1,w1⟩:=h4.append h.lt hk hle
  have h5:=g1.trans h3
  have s1:=kJ (P:=zi) (t:=26) (o:=0+0) (x:=.slice a' (data++b).length (data++b).length) h5 Q8 rfl rfl (by simp)
  conv at hr =>
   rhs
   rw [hTe]
   simp only [zK.code,zK.rs,zSs,reduceIte,zk,zn,zo,zq,if_neg k2,ln,goInt,c1,h1,yj,wY,l2,e1,s1]
  rw [hTe] at hr
  have hrun:=zK.runs hr (.inr rfl)
  rw [if_neg h1,if_neg h1]
  refine ⟨_,hrun,⟨n1,by simpa using hle,h.sy0,?_,h.rm0,h.rml,a',by rw [zx.jw,if_pos rfl];rfl,?_⟩,o1.set (Nat.le_refl _) _,fun p hqp hps hlow=>by
   rw [zx.jw,if_neg (by omega)]
   exact w1 p hps fun r hr=>by subst hr;exact hlow r _ _ _ _ _ h3⟩
  ·
   have:=h.syl;rw [List.length_append];omega
  ·
   rcases d1 with d1 | ⟨r,anc,rest,j1,j2,j3,j4,j5⟩
   ·
    exact .inl d1
   ·
    exact .inr ⟨r,anc,rest,j1,by show ((S1.kills []).set q _).get r=_;rw [zx.jw,if_neg (by omega)];exact j2,j3,by simpa using j4,j5⟩
theorem Zo.slice {a:Option Addr} {dr:Bool} (hd:Zo S q a data) {hi:Int} (h0:0≤hi) (h1:hi≤data.length) (hdr:dr=false) :
  ∃ a',wC zi dr 26 (.slice a data.length data.length) none (some (.int .i64 hi)) S=some (.slice a' (data.take hi.toNat).length (data.take hi.toNat).length,S)∧Zo S q a' (data.take hi.toNat)∧a'=a:=by
 have hd0:=hd
 rcases hd with ⟨rfl,rfl⟩ | ⟨r,anc,rest,rfl,k2,k3,k4,k5⟩
 ·
  have h1:hi≤0:=h1
  refine ⟨none,?_,hd0.take _,rfl⟩
  rw [List.take_nil]
  exact abp jJ qH (l:=0) (h:=hi) rfl rfl (by omega) h0 h1
 ·
  refine ⟨some ⟨r,0,none⟩,?_,hd0.take _,rfl⟩
  have:=abr (P:=zi) (t:=26) (o:=0) (n:=data.length) (c:=data.length) (lo:=none) (hi:=some (.int .i64 hi)) (l:=0) (h:=hi) hdr k2 jJ qH rfl rfl (by omega) h0 h1
  rw [this]
  have e:hi.toNat - Int.toNat 0=(data.take hi.toNat).length:=by rw [List.length_take];omega
  rw [e]
  rfl
theorem zN.v {n:Int} (h:Dk S q data sy room) (hk:-9223372036854775808≤n∧n < 9223372036854775808):∃ v S1,je zi O zN.id [.pointer (some ⟨q,0,none⟩),.int .i64 n] S=some (v,S1) ∧
  Dk S1 q (data.take (max 0 (min n data.length)).toNat) (min sy (data.take (max 0 (min n data.length)).toNat).length) room∧Old q S S1:=by
 obtain ⟨T,hTe⟩:∃ T,T=(.pointer (some ⟨q,0,none⟩)::.int .i64 n::zh::zh::zh::zh::zh::zh::zh::zh::zh::zh::zh::zh::zh::zh::zh::zh::zh::zh::zh::zh::zh::zh::zh::zh::zh::zh::zh::zh::zh::zh::zh::[]):=⟨_,rfl⟩
 have hr:zG zi O false zN.code T S=zG zi O false zN.code T S:=rfl
 obtain ⟨a,h1,h2⟩:=h.cell
 have b1:=h.sy0;have b2:=h.syl;have b3:=h.len
 have l1:=kQ (t:=3) (o:=0+1) h1 QH rfl
 have l2:=xu (t:=26) (o:=0+0) h1 yY rfl
 have ln:=fun a n S=>Qn jJ a n n S
 have e1:(if (data.length:Int) < n then (data.length:Int) else n)=min n data.length:=by split <;> omega
 have e2:(if min n (data.length:Int) > 0 then min n (data.length:Int) else 0)=max 0 (min n data.length):=by split <;> omega
 obtain ⟨a',s1,d1,_⟩:=h2.slice (dr:=false) (hi:=max 0 (min n data.length)) (by omega) (by omega) rfl
 generalize hm:max 0 (min n (data.length:Int))=m at *
 have s2:=kJ (P:=zi) (t:=26) (o:=0+0) (x:=.slice a' (data.take m.toNat).length (data.take m.toNat).length) h1 Q8 rfl rfl (by simp)
 have hle:(data.take m.toNat).length≤65536:=by rw [List.length_take];omega
 have g2:((S.kills []).set q (.cells (splice [.slice a data.length data.length,.int .i64 sy,.int .i64 room] (0+0) (Value.slice a' (data.take m.toNat).length (data.take m.toNat).length).cells.toList) (.own []) 0)).get q =
   some (.cells [.slice a' (data.take m.toNat).length (data.take m.toNat).length,.int .i64 sy,.int .i64 room] (.own []) 0):=by rw [zx.jw,if_pos rfl];rfl
 have l3:=kQ (t:=3) (o:=0+1) g2 QH rfl
 have l4:=xu (t:=26) (o:=0+0) g2 yY rfl
 have s3:=fun x:Int=>kJ (P:=zi) (t:=3) (o:=0+1) (x:=.int .i64 x) g2 adv rfl rfl (by simp)
 have e3:(if ((data.take m.toNat).length:Int) < sy then ((data.take m.toNat).length:Int) else sy)=min sy (data.take m.toNat).length:=by split <;> omega
 have d2:=h.put d1 (sy':=0) (room':=room) hle (by omega) (by omega) h.rm0 h.rml rfl
 conv at hr =>
  rhs
  rw [hTe]
  simp only [zN.code,zN.rs,zSs,reduceIte,zk,zn,zo,zq,yj,wY,Wx,l1,l2,ln,goInt,ag1,agY,e1,e2,hm,s1,s2,l3,l4,e3,s3]
 rw [hTe] at hr
 have hrun:=zN.runs hr (.inl rfl)
 refine ⟨_,_,hrun,?_⟩
 obtain ⟨a2,q1,q2⟩:=d2.cell
 refine ⟨⟨by simpa using h.lt,hle,by omega,by omega,h.rm0,h.rml,a',by rw [zx.jw,if_pos rfl];rfl,?_⟩,((Old.refl q S).set (Nat.le_refl _) _).set (Nat.le_refl _) _⟩
 rcases d1 with d1 | ⟨r,anc,rest,j1,j2,j3,j4,j5⟩
 ·
  exact .inl d1
 ·
  exact .inr ⟨r,anc,rest,j1,by show (((S.kills []).set q _).set q _).get r=_;rw [zx.jw,if_neg (by omega),zx.jw,if_neg (by omega)];exact j2,j3,by simpa using j4,j5⟩
theorem zH.v (h:Dk S q data sy room):je zi O 25 [.pointer (some ⟨q,0,none⟩)] S=some (by_ 2 data,S):=by
 rw [ady (q:=Ym) rfl]
 obtain ⟨a,h1,h2⟩:=h.cell
 have hlt:=h.lt
 have hb:=h.len
 rcases h2 with ⟨rfl,rfl⟩ | ⟨r,anc,rest,rfl,k2,k3,k4,k5⟩
 ·
  simp only [Ym,h1,if_pos hlt]
  rfl
 ·
  have hlen:(data.flatMap cb).length=data.length:=kG data
  have htk:(data.flatMap cb++rest).take data.length=data.flatMap cb:=by rw [← hlen,List.take_left]
  simp only [Ym,h1,if_pos hlt,k2,htk,agX,if_true,if_pos k4]
  rw [if_pos (by rw [List.length_append,hlen];omega),if_pos (by omega)]
  rfl
end
end Go.Proofs.Ytblpnklfimkfoaa
namespace Go.Proofs.Ytblpnklfimkfoaa
open Go.Abs
theorem agw {t:TypeId} {a b:List UInt8} {S:zx}:xW zi .eql t (.string ⟨a.toArray⟩) (.string ⟨b.toArray⟩) S=some (.bool (decide (a=b)),S):=by rw [aah]
end Go.Proofs.Ytblpnklfimkfoaa
namespace Go.Proofs.Ytblpnklfimkfoaa
open Go.Abs
theorem afn {k:Nat} {l:List UInt8} {m:Int} {S:zx} (h:Okl k l) (h0:0≤m) (h1:m≤l.length):y5 zi 26 (by_ k l) none (some (.int .i64 m)) S=some (by_ (if k=2 then 1 else k) (l.take m.toNat),S):=by
 rw [Zw h (i:=0) (j:=m) rfl rfl (by omega) h0 h1]
 simp
end Go.Proofs.Ytblpnklfimkfoaa
namespace Go.Proofs.Ytblpnklfimkfoaa
open Go.Abs
theorem zU.v {a b:wP} (ha:a.Ok) (hb:b.Ok) (S:zx):je zi O zU.id [rv a,rv b] S=some (.bool ((((decide (a.kind=b.kind) && decide (a.index=b.index)) && decide (a.view=b.view)) && decide (a.value=b.value)) && decide (a.txt=b.txt)),S):=by
 obtain ⟨T,hTe⟩:∃ T,T=(rv a::rv b::zh::zh::zh::zh::zh::zh::zh::zh::zh::zh::zh::zh::zh::zh::zh::zh::zh::zh::zh::zh::zh::zh::zh::zh::zh::zh::zh::zh::zh::zh::zh::zh::zh::zh::zh::zh::zh::zh::[]):=⟨_,rfl⟩
 have hr:zG zi O false zU.code T zx.empty=zG zi O false zU.code T zx.empty:=rfl
 have g0:=abd a b
 have g1:=abH a b
 have hc:[rv a,rv b].all (jk 16)=true:=all2 (Zj ha.okl.le) (Zj hb.okl.le)
 have s1:∀ S,vI zi 26 9 (by_ a.k a.txt) S=some (.string ⟨a.txt.toArray⟩,S):=fun S=>ad2 ha.okl
 have s2:∀ S,vI zi 26 9 (by_ b.k b.txt) S=some (.string ⟨b.txt.toArray⟩,S):=fun S=>ad2 hb.okl
 have s3:∀ S,wV zi false false 26 9 (by_ a.k a.txt) S=some (.string ⟨a.txt.toArray⟩,S):=fun S=>by rw [Ze];exact s1 S
 have s4:∀ S,wV zi false false 26 9 (by_ b.k b.txt) S=some (.string ⟨b.txt.toArray⟩,S):=fun S=>by rw [Ze];exact s2 S
 have cq:∀ S,wz zi .eql 9 (.string ⟨a.txt.toArray⟩) (.string ⟨b.txt.toArray⟩) S=some (.bool (decide (a.txt=b.txt)),S):=fun S=>agw (t:=9)
 conv at hr =>
  rhs
  rw [hTe]
  simp only [zU.code,zU.rs,zSs,reduceIte,zk,zn,zo,zq,afa,agW,xJ,acU g0,acU g1,wM (xA _ _ _),wM (xK _ _ _),wM (xq _ _ _),wM (xI _ _ _),wM (acE g0),wM (acE g1),wM (acX g0),wM (acX g1),wM (adC g0),wM (adC g1),wM (adN g0 ha.ne),wM (adN g1 hb.ne),wM (s1 _),wM (s2 _),wM (s3 _),wM (s4 _),wM (cq _),gvw]
 rw [hTe] at hr
 exact zU.runs hr (.inr rfl) hc rfl
theorem abj {a b:wP} (ha:a.Ok) (hb:b.Ok) (h:vH a b) (S:zx):je zi O 38 [rv a,rv b] S=some (.bool true,S):=by
 obtain ⟨h1,h2,h3,h4,h5⟩:=h
 have:=zU.v ha hb S
 simp only [h1,h2,h3,h4,h5,decide_true,Bool.and_self] at this
 exact this
theorem kE.len {a b:List wP} (h:kE a b):a.length=b.length:=by
 induction h with
 | nil=>rfl
 | cons _ _ ih=>simp [ih]
theorem kE.refl:∀ l:List wP,kE l l
 | []=>.nil
 | x::l=>.cons (vH.refl x) (kE.refl l)
theorem kE.flat {a b:List wP} (h:kE a b):a.flatMap wQ=b.flatMap wQ:=by
 induction h with
 | nil=>rfl
 | cons h _ ih=>rw [List.flatMap_cons,List.flatMap_cons,h.like.2.2,ih]
theorem ae3 {k:Nat} {l pre suf:List wP} {x:wP} (hk:Okl k l) (hl:l=pre++x::suf) (S:zx):jv zi 22 (rl k l) (.int .i64 pre.length) S=some (EP [.int .i64 x.kind,.int .i64 x.index,.int .i64 x.view,.int .i64 x.value,by_ x.k x.txt],S):=by
 rw [aeR yO qo XK hk (by omega) (by rw [hl];simp;omega),aeF hl];rfl
theorem QX {k:Nat} {l:List wP} (hk:Okl k l) (S:zx):qO zi 22 (rl k l) S=some (.int .i64 l.length,S):=aax yO hk
theorem zy.round {k j:Nat} {a b:List wP} (hk:Okl k a) (hj:Okl j b) (k2:k≠2) (j2:j≠2) (ha:∀ r ∈ a,r.Ok) (hb:∀ r ∈ b,r.Ok) (hl:a.length≤2000000000000) {S:zx}:∀ (sa sb pa pb:List wP) {T:List Value} {r:St},kE sa sb→yH (zG zi O false zy.jB) T S=r→T.length=27 →
  T.getD 0 zh=rl k a→T.getD 1 zh=rl j b→T.getD 12 zh=.int .i64 a.length→T.getD 13 zh=.int .i64 pa.length→a=pa++sa→b=pb++sb→pa.length=pb.length →
  ∃ T',r=some (.exit 0,T',S)∧T'.length=27:=by
 intro sa
 induction sa with
 | nil =>
  intro sb pa pb T r hs hL hT h0 h1 h12 h13 hpa hpb hp
  have hTe:=zy.eta hT
  rw [h0,h1,h12,h13] at hTe
  have hr:zG zi O false zy.jB T S=zG zi O false zy.jB T S:=rfl
  have d1:¬ (pa.length:Int) < (a.length:Int):=by rw [hpa];simp
  conv at hr =>
   rhs
   rw [hTe]
   simp only [zy.jB,zy.code,zy.rs,zSs,reduceIte,zk,zn,zo,zq,d1]
  exact ⟨_,hL.symm.trans (jE hr (by simp)),rfl⟩
 | cons x sa ih =>
  intro sb pa pb T r hs hL hT h0 h1 h12 h13 hpa hpb hp
  cases hs with
  | @cons _ y _ sb hxy hs =>
  have hTe:=zy.eta hT
  rw [h0,h1,h12,h13] at hTe
  have hr:zG zi O false zy.jB T S=zG zi O false zy.jB T S:=rfl
  have hal:a.length=pa.length+sa.length+1:=by rw [hpa];simp;omega
  have d1:(pa.length:Int) < (a.length:Int):=by omega
  have e1:=fun S=>ae3 hk hpa S
  have e2:=fun S=>ae3 hj hpb S
  rw [← hp] at e2
  have c1:=fun S=>abj (ha x (by rw [hpa];simp)) (hb y (by rw [hpb];simp)) hxy S
  have wi:IntKind.i64.wrap ((pa.length:Int)+1)=((pa++[x]).length:Int):=by rw [wrap_i64 (by omega) (by omega)];simp
  conv at hr =>
   rhs
   rw [hTe]
   simp only [zy.jB,zy.code,zy.rs,zSs,reduceIte,zk,zn,zo,zq,if_neg k2,if_neg j2,d1,e1,e2,Z4,c1,wi]
  exact ih sb (pa++[x]) (pb++[y]) hs ((wH hr).symm.trans hL) rfl rfl rfl rfl rfl (by simp [hpa]) (by simp [hpb]) (by simp [hp])
theorem zy.v {k j:Nat} {a b:List wP} (hk:Okl k a) (hj:Okl j b) (k2:k≠2) (j2:j≠2) (ha:∀ r ∈ a,r.Ok) (hb:∀ r ∈ b,r.Ok) (hl:a.length≤2000000000000) (hs:kE a b) (S:zx):je zi O zy.id [rl k a,rl j b] S=some (.bool true,S):=by
 obtain ⟨T,hTe⟩:∃ T,T=(rl k a::rl j b::zh::zh::zh::zh::zh::zh::zh::zh::zh::zh::zh::zh::zh::zh::zh::zh::zh::zh::zh::zh::zh::zh::zh::zh::zh::[]):=⟨_,rfl⟩
 have hr:zG zi O false zy.code T S=zG zi O false zy.code T S:=rfl
 have el:(b.length:Int)=(a.length:Int):=by rw [hs.len]
 conv at hr =>
  rhs
  rw [hTe]
  simp only [zy.code,zy.rs,zSs,reduceIte,zk,zn,zo,zq,if_neg k2,if_neg j2,QX hk,QX hj,el,decide_true,Bool.not_true]
 generalize hL:yH (zG zi O false zy.jB) _ _=r at hr
 obtain ⟨T',rfl,g1⟩:=zy.round hk hj k2 j2 ha hb hl a b [] [] hs hL rfl rfl rfl rfl rfl rfl rfl rfl
 have hT':=zy.eta g1
 conv at hr =>
  rhs
  rw [hT']
  simp only [zy.code,zy.rs,zSs,reduceIte,zk,zn,zo,zq]
 rw [hTe] at hr
 exact zy.runs hr (.inr rfl)
def agE (room:Int) (data:List UInt8) (r:wP):Int:=if wB r then (if roomOf room data.length < (wQ r).length then 41 else 0) else 51
theorem jf.v {S:zx} {q:Nat} {data:List UInt8} {sy room:Int} (h:Dk S q data sy room) {r:wP} (ro:r.Ok):∃ S1,je zi O jf.id [.pointer (some ⟨q,0,none⟩),rv r] S=some (.int .i64 (agE room data r),S1)∧Dk S1 q (if agE room data r=0 then data++wQ r else data) sy room∧Old q S S1∧∀ p,q < p→p < S.next→Low S q p→S1.get p=S.get p:=by
 obtain ⟨T,hTe⟩:∃ T,T=(.pointer (some ⟨q,0,none⟩)::rv r::zh::zh::zh::zh::zh::zh::zh::zh::zh::zh::zh::zh::zh::zh::zh::zh::[]):=⟨_,rfl⟩
 have hr:zG zi O false jf.code T S=zG zi O false jf.code T S:=rfl
 obtain ⟨S2,b1,b2,b3,b4⟩:=aeP r S
 have h2:=h.ext b3
 have o2:Old q S S2:=fun k hk=>b3.2 k (by have:=h.lt;omega)
 have c1:=fun S=>zI.v ro S
 unfold acT at c1
 unfold agE
 cases hR:wB r
 ·
  rw [hR] at c1
  conv at hr =>
   rhs
   rw [hTe]
   simp only [jf.code,jf.rs,zSs,reduceIte,zk,zn,zo,zq,b1,KQ b2 ro.ne,c1]
  rw [hTe] at hr
  refine ⟨_,jf.runs hr (.inr rfl),?_,o2,fun p _ hp _=>b3.2 p hp⟩
  exact h2
 ·
  rw [hR] at c1
  obtain ⟨S3,c2,h3,o3,w3⟩:=zK.v (k:=1) (b:=wQ r) h2 Okl.read (by decide) (by have:=Y7 hR;omega)
  conv at hr =>
   rhs
   rw [hTe]
   simp only [jf.code,jf.rs,zSs,reduceIte,zk,zn,zo,zq,b1,KQ b2 ro.ne,c1,c2]
  rw [hTe] at hr
  refine ⟨_,jf.runs hr (.inr rfl),?_,o2.trans o3,fun p hqp hp hlow=>(w3 p hqp (by omega) (fun r n c rest own e hg=>hlow r n c rest own e (by rw [← b3.2 q h.lt];exact hg))).trans (b3.2 p hp)⟩
  by_cases hq:roomOf room data.length < (wQ r).length
  ·
   simp only [if_pos hq] at h3 ⊢
   exact h3
  ·
   simp only [if_neg hq] at h3 ⊢
   exact h3
theorem jm.v {S:zx} {q:Nat} {data:List UInt8} {sy room:Int} (h:Dk S q data sy room):∃ rs m,JO data rs m∧je zi O jm.id [.pointer (some ⟨q,0,none⟩)] S=some (rl (if rs=[] then 0 else 2) rs,S):=by
 obtain ⟨T,hTe⟩:∃ T,T=(.pointer (some ⟨q,0,none⟩)::zh::zh::zh::zh::zh::zh::zh::zh::zh::zh::zh::[]):=⟨_,rfl⟩
 have hr:zG zi O false jm.code T S=zG zi O false jm.code T S:=rfl
 have c1:=zH.v h
 obtain ⟨rs,m,hs,c2⟩:=zB.v (k:=1) (l:=data) Okl.read (by decide) (by have:=h.len;omega)
 refine ⟨rs,m,hs,?_⟩
 conv at hr =>
  rhs
  rw [hTe]
  simp only [jm.code,jm.rs,zSs,reduceIte,zk,zn,zo,zq,c1,c2]
 rw [hTe] at hr
 exact jm.runs hr (.inr rfl)
theorem acs:∀ (want:List wP) (m:Nat) (rs:List wP) (n:Nat),(∀ r ∈ want,wB r=true)→JO ((want.flatMap wQ).take m) rs n →
  kE rs (want.take rs.length)∧rs.length≤want.length∧∀ j,j≤want.length→((want.take j).flatMap wQ).length≤m→j≤rs.length:=by
 intro want
 induction want with
 | nil =>
  intro m rs n hw ⟨h1,h2,rest,h3,h4⟩
  cases rs with
  | nil=>exact ⟨.nil,by simp,fun j hj _=>hj⟩
  | cons r rs =>
   rw [List.flatMap_nil,List.take_nil,List.flatMap_cons] at h3
   have:=congrArg List.length h3
   have:=vC r
   simp at *
   omega
 | cons w want ih =>
  intro m rs n hw ⟨h1,h2,rest,h3,h4⟩
  rw [List.flatMap_cons] at h3
  by_cases hm:m < (wQ w).length
  ·
   cases rs with
   | nil =>
    refine ⟨.nil,by simp,fun j hj hl=>?_⟩
    cases j with
    | zero=>simp
    | succ j =>
     rw [List.take_succ_cons,List.flatMap_cons,List.length_append] at hl
     omega
   | cons r rs =>
    exfalso
    rw [List.take_append_of_le_length (by omega),List.flatMap_cons,List.append_assoc] at h3
    have e:=List.take_append_drop m (wQ w)
    rw [h3,List.append_assoc] at e
    obtain ⟨i1,i2⟩:=YN (h1 r (by simp)).2 (hw w (by simp)) (e.trans (List.append_nil _).symm)
    have e3:=congrArg List.length h3
    rw [List.length_take,List.length_append] at e3
    have e4:(wQ r).length=(wQ w).length:=by rw [i1.like.2.2]
    omega
  ·
   rw [List.take_append,List.take_of_length_le (by omega)] at h3
   cases rs with
   | nil =>
    rw [List.flatMap_nil,List.nil_append] at h3
    exact absurd h3.symm (h4 w _ (hw w (by simp)))
   | cons r rs =>
    rw [List.flatMap_cons,List.append_assoc] at h3
    obtain ⟨i1,i2⟩:=YN (h1 r (by simp)).2 (hw w (by simp)) h3.symm
    obtain ⟨j1,j2,j3⟩:=ih (m - (wQ w).length) rs _ (fun r hr=>hw r (by simp [hr])) ⟨fun r hr=>h1 r (by simp [hr]),rfl,rest,i2.symm,h4⟩
    refine ⟨?_,by simp;omega,fun j hj hl=>?_⟩
    ·
     rw [List.length_cons,List.take_succ_cons];exact .cons i1 j1
    ·
     cases j with
     | zero=>simp
     | succ j =>
      rw [List.take_succ_cons,List.flatMap_cons,List.length_append] at hl
      have:=j3 j (by simp at hj;omega) (by omega)
      simp;omega
abbrev abx:Ty:=.pair (.int .i64) (.pair (.int .i64) (.pair (.int .i64) (.pair (.int .i64) (.pair (.slc 1 (.int .u8)) .unit))))
theorem adY (x:abx.Val) (hg:abx.Good x):∃ r:wP,abx.Jk x=fR r∧r.Ok:=by
 obtain ⟨a,b,c,d,t,u⟩:=x
 obtain ⟨h1,h2,h3,h4,h5,_⟩:=hg
 obtain ⟨k,l,p1,p2,p3,p4⟩:=acZ t h5
 refine ⟨⟨a,b,c,d,k,l⟩,?_,⟨p1,p2,p4,Qw h1,Qw h2,Qw h3,Qw h4⟩⟩
 show [Value.int .i64 a]++([Value.int .i64 b]++([Value.int .i64 c]++([Value.int .i64 d]++((Ty.slc 1 (.int .u8)).Jk t++[]))))=_
 rw [p3];rfl
theorem afp (x:(Ty.slc 56 abx).Val) (hg:(Ty.slc 56 abx).Good x):∃ k l,Okl k l∧k≠2∧(Ty.slc 56 abx).Jk x=[rl k l]∧l.length * 56≤140737488351232∧∀ t ∈ l,t.Ok :=
 agi (b:=56) (e:=abx) fR wP.Ok (fun x hx=>adY x hx) (fun _=>rfl) x hg
end Go.Proofs.Ytblpnklfimkfoaa
namespace Go.Proofs.Ytblpnklfimkfoaa
open Go.Abs
theorem Wu.v:∃ S1,je zi O 10 [] zx.empty=some (.bool true,S1):=by
 have h:(qC zi O 40 10 [] zx.empty).map (·.1)=some (.bool true):=by kernel_rfl
 cases hc:qC zi O 40 10 [] zx.empty with
 | none=>rw [hc] at h;cases h
 | some r =>
  obtain ⟨v,S1⟩:=r
  rw [hc] at h
  cases h
  exact ⟨S1,Vo hc⟩
end Go.Proofs.Ytblpnklfimkfoaa
namespace Go.Proofs.Ytblpnklfimkfoaa
open Go.Abs
namespace journalCuts
def codes:List (Bool×Ty):=[(false,.slc 56 abx),(false,.int .i64),(true,abx)]
theorem coded:WO zi 9 [22,3,28]=some codes:=by kernel_rfl
def pre (want:List wP) (n:Nat):Nat:=((want.take n).flatMap wQ).length
theorem Qp:∀ (want:List wP),(∀ t ∈ want,wB t=true)→(want.flatMap wQ).length≤want.length * 1200
 | [],_=>by simp
 | x::l,h=>by
  have:=Qp l fun t ht=>h t (by simp [ht])
  have:=Y7 (h x (by simp))
  rw [List.flatMap_cons,List.length_append,List.length_cons];omega
theorem adE {l:List Int} {x:Int} {S:zx} (hl:l.length≤1000):jF zi 56 56 (iz 2 l) (iz 2 [x]) S=some (iz 2 (l++[x]),S):=by
 rw [QA Okl.own (by decide) Okl.own (by simp;omega),if_neg (fun h=>by have:=h.2;simp at this)]
def Ends (want:List wP) (ends:List Int):Prop:=ends.length=want.length∧∀ j,j < want.length→ends[j]?=some ((pre want (j+1):Nat):Int)
theorem abL {want:List wP} {ends:List Int} (h:Ends want ends) (x:wP):Ends (want++[x]) (ends++[((((want++[x]).flatMap wQ).length:Nat):Int)]):=by
 refine ⟨by simp [h.1],fun j hj=>?_⟩
 by_cases hj2:j < want.length
 ·
  rw [List.getElem?_append_left (by rw [h.1];exact hj2),h.2 j hj2]
  unfold pre
  rw [List.take_append_of_le_length (by omega)]
 ·
  have e:j=ends.length:=by rw [h.1];simp at hj;omega
  rw [e,List.getElem?_append_right (Nat.le_refl _),Nat.sub_self]
  have:(want++[x]).take (ends.length+1)=want++[x]:=by rw [h.1];exact List.take_of_length_le (by simp)
  unfold pre
  rw [this];rfl
theorem round {k:Nat} {l:List wP} (hk:Okl k l) (k2:k≠2) (hl:l.length≤30) (hg:∀ t ∈ l,t.Ok):∀ (suf done:List wP) {T:List Value} {r:St} {S:zx} {want:List wP} {ends:List Int},yH (zG zi O false zu.jB) T S=r→T.length=121 →
  T.getD 7 zh=by_ 2 (want.flatMap wQ)→T.getD 8 zh=rl 2 want→T.getD 9 zh=iz 2 ends→T.getD 33 zh=rl k l→T.getD 34 zh=.int .i64 l.length→T.getD 35 zh=.int .i64 done.length→l=done++suf →
  (∀ t ∈ want,t.Ok∧wB t=true)→want.length≤done.length→Ends want ends →
  ∃ T' S' want' ends',r=some (.exit 0,T',S')∧T'.length=121∧T'.getD 1 zh=T.getD 1 zh∧T'.getD 5 zh=T.getD 5 zh∧T'.getD 7 zh=by_ 2 (want'.flatMap wQ)∧T'.getD 8 zh=rl 2 want'∧T'.getD 9 zh=iz 2 ends' ∧
   (∀ t ∈ want',t.Ok∧wB t=true)∧want'.length≤30∧Ends want' ends'∧Ext S S':=by
 intro suf
 induction suf with
 | nil =>
  intro done T r S want ends hL hT h7 h8 h9 h33 h34 h35 hpre hw hwl he
  have hTe:=zu.eta hT
  rw [h7,h8,h9,h33,h34,h35] at hTe
  have hr:zG zi O false zu.jB T S=zG zi O false zu.jB T S:=rfl
  have d1:¬ (done.length:Int) < (l.length:Int):=by rw [hpre];simp
  conv at hr =>
   rhs
   rw [hTe]
   simp only [zu.jB,zu.code,zu.rs,zSs,reduceIte,zk,zn,zo,zq,d1]
  exact ⟨_,_,want,ends,hL.symm.trans (jE hr (by simp)),rfl,rfl,rfl,rfl,rfl,rfl,hw,by rw [hpre] at hl;simp at hl;omega,he,Ext.refl S⟩
 | cons x suf ih =>
  intro done T r S want ends hL hT h7 h8 h9 h33 h34 h35 hpre hw hwl he
  have hTe:=zu.eta hT
  rw [h7,h8,h9,h33,h34,h35] at hTe
  have hr:zG zi O false zu.jB T S=zG zi O false zu.jB T S:=rfl
  have hll:l.length=done.length+suf.length+1:=by rw [hpre];simp;omega
  have d1:(done.length:Int) < (l.length:Int):=by omega
  have xo:=hg x (by rw [hpre];simp)
  have e1:=fun S=>ae3 hk hpre S
  have wi:IntKind.i64.wrap ((done.length:Int)+1)=((done++[x]).length:Int):=by rw [wrap_i64 (by omega) (by omega)];simp
  obtain ⟨S2,b1,b2,b3,b4⟩:=ab8 x S
  have c1:=fun S=>zI.v xo S
  unfold acT at c1
  cases hR:wB x
  ·
   rw [hR] at c1
   conv at hr =>
    rhs
    rw [hTe]
    simp only [zu.jB,zu.code,zu.rs,zSs,reduceIte,zk,zn,zo,zq,d1,e1,Z4,afK,b1,KQ b2 xo.ne,c1,wi]
   obtain ⟨T',S',w',e',q1,q2,q3,q4,q5,q6,q7,q8,q9,q10,q11⟩:=ih (done++[x]) ((wH hr).symm.trans hL) rfl rfl rfl rfl rfl rfl rfl (by simp [hpre]) hw (by simp;omega) he
   exact ⟨T',S',w',e',q1,q2,q3,q4,q5,q6,q7,q8,q9,q10,b3.trans q11⟩
  ·
   rw [hR] at c1
   have rb:=Y7 hR
   have fl:=Qp want fun t ht=>(hw t ht).2
   have ef:(want++[x]).flatMap wQ=want.flatMap wQ++wQ x:=by simp
   have a1:∀ S,jF zi 26 26 (by_ 2 (want.flatMap wQ)) (by_ 1 (wQ x)) S=some (by_ 2 ((want++[x]).flatMap wQ),S):=fun S=>by
    rw [qU Okl.own (by decide) Okl.read (by omega),if_neg (by omega),ef]
   have ap:=fun S=>XA (S:=S) (r:=x) (k:=2) (l:=want) Okl.own (by decide) (by omega)
   have lb:∀ S,qO zi 26 (by_ 1 ((want++[x]).flatMap wQ)) S=some (.int .i64 ((want++[x]).flatMap wQ).length,S):=fun S=>qp Okl.read
   have bi:∀ (n:Int) S,jh zi 56 1 [(0,.int .i64 n)] S=some (iz 2 [n],S):=fun n S=>by kernel_rfl
   have am:=fun S=>adE (S:=S) (l:=ends) (x:=(((want++[x]).flatMap wQ).length:Nat)) (by rw [he.1];omega)
   conv at hr =>
    rhs
    rw [hTe]
    simp only [zu.jB,zu.code,zu.rs,zSs,reduceIte,zk,zn,zo,zq,d1,e1,Z4,afK,b1,KQ b2 xo.ne,c1,a1,Xn,ap,lb,bi,am,wi]
   obtain ⟨T',S',w',e',q1,q2,q3,q4,q5,q6,q7,q8,q9,q10,q11⟩:=ih (done++[x]) (want:=want++[x]) ((wH hr).symm.trans hL) rfl rfl rfl rfl rfl rfl rfl (by simp [hpre]) (fun t ht=>by
    rcases List.mem_append.1 ht with ht | ht
    ·
     exact hw t ht
    ·
     rw [List.mem_singleton.1 ht];exact ⟨xo,hR⟩) (by simp;omega) (abL he x)
   exact ⟨T',S',w',e',q1,q2,q3,q4,q5,q6,q7,q8,q9,q10,b3.trans q11⟩
theorem agr {want:List wP} {ends:List Int} {n:Int} (he:Ends want ends) (hl:want.length≤30) {S:zx}:∀ (m i w:Nat) {T:List Value} {r:St},yH (zG zi O false zu.WI) T S=r→T.length=121 →
  T.getD 1 zh=.int .i64 n→T.getD 14 zh=.int .i64 (w:Nat)→T.getD 15 zh=.int .i64 (pre want w:Nat)→T.getD 63 zh=iz 1 ends→T.getD 64 zh=.int .i64 ends.length→T.getD 65 zh=.int .i64 (i:Nat)→i+m=want.length →
  w≤i→(pre want w:Int)≤n→(∀ j,j≤i→(pre want j:Int)≤n→j≤w) →
  ∃ T' w',r=some (.exit 2,T',S)∧T'.length=121∧T'.getD 1 zh=.int .i64 n∧T'.getD 5 zh=T.getD 5 zh∧T'.getD 7 zh=T.getD 7 zh∧T'.getD 8 zh=T.getD 8 zh∧T'.getD 14 zh=.int .i64 (w':Nat)∧T'.getD 15 zh=.int .i64 (pre want w':Nat) ∧
   w'≤want.length∧(pre want w':Int)≤n∧(∀ j,j≤want.length→(pre want j:Int)≤n→j≤w'):=by
 intro m
 induction m with
 | zero =>
  intro i w T r hL hT h1 h14 h15 h63 h64 h65 him hwi hwn hmax
  have hTe:=zu.eta hT
  rw [h1,h14,h15,h63,h64,h65] at hTe
  have hr:zG zi O false zu.WI T S=zG zi O false zu.WI T S:=rfl
  have hel:=he.1
  have d1:¬ (i:Int) < (ends.length:Int):=by omega
  conv at hr =>
   rhs
   rw [hTe]
   simp only [zu.WI,zu.code,zu.rs,zSs,reduceIte,zk,zn,zo,zq,d1]
  exact ⟨_,w,hL.symm.trans (jE hr (by simp)),rfl,rfl,rfl,rfl,rfl,rfl,rfl,by omega,hwn,fun j hj=>hmax j (by omega)⟩
 | succ m ih =>
  intro i w T r hL hT h1 h14 h15 h63 h64 h65 him hwi hwn hmax
  have hTe:=zu.eta hT
  rw [h1,h14,h15,h63,h64,h65] at hTe
  have hr:zG zi O false zu.WI T S=zG zi O false zu.WI T S:=rfl
  have hel:=he.1
  have d1:(i:Int) < (ends.length:Int):=by omega
  have e1:=fun S=>Kw (k:=1) (l:=ends) (i:=(i:Int)) (m:=i) Okl.read rfl (he.2 i (by omega)) S
  have wi:IntKind.i64.wrap ((i:Int)+1)=((i+1:Nat):Int):=by rw [wrap_i64 (by omega) (by omega)];omega
  by_cases hq:((pre want (i+1):Nat):Int)≤n
  ·
   have dq:=decide_eq_true hq
   conv at hr =>
    rhs
    rw [hTe]
    simp only [zu.WI,zu.code,zu.rs,zSs,reduceIte,zk,zn,zo,zq,d1,e1,xw,dq,wi]
   obtain ⟨T',w',q1,q2,q3,q4,q5,q6,q7⟩:=ih (i+1) (i+1) ((wH hr).symm.trans hL) rfl rfl rfl rfl rfl rfl rfl (by omega) (Nat.le_refl _) hq (fun j hj _=>hj)
   exact ⟨T',w',q1,q2,q3,q4,q5,q6,q7⟩
  ·
   have dq:=decide_eq_false hq
   conv at hr =>
    rhs
    rw [hTe]
    simp only [zu.WI,zu.code,zu.rs,zSs,reduceIte,zk,zn,zo,zq,d1,e1,xw,dq,wi]
   obtain ⟨T',w',q1,q2,q3,q4,q5,q6,q7⟩:=ih (i+1) w ((wH hr).symm.trans hL) rfl rfl rfl rfl rfl rfl rfl (by omega) (by omega) hwn (fun j hj hp=>by
    by_cases hji:j=i+1
    ·
     subst hji;exact absurd hp hq
    ·
     exact hmax j (by omega) hp)
   exact ⟨T',w',q1,q2,q3,q4,q5,q6,q7⟩
theorem ae1 {k:Nat} {l:List wP} {S:zx} (h:Okl k l) (hl:l.length≤1000):jF zi 22 22 (rl 2 []) (rl k l) S=some (rl 2 l,S):=by
 rw [Zc yO qo QD rfl QI (by omega) yO XK adP Okl.own (by decide) h (by simp;omega) (by simp;omega),if_neg (fun h=>by have:=h.1;omega),List.nil_append]
theorem ac7 (r:wP):∃ S1,je zi O 10 [] (acz r)=some (.bool true,S1)∧S1.get 0=some (.cells (fR r) (.own []) 0)∧0 < S1.next:=by
 have h:(qC zi O 40 10 [] (acz r)).map (fun x=>(x.1,x.2.get 0,Nat.ble 1 x.2.next))=some (.bool true,some (.cells (fR r) (.own []) 0),true):=by kernel_rfl
 cases hc:qC zi O 40 10 [] (acz r) with
 | none=>rw [hc] at h;cases h
 | some x =>
  obtain ⟨v,S1⟩:=x
  rw [hc] at h
  simp only [Option.map_some,Option.some.injEq,Prod.mk.injEq] at h
  obtain ⟨rfl,h2,h3⟩:=h
  exact ⟨S1,Vo hc,h2,Nat.le_of_ble_eq_true h3⟩
theorem run {k:Nat} {l:List wP} {n0:Int} {rr:wP} (hk:Okl k l) (k2:k≠2) (hg:∀ t ∈ l,t.Ok) (hn:-9223372036854775808≤n0∧n0 < 9223372036854775808) (ro:rr.Ok):∃ S',je zi O 8 [rl k l,.int .i64 n0,rv rr] zx.empty=some (.bool true,S'):=by
 obtain ⟨T,hTe⟩:∃ T,T=(rl k l::.int .i64 n0::rv rr::zh::zh::zh::zh::zh::zh::zh::zh::zh::zh::zh::zh::zh::zh::zh::zh::zh::zh::zh::zh::zh::zh::zh::zh::zh::zh::zh::zh::zh::zh::zh::zh::zh::zh::zh::zh::zh::zh::zh::zh::zh::zh::zh::zh::zh::zh::zh::zh::zh::zh::zh::zh::zh::zh::zh::zh::zh::zh::zh::zh::zh::zh::zh::zh::zh::zh::zh::zh::zh::zh::zh::zh::zh::zh::zh::zh::zh::zh::zh::zh::zh::zh::zh::zh::zh::zh::zh::zh::zh::zh::zh::zh::zh::zh::zh::zh::zh::zh::zh::zh::zh::zh::zh::zh::zh::zh::zh::zh::zh::zh::zh::zh::zh::zh::zh::zh::zh::zh::[]):=⟨_,rfl⟩
 have hr:zG zi O false zu.code T zx.empty=zG zi O false zu.code T zx.empty:=rfl
 obtain ⟨S1,c0,gr,n1⟩:=ac7 rr
 by_cases h1:(30:Int) < (l.length:Int)
 ·
  have dq:=decide_eq_true h1
  conv at hr =>
   rhs
   rw [hTe]
   simp only [zu.code,zu.rs,zSs,reduceIte,zk,zn,zo,zq,afa,c0,if_neg k2,QX hk,dq]
  rw [hTe] at hr
  exact ⟨_,zu.runs hr (.inr rfl)⟩
 have dq:=decide_eq_false h1
 by_cases h2:n0 < 0
 ·
  have dq2:=decide_eq_true h2
  conv at hr =>
   rhs
   rw [hTe]
   simp only [zu.code,zu.rs,zSs,reduceIte,zk,zn,zo,zq,afa,c0,if_neg k2,QX hk,dq,dq2]
  rw [hTe] at hr
  exact ⟨_,zu.runs hr (.inr rfl)⟩
 have dq2:=decide_eq_false h2
 have rl0:∀ S,jh zi 22 0 [] S=some (rl 2 [],S):=fun S=>by rw [WG];rfl
 have iz0:∀ S,jh zi 56 0 [] S=some (iz 2 [],S):=fun S=>by rw [aag];rfl
 conv at hr =>
  rhs
  rw [hTe]
  simp only [zu.code,zu.rs,zSs,reduceIte,zk,zn,zo,zq,afa,c0,if_neg k2,QX hk,dq,dq2,bb0,rl0,iz0]
 generalize hL:yH (zG zi O false zu.jB) _ _=r at hr
 obtain ⟨T',S2,want,ends,rfl,g1,g2,g3,g4,g5,g6,g7,g8,g9,g10⟩:=round hk k2 (by omega) hg l [] (want:=[]) (ends:=[]) hL rfl rfl rfl rfl rfl rfl rfl rfl (fun t ht=>by cases ht) (Nat.le_refl _) ⟨rfl,fun j hj=>by simp at hj⟩
 have g2:T'.getD 1 zh=.int .i64 n0:=g2
 have g3:T'.getD 5 zh=.pointer (some ⟨0,0,none⟩):=g3
 have hT':=zu.eta g1
 rw [g2,g3,g4,g5,g6] at hT'
 have gr2:S2.get 0=some (.cells (fR rr) (.own []) 0):=by rw [g10.2 0 n1];exact gr
 have n2:0 < S2.next:=Nat.lt_of_lt_of_le n1 g10.1
 have lb:∀ S,qO zi 26 (by_ 1 (want.flatMap wQ)) S=some (.int .i64 (want.flatMap wQ).length,S):=fun S=>qp Okl.read
 have lb2:∀ S,qO zi 26 (by_ 2 (want.flatMap wQ)) S=some (.int .i64 (want.flatMap wQ).length,S):=fun S=>qp Okl.own
 have le:∀ S,qO zi 56 (iz 1 ends) S=some (.int .i64 ends.length,S):=fun S=>Vh Okl.read
 have fl:=Qp want fun t ht=>(g7 t ht).2
 obtain ⟨n,hn2,hn0,hnl⟩:∃ n:Int,(if ((want.flatMap wQ).length:Int) < n0 then ((want.flatMap wQ).length:Int) else n0)=n∧0≤n∧n≤(want.flatMap wQ).length:=⟨_,rfl,by split <;> omega,by split <;> omega⟩
 conv at hr =>
  rhs
  rw [hT']
  simp only [zu.code,zu.rs,zSs,reduceIte,zk,zn,zo,zq,lb,ag1,hn2,le]
 generalize hL2:yH (zG zi O false zu.WI) _ _=r at hr
 obtain ⟨T2,w,rfl,f1,f2,f3,f4,f5,f6,f7,f8,f9,f10⟩:=agr g9 g8 want.length 0 0 hL2 rfl rfl rfl rfl rfl rfl rfl (by omega) (Nat.le_refl _) (by have:pre want 0=0:=rfl;omega) (fun j hj _=>hj)
 have f3:T2.getD 5 zh=.pointer (some ⟨0,0,none⟩):=f3
 have f4:T2.getD 7 zh=by_ 2 (want.flatMap wQ):=f4
 have f5:T2.getD 8 zh=rl 2 want:=f5
 have hT2:=zu.eta f1
 rw [f2,f3,f4,f5,f6,f7] at hT2
 have sl:∀ S,y5 zi 26 (by_ 1 (want.flatMap wQ)) none (some (.int .i64 n)) S=some (by_ 1 ((want.flatMap wQ).take n.toNat),S):=fun S=>afn Okl.read hn0 hnl
 have cp:∀ S,jF zi 26 26 (by_ 2 []) (by_ 1 ((want.flatMap wQ).take n.toNat)) S=some (by_ 2 ((want.flatMap wQ).take n.toNat),S):=fun S=>aeT Okl.read (by rw [List.length_take];omega)
 obtain ⟨rs,m,hs,c3⟩:=zB.v (k:=1) (l:=(want.flatMap wQ).take n.toNat) Okl.read (by decide) (by rw [List.length_take];omega)
 obtain ⟨i1,i2,i3⟩:=acs want _ rs m (fun t ht=>(g7 t ht).2) hs
 have hm:m=pre want rs.length:=by rw [hs.2.1,i1.flat];rfl
 have hmn:m≤n.toNat:=by
  obtain ⟨rest,e,_⟩:=hs.2.2
  have:=congrArg List.length e
  rw [List.length_take,List.length_append] at this
  have:=hs.2.1
  omega
 have hw:w=rs.length:=Nat.le_antisymm (i3 w f8 (by have:pre want w=((want.take w).flatMap wQ).length:=rfl;omega)) (f10 rs.length i2 (by omega))
 subst hw
 have hk0:Okl (if rs=[] then 0 else 2) rs:=⟨by split <;> omega,fun h=>by split at h <;> first | assumption | omega⟩
 generalize (if rs=[] then 0 else 2)=k0 at c3 hk0
 have em:decide ((m:Int)=((pre want rs.length:Nat):Int))=true:=decide_eq_true (by omega)
 have sw:∀ S,y5 zi 22 (rl 1 want) none (some (.int .i64 rs.length)) S=some (rl 1 (want.take rs.length),S):=fun S=>by
  rw [XP yO qo XK (Okl.read (l:=want)) (i:=0) (j:=rs.length) rfl rfl (by omega) (by omega) (by omega)]
  simp
 have c4:=fun S=>zy.v hk0.dem (Okl.read (l:=want.take rs.length)) (abV _) (by decide) (fun t ht=>(hs.1 t ht).1) (fun t ht=>(g7 t (List.mem_of_mem_take ht)).1) (by omega) i1 S
 obtain ⟨S3,c5,hD,o3⟩:=jI.v (r:=65536) S2
 obtain ⟨S4,c6,hD4,o4,_⟩:=zK.v (k:=1) (b:=(want.flatMap wQ).take n.toNat) hD Okl.read (by decide) (by rw [List.length_take];omega)
 have hroom:¬ roomOf (max 0 (min 65536 65536)) ([]:List UInt8).length < ((want.flatMap wQ).take n.toNat).length:=by
  rw [List.length_take]
  unfold roomOf
  simp
  omega
 rw [if_neg hroom] at c6 hD4
 rw [List.nil_append] at hD4
 obtain ⟨v5,S5,c7,hD5,o5⟩:=zN.v (n:=(m:Int)) hD4 ⟨by omega,by omega⟩
 have hcut:((want.flatMap wQ).take n.toNat).take (max 0 (min (m:Int) ((want.flatMap wQ).take n.toNat).length)).toNat=(want.take rs.length).flatMap wQ:=by
  obtain ⟨rest,e,_⟩:=hs.2.2
  rw [e,i1.flat]
  have hml:m=((want.take rs.length).flatMap wQ).length:=hm
  rw [List.length_append,show (max 0 (min (m:Int) ((((want.take rs.length).flatMap wQ).length+rest.length:Nat):Int))).toNat=((want.take rs.length).flatMap wQ).length by omega,List.take_left]
 rw [hcut] at hD5
 obtain ⟨S6,c8,hD6,o6,_⟩:=jf.v hD5 ro
 have gr5:S5.get 0=some (.cells (fR rr) (.own []) 0):=by rw [o5 0 n2,o4 0 n2,o3 0 n2];exact gr2
 have gr6:S6.get 0=some (.cells (fR rr) (.own []) 0):=by rw [o6 0 n2];exact gr5
 by_cases hq:agE (max 0 (min 65536 65536)) ((want.take rs.length).flatMap wQ) rr=0
 ·
  have da:=decide_eq_true hq
  rw [if_pos hq] at hD6
  have hR:wB rr=true:=by
   unfold agE at hq
   split at hq
   ·
    assumption
   ·
    cases hq
  obtain ⟨rs2,m2,hs2,c9⟩:=jm.v hD6
  have hex:JO ((want.take rs.length).flatMap wQ++wQ rr) (want.take rs.length++[rr]) ((want.take rs.length++[rr]).flatMap wQ).length:=by
   refine ⟨fun t ht=>?_,rfl,[],by simp,fun x t hx h=>?_⟩
   ·
    rcases List.mem_append.1 ht with ht | ht
    ·
     exact g7 t (List.mem_of_mem_take ht)
    ·
     rw [List.mem_singleton.1 ht];exact ⟨ro,hR⟩
   ·
    have:=congrArg List.length h
    have:=vC x
    rw [List.length_append,List.length_nil] at *
    omega
  have hss:=(VX _ _ _ _ _ hs2 hex).1
  have hk3:Okl (if rs2=[] then 0 else 2) rs2:=⟨by split <;> omega,fun h=>by split at h <;> first | assumption | omega⟩
  generalize (if rs2=[] then 0 else 2)=k3 at c9 hk3
  have hl2:=hss.len
  have c10:=fun S=>zy.v hk3.dem (Okl.read (l:=want.take rs.length++[rr])) (abV _) (by decide) (fun t ht=>(hs2.1 t ht).1) (fun t ht=>(hex.1 t ht).1) (by rw [hl2];simp;omega) hss S
  have a2:=fun S=>ae1 (S:=S) (Okl.read (l:=want.take rs.length)) (by simp;omega)
  have a3:=fun S=>XA (S:=S) (r:=rr) (k:=2) (l:=want.take rs.length) Okl.own (by decide) (by simp;omega)
  conv at hr =>
   rhs
   rw [hT2]
   simp only [zu.code,zu.rs,zSs,reduceIte,zk,zn,zo,zq,bb0,sl,cp,c3,em,afW,sw,c4,c5,c6,c7,KQ gr5 ro.ne,c8,da,c9,rl0,abf (abD rr),a2,KQ gr6 ro.ne,Xn,a3,c10,vX gr6]
  rw [hTe] at hr
  exact ⟨_,zu.runs hr (.inr rfl)⟩
 ·
  have da:=decide_eq_false hq
  conv at hr =>
   rhs
   rw [hT2]
   simp only [zu.code,zu.rs,zSs,reduceIte,zk,zn,zo,zq,bb0,sl,cp,c3,em,afW,sw,c4,c5,c6,c7,KQ gr5 ro.ne,c8,da]
  rw [hTe] at hr
  exact ⟨_,zu.runs hr (.inr rfl)⟩
theorem law (x:Args codes) (h:Args.Good codes x):∃ k,(kM zi k 8 (Args.place codes x zx.empty).1 (Args.place codes x zx.empty).2).map (·.1)=some (.bool true):=by
 obtain ⟨a,b,c,u⟩:=x
 obtain ⟨h1,h2,h3,_⟩:=h
 obtain ⟨k,l,p1,p2,p3,p4,p5⟩:=afp a h1
 obtain ⟨rr,r1,ro⟩:=adY c h3
 obtain ⟨S',e⟩:=run p1 p2 p5 (Qw h2) ro
 refine XE agn (S':=S') ?_
 have e2:Args.Jk codes (a,b,c,u)=[rl k l,.int .i64 b,rv rr]:=by
  show [xg false ((Ty.slc 56 abx).Jk a),xg false [.int .i64 b],xg true (abx.Jk c)]=_
  rw [p3,r1];rfl
 rw [e2]
 exact e
end journalCuts
end Go.Proofs.Ytblpnklfimkfoaa
namespace Go.Proofs.Ytblpnklfimkfoaa.journalCuts
open Go.ChangeShapes Go.WideShapes Go.ChangeAt Go.RowKit Go.Abs
theorem own:ownKnob zi.godebug=none:=by kernel_rfl
theorem laidOut:laidOutB zi=true:=by kernel_rfl
theorem mixes:zi.follows .mixedOrders=true:=by kernel_rfl
set_option maxRecDepth 100000 in
theorem lifted (os:Os) (started:os.Started) (H:Type) (enc:TypeId×Value→H) :
  ReturnsInHanded {} Try.checked os 8 .any (Rows.journalCutsSpec.pre6 enc zi Try.f8 Rows.journalCutsRow.domain false) (Rows.journalCutsSpec.post enc zi Try.f8 false true false false):=by
 refine returnsInHanded_of_change_sized (C:=Try.checked) own started (by kernel_rfl) Try.func8
  (ChangeSpec.witness6 (enc:=enc) (C:=Try.checked) false ⟨#[],#[.slice none 0 0,.int .i64 0,.agg #[.int .i64 0,.int .i64 0,.int .i64 0,.int .i64 0,.slice none 0 0]],[]⟩ 8 (by kernel_rfl) (by kernel_rfl) (by kernel_rfl) (by kernel_rfl)) ?_
 intro W base args ds gs before hval0 hW hcnd hsz0 _
 have hW':=hW
 obtain ⟨p,q,hA0,hV,rfl,hfz,hnd⟩:=hW
 obtain ⟨rfl,rfl⟩:=trodVars_none hV
 have hsz1:(DataW.weightsEach zi (Try.f8.params.toList++Rows.journalCutsSpec.plain.varTypes zi) (ds++[])).all (·≤reachBytes)=true:=hsz0
 have hval:∀ (j:Nat) t v,Try.f8.params[j]?=some t→args[j]?=some v→Value.okWide zi W .any base t v:=hval0
 have hA1:DataW.TrodAll enc zi W 0 (fun _=>true) true Try.f8.params.toList args.toList ds p:=hA0
 rw [Try.params8] at hA1 hsz1 hval
 have hA:DataW.TrodAll enc zi W 0 (fun _=>true) true [22,3,28] args.toList ds p:=hA1
 have hsz:(DataW.weightsEach zi [22,3,28] ds).all (·≤reachBytes)=true:=by rw [List.append_nil ds] at hsz1;exact hsz1
 clear hA0 hA1 hval0 hsz0 hsz1
 have r:=hA
 obtain ⟨v0,vs0,d0,ds0,p0,q0,hargs0,rfl,hp0,h0,r0⟩:=trodAll_cons r
 obtain ⟨v1,vs1,d1,ds1,p1,q1,hargs1,rfl,hp1,h1,r1⟩:=trodAll_cons r0
 obtain ⟨v2,vs2,d2,ds2,p2,q2,hargs2,rfl,hp2,h2,r2⟩:=trodAll_cons r1
 obtain ⟨_,rfl,_⟩:=trodAll_nil r2
 refine (ab4 mixes coded law hA (fun j t v h1 h2=>hval j t v (by rw [List.getElem?_toArray];exact h1) h2) hsz).mono fun e W' ⟨he,bel⟩=>?_
 subst he
 exact ⟨_,rfl,_,_,_,[],_,[],hW',trodAll_mk1 (shut_bool (by kernel_rfl) _),ade laidOut bel _ _ _ _ (by kernel_rfl) hA,rfl,bel.frame _,fun h=>by cases h⟩
theorem over:Rows.journalCutsRow.holds Try.pinned (OpenSpec.ofChange Rows.journalCutsSpec) :=
 OpenClaim.holds_of_wide 8 Try.f8 rfl rfl rfl rfl rfl rfl rfl ⟨rfl,rfl,rfl,rfl,rfl⟩ rfl rfl rfl rfl rfl (by kernel_rfl) Try.func8 (by kernel_rfl)
  (of_decide_eq_true (by kernel_rfl)) (by unfold Func.isWrapper;first | (rw [if_pos (by decide +kernel)];kernel_rfl) | (rw [if_neg (by decide +kernel)];exact ⟨rfl,rfl⟩))
  (fun os started H enc _=>lifted os started H enc)
theorem proved:Rows.JournalCutsSaid:=over
end Go.Proofs.Ytblpnklfimkfoaa.journalCuts
namespace Go.Proofs.Ytblpnklfimkfoaa
theorem journalCuts_holds:Rows.JournalCutsSaid:=journalCuts.proved
#print axioms journalCuts_holds
end Go.Proofs.Ytblpnklfimkfoaa
