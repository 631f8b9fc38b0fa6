/-
The law MempoolBest returns true for every input, and leaves it as it was; no condition. Part 5 of 5 of the texts (put together by a program: own names are short, what isn't needed is left out).
-/
import Derived.Test.YtacbgjhmkhjpoaaZMempoolBest4
import Derived.Test.YtacbgjhmkhjpoaaChecked
import Derived.KernelRfl
import Derived.Test.YtacbgjhmkhjpoaaRows
import Derived.WalkKit
import Derived.ProofKit
import Derived.OpenShut
import Derived.ShutString
import Derived.ChangeOld
import Derived.Below
import Derived.SizedLaws
import Derived.Carry
set_option linter.unusedVariables false
set_option linter.unusedSimpArgs false
set_option maxRecDepth 100000
open Go renaming undef → zh
open Go.Proofs.Try renaming prog → zi
open Nat renaming reduceEqDiff → zk
open Int renaming reduceEq → zn
open Int renaming reduceLT → zo
open Int renaming reduceLE → zq
namespace Go.Proofs.Ytacbgjhmkhjpoaa
open Go.Abs
abbrev zB.id:FuncId:=12
noncomputable def zB.code:Code:=(.seq (.region 0 (reg Try.f12 0) false) (.seq (.seq (.region 1 (reg Try.f12 1) false) (.cond (.tmp 8) (.seq (.region 2 (reg Try.f12 2) false) Code.ret) Code.skip)) (.seq (.seq (.region 3 (reg Try.f12 3) false) (.cond (.tmp 14) (.seq (.region 4 (reg Try.f12 4) false) Code.ret) Code.skip)) (.seq (.region 5 (reg Try.f12 5) false) (.seq (.seq (.region 6 (reg Try.f12 6) false) (.cond (.tmp 22) (.region 7 (reg Try.f12 7) false) Code.skip)) (.seq (.seq (.region 8 (reg Try.f12 8) false) (.cond (.tmp 29) (.seq (.region 9 (reg Try.f12 9) false) Code.ret) Code.skip)) (.seq (.region 10 (reg Try.f12 10) true) (.seq (.region 11 (reg Try.f12 11) true) (.seq (.region 12 (reg Try.f12 12) false) Code.ret)))))))))
theorem zB.body:Try.f12.body=some zB.code:=by kernel_rfl
variable (b x1 x2 x3 x4 x5 x6 x7 x8 x9 c d f g i j k l m n o p q r s t u w x y z A B C D E F G H I J K L M N P Q R U V W X Y Z a0:Value) (S:zx)
theorem zB.r0 :jg zi ⟨true,false,false⟩ (yH O.hp true (zS zi O)) (reg Try.f12 0) (reg Try.f12 0).toList ([b,x1,x2,x3,x4,x5,x6,x7,x8,x9,c,d,f,g,i,j,k,l,m,n,o,p,q,r,s,t,u,w,x,y,z,A,B,C,D,E,F,G,H,I,J,K,L,M,N,P,Q,R,U,V,W,X,Y,Z,a0]) S =
  (zU (ZH (dem x1) S) (fun v0 S1=>some ([b,x1,x2,v0,.int .i64 0,x5,x6,x7,x8,x9,c,d,f,g,i,j,k,l,m,n,o,p,q,r,s,t,u,w,x,y,z,A,B,C,D,E,F,G,H,I,J,K,L,M,N,P,Q,R,U,V,W,X,Y,Z,a0],S1)) ()):=by
 kernel_rfl
theorem zB.r1 :jg zi ⟨true,false,false⟩ (yH O.hp true (zS zi O)) (reg Try.f12 1) (reg Try.f12 1).toList ([b,x1,x2,x3,x4,x5,x6,x7,x8,x9,c,d,f,g,i,j,k,l,m,n,o,p,q,r,s,t,u,w,x,y,z,A,B,C,D,E,F,G,H,I,J,K,L,M,N,P,Q,R,U,V,W,X,Y,Z,a0]) S =
  (zU (jd zi false 30 x3 S) (fun v0 S1=>zU (Jt (zS zi O) 22 [(dem v0)] S1) (fun v1 S2=>zU (aUn zi UnOp.not v1 S2) (fun v2 S3=>some ([b,x1,x2,x3,x4,x5,v0,v1,v2,x9,c,d,f,g,i,j,k,l,m,n,o,p,q,r,s,t,u,w,x,y,z,A,B,C,D,E,F,G,H,I,J,K,L,M,N,P,Q,R,U,V,W,X,Y,Z,a0],S3)) ()) ()) ()):=by
 kernel_rfl
theorem zB.r2 :jg zi ⟨true,false,false⟩ (yH O.hp true (zS zi O)) (reg Try.f12 2) (reg Try.f12 2).toList ([b,x1,x2,x3,x4,x5,x6,x7,x8,x9,c,d,f,g,i,j,k,l,m,n,o,p,q,r,s,t,u,w,x,y,z,A,B,C,D,E,F,G,H,I,J,K,L,M,N,P,Q,R,U,V,W,X,Y,Z,a0]) S =
  ( some ([b,x1,x2,x3,.int .i64 61,x5,x6,x7,x8,x9,c,d,f,g,i,j,k,l,m,n,o,p,q,r,s,t,u,w,x,y,z,A,B,C,D,E,F,G,H,I,J,K,L,M,N,P,Q,R,U,V,W,X,Y,Z,a0],S)):=by
 kernel_rfl
theorem zB.r3 :jg zi ⟨true,false,false⟩ (yH O.hp true (zS zi O)) (reg Try.f12 3) (reg Try.f12 3).toList ([b,x1,x2,x3,x4,x5,x6,x7,x8,x9,c,d,f,g,i,j,k,l,m,n,o,p,q,r,s,t,u,w,x,y,z,A,B,C,D,E,F,G,H,I,J,K,L,M,N,P,Q,R,U,V,W,X,Y,Z,a0]) S =
  (zU (jV (dem b) S) (fun v1 S1=>zU (zN zi 49 v1 0 S1) (fun v2 S2=>zU (jd zi false 23 v2 S2) (fun v3 S3=>zU (Jt (zS zi O) 23 [(dem v3),(Value.func (Fn.func 24) #[] #[(dem x3)])] S3) (fun v5 S4=>some ([b,x1,x2,x3,x4,x5,x6,x7,x8,dem b,v1,v2,v3,Value.func (Fn.func 24) #[] #[(dem x3)],v5,j,k,l,m,n,o,p,q,r,s,t,u,w,x,y,z,A,B,C,D,E,F,G,H,I,J,K,L,M,N,P,Q,R,U,V,W,X,Y,Z,a0],S4)) ()) ()) ()) ()):=by
 kernel_rfl
theorem zB.r4 :jg zi ⟨true,false,false⟩ (yH O.hp true (zS zi O)) (reg Try.f12 4) (reg Try.f12 4).toList ([b,x1,x2,x3,x4,x5,x6,x7,x8,x9,c,d,f,g,i,j,k,l,m,n,o,p,q,r,s,t,u,w,x,y,z,A,B,C,D,E,F,G,H,I,J,K,L,M,N,P,Q,R,U,V,W,X,Y,Z,a0]) S =
  ( some ([b,x1,x2,x3,.int .i64 91,x5,x6,x7,x8,x9,c,d,f,g,i,j,k,l,m,n,o,p,q,r,s,t,u,w,x,y,z,A,B,C,D,E,F,G,H,I,J,K,L,M,N,P,Q,R,U,V,W,X,Y,Z,a0],S)):=by
 kernel_rfl
theorem zB.r5 :jg zi ⟨true,false,false⟩ (yH O.hp true (zS zi O)) (reg Try.f12 5) (reg Try.f12 5).toList ([b,x1,x2,x3,x4,x5,x6,x7,x8,x9,c,d,f,g,i,j,k,l,m,n,o,p,q,r,s,t,u,w,x,y,z,A,B,C,D,E,F,G,H,I,J,K,L,M,N,P,Q,R,U,V,W,X,Y,Z,a0]) S =
  (zU (jV (dem b) S) (fun v1 S1=>zU (zN zi 49 v1 0 S1) (fun v2 S2=>zU (jd zi false 23 v2 S2) (fun v3 S3=>zU (Jt (zS zi O) 25 [(dem v3),(Value.func (Fn.func 26) #[] #[(dem x3)])] S3) (fun v5 S4=>some ([b,x1,x2,x3,x4,v5,x6,x7,x8,x9,c,d,f,g,i,dem b,v1,v2,v3,Value.func (Fn.func 26) #[] #[(dem x3)],dem v5,p,q,r,s,t,u,w,x,y,z,A,B,C,D,E,F,G,H,I,J,K,L,M,N,P,Q,R,U,V,W,X,Y,Z,a0],S4)) ()) ()) ()) ()):=by
 kernel_rfl
theorem zB.r6 :jg zi ⟨true,false,false⟩ (yH O.hp true (zS zi O)) (reg Try.f12 6) (reg Try.f12 6).toList ([b,x1,x2,x3,x4,x5,x6,x7,x8,x9,c,d,f,g,i,j,k,l,m,n,o,p,q,r,s,t,u,w,x,y,z,A,B,C,D,E,F,G,H,I,J,K,L,M,N,P,Q,R,U,V,W,X,Y,Z,a0]) S =
  (zU (wX zi BinOp.lss 3 (dem x5) (.int .i64 0) S) (fun v1 S1=>some ([b,x1,x2,x3,x4,x5,x6,x7,x8,x9,c,d,f,g,i,j,k,l,m,n,o,dem x5,v1,r,s,t,u,w,x,y,z,A,B,C,D,E,F,G,H,I,J,K,L,M,N,P,Q,R,U,V,W,X,Y,Z,a0],S1)) ()):=by
 kernel_rfl
theorem zB.r7 :jg zi ⟨true,false,false⟩ (yH O.hp true (zS zi O)) (reg Try.f12 7) (reg Try.f12 7).toList ([b,x1,x2,x3,x4,x5,x6,x7,x8,x9,c,d,f,g,i,j,k,l,m,n,o,p,q,r,s,t,u,w,x,y,z,A,B,C,D,E,F,G,H,I,J,K,L,M,N,P,Q,R,U,V,W,X,Y,Z,a0]) S =
  (zU (jV (dem b) S) (fun v1 S1=>zU (zN zi 49 v1 0 S1) (fun v2 S2=>zU (jd zi false 23 v2 S2) (fun v3 S3=>zU (vg zi 23 v3 S3) (fun v4 S4=>some ([b,x1,x2,x3,x4,v4,x6,x7,x8,x9,c,d,f,g,i,j,k,l,m,n,o,p,q,dem b,v1,v2,v3,dem v4,x,y,z,A,B,C,D,E,F,G,H,I,J,K,L,M,N,P,Q,R,U,V,W,X,Y,Z,a0],S4)) ()) ()) ()) ()):=by
 kernel_rfl
theorem zB.r8 :jg zi ⟨true,false,false⟩ (yH O.hp true (zS zi O)) (reg Try.f12 8) (reg Try.f12 8).toList ([b,x1,x2,x3,x4,x5,x6,x7,x8,x9,c,d,f,g,i,j,k,l,m,n,o,p,q,r,s,t,u,w,x,y,z,A,B,C,D,E,F,G,H,I,J,K,L,M,N,P,Q,R,U,V,W,X,Y,Z,a0]) S =
  (zU (wX zi BinOp.eql 3 (dem x5) (.int .i64 16) S) (fun v1 S1=>some ([b,x1,x2,x3,x4,x5,x6,x7,x8,x9,c,d,f,g,i,j,k,l,m,n,o,p,q,r,s,t,u,w,dem x5,v1,z,A,B,C,D,E,F,G,H,I,J,K,L,M,N,P,Q,R,U,V,W,X,Y,Z,a0],S1)) ()):=by
 kernel_rfl
theorem zB.r9 :jg zi ⟨true,false,false⟩ (yH O.hp true (zS zi O)) (reg Try.f12 9) (reg Try.f12 9).toList ([b,x1,x2,x3,x4,x5,x6,x7,x8,x9,c,d,f,g,i,j,k,l,m,n,o,p,q,r,s,t,u,w,x,y,z,A,B,C,D,E,F,G,H,I,J,K,L,M,N,P,Q,R,U,V,W,X,Y,Z,a0]) S =
  ( some ([b,x1,x2,x3,.int .i64 91,x5,x6,x7,x8,x9,c,d,f,g,i,j,k,l,m,n,o,p,q,r,s,t,u,w,x,y,z,A,B,C,D,E,F,G,H,I,J,K,L,M,N,P,Q,R,U,V,W,X,Y,Z,a0],S)):=by
 kernel_rfl
theorem zB.d10:qy zi (reg Try.f12 10)=true:=by kernel_rfl
theorem zB.aeT:fixed zi (reg Try.f12 10)=false:=by kernel_rfl
theorem zB.k10:checked zi (reg Try.f12 10)=[0,0,1,2,3,4,5]:=by kernel_rfl
theorem zB.g10:again zi (reg Try.f12 10)=[(4,7)]:=by kernel_rfl
theorem zB.r10 :zD zi O true (.region 10 (reg Try.f12 10) true) ([b,x1,x2,x3,x4,x5,x6,x7,x8,x9,c,d,f,g,i,j,k,l,m,n,o,p,q,r,s,t,u,w,x,y,z,A,B,C,D,E,F,G,H,I,J,K,L,M,N,P,Q,R,U,V,W,X,Y,Z,a0]) S =
  YP (okK b ( okK b ( zU (jV (dem b) S) (fun v2 S1=>okK v2 ( zU (zN zi 49 v2 0 S1) (fun v3 S2=>okK v3 ( zU (jd zi false 23 v3 S2) (fun v4 S3=>okK v4 ( okK x5 ( zU (jd zi false 30 x3 S3) (fun v6 S4=>zU (jo zi 23 1 [(0,(dem v6))] S4) (fun v7 S5=>zU ((zS zi O) 28 [(dem v4),(dem (dem x5)),(dem v7)] S5) (fun v8 S6=>zU (jV (dem b) S6) (fun v9 S7=>zU (zN zi 49 v9 0 S7) (fun a1 S8=>zU (kQ zi 23 a1 (dem v8) S8) (fun a2 S9=>ckK (yA v3 S2 S5 && (true)) (some ([b,x1,x2,x3,x4,x5,x6,x7,x8,x9,c,d,f,g,i,j,k,l,m,n,o,p,q,r,s,t,u,w,x,y,dem b,dem b,v2,v3,v4,dem x5,v6,v7,v8,v9,a1,K,L,M,N,P,Q,R,U,V,W,X,Y,Z,a0],S9)) ()) ()) ()) ()) ()) ()) ()) ()) ()) ()) ()) ()) ()) ()) ()) ()):=by
 rw [xQ zB.d10 zB.aeT zB.k10 zB.g10]
 refine congrArg YP ?_
 refine uPC Try.f12 10 0 (v:=b) (pe:=zh) ?_
 refine uPC Try.f12 10 1 (v:=b) (pe:=zh) ?_
 refine uDC Try.f12 10 2 (pe:=zh) (fun v2 S1=>?_)
 refine uDC Try.f12 10 3 (pe:=zh) (fun v3 S2=>?_)
 refine uDC Try.f12 10 4 (pe:=v3) (fun v4 S3=>?_)
 refine uPC Try.f12 10 5 (v:=x5) (pe:=zh) ?_
 refine uD Try.f12 10 6 (pe:=x3) (fun v6 S4=>?_)
 refine uD Try.f12 10 7 (pe:=zh) (fun v7 S5=>?_)
 refine uD Try.f12 10 8 (pe:=zh) (fun v8 S6=>?_)
 refine uD Try.f12 10 9 (pe:=zh) (fun v9 S7=>?_)
 refine uD Try.f12 10 10 (pe:=zh) (fun a1 S8=>?_)
 refine uD Try.f12 10 11 (pe:=zh) (fun a2 S9=>?_)
 kernel_rfl
theorem zB.d11:qy zi (reg Try.f12 11)=true:=by kernel_rfl
theorem zB.aeV:fixed zi (reg Try.f12 11)=false:=by kernel_rfl
theorem zB.k11:checked zi (reg Try.f12 11)=[]:=by kernel_rfl
theorem zB.g11:again zi (reg Try.f12 11)=[]:=by kernel_rfl
theorem zB.r11 :zD zi O true (.region 11 (reg Try.f12 11) true) ([b,x1,x2,x3,x4,x5,x6,x7,x8,x9,c,d,f,g,i,j,k,l,m,n,o,p,q,r,s,t,u,w,x,y,z,A,B,C,D,E,F,G,H,I,J,K,L,M,N,P,Q,R,U,V,W,X,Y,Z,a0]) S =
  YP (zU (jV (dem b) S) (fun v2 S1=>zU (zN zi 49 v2 0 S1) (fun v3 S2=>zU (jd zi false 23 v3 S2) (fun v4 S3=>zU (jV (dem b) S3) (fun v6 S4=>zU (zN zi 49 v6 0 S4) (fun v7 S5=>zU (jd zi false 23 v7 S5) (fun v8 S6=>zU (vg zi 23 v8 S6) (fun v9 S7=>zU (kV zi true Builtin.min #[3,3] 3 [v9,(.int .i64 16)] S7) (fun a1 S8=>zU (yS zi false 23 v4 none (some a1) S8) (fun a2 S9=>zU (jV (dem b) S9) (fun a3 a5=>zU (zN zi 49 a3 0 a5) (fun a4 a6=>zU (kQ zi 23 a4 (dem a2) a6) (fun a8 a7=>some ([b,x1,x2,x3,x4,x5,x6,x7,x8,x9,c,d,f,g,i,j,k,l,m,n,o,p,q,r,s,t,u,w,x,y,z,A,B,C,D,E,F,G,H,I,J,dem b,dem b,v2,v3,v4,dem b,v6,v7,v8,v9,a1,a2,a3,a4],a7)) ()) ()) ()) ()) ()) ()) ()) ()) ()) ()) ()) ()):=by
 rw [xQ zB.d11 zB.aeV zB.k11 zB.g11]
 refine congrArg YP ?_
 refine tP Try.f12 11 0 (v:=b) ?_
 refine tP Try.f12 11 1 (v:=b) ?_
 refine tD Try.f12 11 2 (fun v2 S1=>?_)
 refine tD Try.f12 11 3 (fun v3 S2=>?_)
 refine tD Try.f12 11 4 (fun v4 S3=>?_)
 refine tP Try.f12 11 5 (v:=b) ?_
 refine tD Try.f12 11 6 (fun v6 S4=>?_)
 refine tD Try.f12 11 7 (fun v7 S5=>?_)
 refine tD Try.f12 11 8 (fun v8 S6=>?_)
 refine tD Try.f12 11 9 (fun v9 S7=>?_)
 refine tD Try.f12 11 10 (fun a1 S8=>?_)
 refine tD Try.f12 11 11 (fun a2 S9=>?_)
 refine tD Try.f12 11 12 (fun a3 a5=>?_)
 refine tD Try.f12 11 13 (fun a4 a6=>?_)
 refine tD Try.f12 11 14 (fun a8 a7=>?_)
 kernel_rfl
theorem zB.r12 :jg zi ⟨true,false,false⟩ (yH O.hp true (zS zi O)) (reg Try.f12 12) (reg Try.f12 12).toList ([b,x1,x2,x3,x4,x5,x6,x7,x8,x9,c,d,f,g,i,j,k,l,m,n,o,p,q,r,s,t,u,w,x,y,z,A,B,C,D,E,F,G,H,I,J,K,L,M,N,P,Q,R,U,V,W,X,Y,Z,a0]) S =
  ( some ([b,x1,x2,x3,.int .i64 0,x5,x6,x7,x8,x9,c,d,f,g,i,j,k,l,m,n,o,p,q,r,s,t,u,w,x,y,z,A,B,C,D,E,F,G,H,I,J,K,L,M,N,P,Q,R,U,V,W,X,Y,Z,a0],S)):=by
 kernel_rfl
theorem zB.rs:type_of% (aeW @zB.r0 (aeW @zB.r1 (aeW @zB.r2 (aeW @zB.r3 (aeW @zB.r4 (aeW @zB.r5 (aeW @zB.r6 (aeW @zB.r7 (aeW @zB.r8 (aeW @zB.r9 (aeW @zB.r10 (aeW @zB.r11 (@zB.r12))))))))))))):=aeW @zB.r0 (aeW @zB.r1 (aeW @zB.r2 (aeW @zB.r3 (aeW @zB.r4 (aeW @zB.r5 (aeW @zB.r6 (aeW @zB.r7 (aeW @zB.r8 (aeW @zB.r9 (aeW @zB.r10 (aeW @zB.r11 (@zB.r12))))))))))))
theorem zB.runs {b x1:Value} {S S1:zx} {e:AEx} {T:List Value} (h:zD zi O true zB.code ([b,x1,zh,zh,zh,zh,zh,zh,zh,zh,zh,zh,zh,zh,zh,zh,zh,zh,zh,zh,zh,zh,zh,zh,zh,zh,zh,zh,zh,zh,zh,zh,zh,zh,zh,zh,zh,zh,zh,zh,zh,zh,zh,zh,zh,zh,zh,zh,zh,zh,zh,zh,zh,zh,zh]) S=some (e,T,S1)) (he:e=.normal∨e=.ret):zS zi O 12 [b,x1] S=some (T.getD 4 zh,S1) :=
 jG rfl rfl Try.func12 (by decide) zB.body (by exact h) he (jD (a:=T.getD 4 zh) ((show zH zi T S1 Try.f12.results.toList=zH zi T S1 [(ResultVar.tmp 4)] from by kernel_rfl).trans (by simp only [zH])) (by kernel_rfl))
end Go.Proofs.Ytacbgjhmkhjpoaa
namespace Go.Proofs.Ytacbgjhmkhjpoaa
open Go.Abs
abbrev zL.id:FuncId:=24
noncomputable def zL.code:Code:=(.seq (.region 0 (reg Try.f24 0) false) (.seq (.region 1 (reg Try.f24 1) false) Code.ret))
theorem zL.body:Try.f24.body=some zL.code:=by kernel_rfl
variable (b c f n i j k l m:Value) (S:zx)
theorem zL.r0 :jg zi ⟨false,false,false⟩ (zS zi O) (reg Try.f24 0) (reg Try.f24 0).toList ([b,c,f,n,i,j,k,l,m]) S =
  (zU (ZH (dem b) S) (fun g d=>some ([b,c,g,Value.bool false,i,j,k,l,m],d)) ()):=by
 kernel_rfl
theorem zL.r1 :jg zi ⟨false,false,false⟩ (zS zi O) (reg Try.f24 1) (reg Try.f24 1).toList ([b,c,f,n,i,j,k,l,m]) S =
  (zU (zN zi 30 f 0 S) (fun g d=>zU (jd zi false 3 g d) (fun o s=>zU (zN zi 30 c 0 s) (fun p t=>zU (jd zi false 3 p t) (fun q u=>zU (wX zi BinOp.eql 3 o q u) (fun r v=>some ([b,c,f,r,g,o,p,q,dem r],v)) ()) ()) ()) ()) ()):=by
 kernel_rfl
theorem zL.rs:type_of% (aeW @zL.r0 (@zL.r1)):=aeW @zL.r0 (@zL.r1)
theorem zL.runs {b c:Value} {S d:zx} {e:AEx} {T:List Value} (h:zD zi O false zL.code ([b,c,zh,zh,zh,zh,zh,zh,zh]) S=some (e,T,d)) (he:e=.normal∨e=.ret):zS zi O 24 [b,c] S=some (T.getD 3 zh,d) :=
 jG rfl rfl Try.func24 (by decide) zL.body (by exact h) he (jD (a:=T.getD 3 zh) ((show zH zi T d Try.f24.results.toList=zH zi T d [(ResultVar.tmp 3)] from by kernel_rfl).trans (by simp only [zH])) (by kernel_rfl))
end Go.Proofs.Ytacbgjhmkhjpoaa
namespace Go.Proofs.Ytacbgjhmkhjpoaa
open Go.Abs
abbrev zK.id:FuncId:=26
noncomputable def zK.code:Code:=(.seq (.region 0 (reg Try.f26 0) false) (.seq (.region 1 (reg Try.f26 1) false) Code.ret))
theorem zK.body:Try.f26.body=some zK.code:=by kernel_rfl
variable (b c f l i j k:Value) (S:zx)
theorem zK.r0 :jg zi ⟨false,false,false⟩ (zS zi O) (reg Try.f26 0) (reg Try.f26 0).toList ([b,c,f,l,i,j,k]) S =
  (zU (ZH (dem b) S) (fun g d=>some ([b,c,g,Value.bool false,i,j,k],d)) ()):=by
 kernel_rfl
theorem zK.r1 :jg zi ⟨false,false,false⟩ (zS zi O) (reg Try.f26 1) (reg Try.f26 1).toList ([b,c,f,l,i,j,k]) S =
  (zU (jd zi false 30 c S) (fun g d=>zU (jd zi false 30 f d) (fun m o=>zU ((zS zi O) 27 [(dem g),(dem m)] o) (fun n p=>some ([b,c,f,n,g,m,dem n],p)) ()) ()) ()):=by
 kernel_rfl
theorem zK.rs:type_of% (aeW @zK.r0 (@zK.r1)):=aeW @zK.r0 (@zK.r1)
theorem zK.runs {b c:Value} {S d:zx} {e:AEx} {T:List Value} (h:zD zi O false zK.code ([b,c,zh,zh,zh,zh,zh]) S=some (e,T,d)) (he:e=.normal∨e=.ret):zS zi O 26 [b,c] S=some (T.getD 3 zh,d) :=
 jG rfl rfl Try.func26 (by decide) zK.body (by exact h) he (jD (a:=T.getD 3 zh) ((show zH zi T d Try.f26.results.toList=zH zi T d [(ResultVar.tmp 3)] from by kernel_rfl).trans (by simp only [zH])) (by kernel_rfl))
end Go.Proofs.Ytacbgjhmkhjpoaa
namespace Go.Proofs.Ytacbgjhmkhjpoaa
open Go.Abs
abbrev slices_ContainsFunc.id:FuncId:=23
noncomputable def slices_ContainsFunc.code:Code:=(.seq (.region 0 (reg Try.f23 0) false) (.seq (.region 1 (reg Try.f23 1) false) Code.ret))
theorem slices_ContainsFunc.body:Try.f23.body=some slices_ContainsFunc.code:=by kernel_rfl
variable (b c f g m i j k l:Value) (S:zx)
theorem slices_ContainsFunc.r0 :jg zi ⟨false,false,false⟩ (zS zi O) (reg Try.f23 0) (reg Try.f23 0).toList ([b,c,f,g,m,i,j,k,l]) S =
  ( some ([b,c,f,g,Value.bool false,i,j,k,l],S)):=by
 kernel_rfl
theorem slices_ContainsFunc.r1 :jg zi ⟨false,false,false⟩ (zS zi O) (reg Try.f23 1) (reg Try.f23 1).toList ([b,c,f,g,m,i,j,k,l]) S =
  (zU ((zS zi O) 25 [(dem (dem b)),(dem (dem c))] S) (fun n d=>zU (wX zi BinOp.geq 3 n (.int .i64 0) d) (fun o p=>some ([b,c,f,g,o,dem b,dem c,n,dem o],p)) ()) ()):=by
 kernel_rfl
theorem slices_ContainsFunc.rs:type_of% (aeW @slices_ContainsFunc.r0 (@slices_ContainsFunc.r1)):=aeW @slices_ContainsFunc.r0 (@slices_ContainsFunc.r1)
theorem slices_ContainsFunc.runs {b c:Value} {S d:zx} {e:AEx} {T:List Value} (h:zD zi O false slices_ContainsFunc.code ([b,c,zh,zh,zh,zh,zh,zh,zh]) S=some (e,T,d)) (he:e=.normal∨e=.ret):zS zi O 23 [b,c] S=some (T.getD 4 zh,d) :=
 jG rfl rfl Try.func23 (by decide) slices_ContainsFunc.body (by exact h) he (jD (a:=T.getD 4 zh) ((show zH zi T d Try.f23.results.toList=zH zi T d [(ResultVar.tmp 4)] from by kernel_rfl).trans (by simp only [zH])) (by kernel_rfl))
end Go.Proofs.Ytacbgjhmkhjpoaa
namespace Go.Proofs.Ytacbgjhmkhjpoaa
open Go.Abs
abbrev zy.id:FuncId:=15
noncomputable def zy.jl:Code:=(.seq (.region 4 (reg Try.f15 4) false) (.seq (.cond (.tmp 14) Code.skip (.exit 0)) (.seq (.block 1 (.seq (.region 5 (reg Try.f15 5) false) (.seq (.region 6 (reg Try.f15 6) true) (.cond (.tmp 24) (.seq (.region 7 (reg Try.f15 7) false) Code.ret) Code.skip)))) (.region 8 (reg Try.f15 8) false))))
noncomputable def zy.code:Code:=(.seq (.region 0 (reg Try.f15 0) false) (.seq (.seq (.region 1 (reg Try.f15 1) false) (.cond (.tmp 10) (.seq (.region 2 (reg Try.f15 2) false) Code.ret) Code.skip)) (.seq (.seq (.region 3 (reg Try.f15 3) false) (.block 0 (.loop zy.jl))) (.seq (.region 9 (reg Try.f15 9) false) Code.ret))))
theorem zy.body:Try.f15.body=some zy.code:=by kernel_rfl
theorem zy.eta {T:List Value} (h:T.length=26):T=[T.getD 0 zh,T.getD 1 zh,T.getD 2 zh,T.getD 3 zh,T.getD 4 zh,T.getD 5 zh,T.getD 6 zh,T.getD 7 zh,T.getD 8 zh,T.getD 9 zh,T.getD 10 zh,T.getD 11 zh,T.getD 12 zh,T.getD 13 zh,T.getD 14 zh,T.getD 15 zh,T.getD 16 zh,T.getD 17 zh,T.getD 18 zh,T.getD 19 zh,T.getD 20 zh,T.getD 21 zh,T.getD 22 zh,T.getD 23 zh,T.getD 24 zh,T.getD 25 zh]:=(qO T 26 h).trans (by kernel_rfl)
variable (d u x y D w z A B C f g c b i j k l m n o p q r s t:Value) (S:zx)
theorem zy.r0 :jg zi ⟨false,false,false⟩ (zS zi O) (reg Try.f15 0) (reg Try.f15 0).toList ([d,u,x,y,D,w,z,A,B,C,f,g,c,b,i,j,k,l,m,n,o,p,q,r,s,t]) S =
  ( some ([d,u,x,y,Value.bool false,w,z,A,B,C,f,g,c,b,i,j,k,l,m,n,o,p,q,r,s,t],S)):=by
 kernel_rfl
theorem zy.r1 :jg zi ⟨false,false,false⟩ (zS zi O) (reg Try.f15 1) (reg Try.f15 1).toList ([d,u,x,y,D,w,z,A,B,C,f,g,c,b,i,j,k,l,m,n,o,p,q,r,s,t]) S =
  (zU (vg zi 23 (dem d) S) (fun G E=>zU (vg zi 23 (dem u) E) (fun F H=>zU (wX zi BinOp.neq 3 G F H) (fun R I=>some ([d,u,x,y,D,w,dem d,G,dem u,F,R,g,c,b,i,j,k,l,m,n,o,p,q,r,s,t],I)) ()) ()) ()):=by
 kernel_rfl
theorem zy.r2 :jg zi ⟨false,false,false⟩ (zS zi O) (reg Try.f15 2) (reg Try.f15 2).toList ([d,u,x,y,D,w,z,A,B,C,f,g,c,b,i,j,k,l,m,n,o,p,q,r,s,t]) S =
  ( some ([d,u,x,y,Value.bool false,w,z,A,B,C,f,g,c,b,i,j,k,l,m,n,o,p,q,r,s,t],S)):=by
 kernel_rfl
theorem zy.r3 :jg zi ⟨false,false,false⟩ (zS zi O) (reg Try.f15 3) (reg Try.f15 3).toList ([d,u,x,y,D,w,z,A,B,C,f,g,c,b,i,j,k,l,m,n,o,p,q,r,s,t]) S =
  (zU (vg zi 23 (dem d) S) (fun G E=>some ([d,u,x,y,D,w,z,A,B,C,f,dem d,G,.int .i64 0,i,j,k,l,m,n,o,p,q,r,s,t],E)) ()):=by
 kernel_rfl
theorem zy.r4 :jg zi ⟨false,false,false⟩ (zS zi O) (reg Try.f15 4) (reg Try.f15 4).toList ([d,u,x,y,D,w,z,A,B,C,f,g,c,b,i,j,k,l,m,n,o,p,q,r,s,t]) S =
  (zU (wX zi BinOp.lss 3 b c S) (fun J E=>some ([d,u,x,y,D,w,z,A,B,C,f,g,c,b,J,j,k,l,m,n,o,p,q,r,s,t],E)) ()):=by
 kernel_rfl
theorem zy.r5 :jg zi ⟨false,false,false⟩ (zS zi O) (reg Try.f15 5) (reg Try.f15 5).toList ([d,u,x,y,D,w,z,A,B,C,f,g,c,b,i,j,k,l,m,n,o,p,q,r,s,t]) S =
  ( some ([d,u,x,y,D,b,z,A,B,C,f,g,c,dem b,i,dem b,k,l,m,n,o,p,q,r,s,t],S)):=by
 kernel_rfl
theorem zy.d6:qy zi (reg Try.f15 6)=true:=by kernel_rfl
theorem zy.ff6:fixed zi (reg Try.f15 6)=false:=by kernel_rfl
theorem zy.k6:checked zi (reg Try.f15 6)=[]:=by kernel_rfl
theorem zy.g6:again zi (reg Try.f15 6)=[]:=by kernel_rfl
theorem zy.r6 :zD zi O false (.region 6 (reg Try.f15 6) true) ([d,u,x,y,D,w,z,A,B,C,f,g,c,b,i,j,k,l,m,n,o,p,q,r,s,t]) S =
  YP (zU (zZ zi 23 (dem d) (dem w) S) (fun K E=>zU (jd zi false 30 K E) (fun F H=>zU (zZ zi 23 (dem u) (dem w) H) (fun L I=>zU (jd zi false 30 L I) (fun M N=>zU (wX zi BinOp.neq 30 F M N) (fun P Q=>some ([d,u,x,y,D,w,z,A,B,C,f,g,c,b,i,j,dem d,dem w,K,F,dem u,dem w,L,M,P,t],Q)) ()) ()) ()) ()) ()):=by
 rw [kP zy.d6 zy.ff6 zy.k6 zy.g6]
 refine congrArg YP ?_
 refine tP Try.f15 6 0 (v:=d) ?_
 refine tP Try.f15 6 1 (v:=w) ?_
 refine tD Try.f15 6 2 (fun K E=>?_)
 refine tD Try.f15 6 3 (fun F H=>?_)
 refine tP Try.f15 6 4 (v:=u) ?_
 refine tP Try.f15 6 5 (v:=w) ?_
 refine tD Try.f15 6 6 (fun L I=>?_)
 refine tD Try.f15 6 7 (fun M N=>?_)
 refine tD Try.f15 6 8 (fun P Q=>?_)
 kernel_rfl
theorem zy.r7 :jg zi ⟨false,false,false⟩ (zS zi O) (reg Try.f15 7) (reg Try.f15 7).toList ([d,u,x,y,D,w,z,A,B,C,f,g,c,b,i,j,k,l,m,n,o,p,q,r,s,t]) S =
  ( some ([d,u,x,y,Value.bool false,w,z,A,B,C,f,g,c,b,i,j,k,l,m,n,o,p,q,r,s,t],S)):=by
 kernel_rfl
theorem zy.r8 :jg zi ⟨false,false,false⟩ (zS zi O) (reg Try.f15 8) (reg Try.f15 8).toList ([d,u,x,y,D,w,z,A,B,C,f,g,c,b,i,j,k,l,m,n,o,p,q,r,s,t]) S =
  (zU (wX zi BinOp.add 3 b (.int .i64 1) S) (fun J E=>some ([d,u,x,y,D,w,z,A,B,C,f,g,c,dem J,i,j,k,l,m,n,o,p,q,r,s,J],E)) ()):=by
 kernel_rfl
theorem zy.r9 :jg zi ⟨false,false,false⟩ (zS zi O) (reg Try.f15 9) (reg Try.f15 9).toList ([d,u,x,y,D,w,z,A,B,C,f,g,c,b,i,j,k,l,m,n,o,p,q,r,s,t]) S =
  ( some ([d,u,x,y,Value.bool true,w,z,A,B,C,f,g,c,b,i,j,k,l,m,n,o,p,q,r,s,t],S)):=by
 kernel_rfl
theorem zy.rs:type_of% (aeW @zy.r0 (aeW @zy.r1 (aeW @zy.r2 (aeW @zy.r3 (aeW @zy.r4 (aeW @zy.r5 (aeW @zy.r6 (aeW @zy.r7 (aeW @zy.r8 (@zy.r9)))))))))):=aeW @zy.r0 (aeW @zy.r1 (aeW @zy.r2 (aeW @zy.r3 (aeW @zy.r4 (aeW @zy.r5 (aeW @zy.r6 (aeW @zy.r7 (aeW @zy.r8 (@zy.r9)))))))))
theorem zy.runs {d u:Value} {S E:zx} {e:AEx} {T:List Value} (h:zD zi O false zy.code ([d,u,zh,zh,zh,zh,zh,zh,zh,zh,zh,zh,zh,zh,zh,zh,zh,zh,zh,zh,zh,zh,zh,zh,zh,zh]) S=some (e,T,E)) (he:e=.normal∨e=.ret):zS zi O 15 [d,u] S=some (T.getD 4 zh,E) :=
 jG rfl rfl Try.func15 (by decide) zy.body (by exact h) he (jD (a:=T.getD 4 zh) ((show zH zi T E Try.f15.results.toList=zH zi T E [(ResultVar.tmp 4)] from by kernel_rfl).trans (by simp only [zH])) (by kernel_rfl))
end Go.Proofs.Ytacbgjhmkhjpoaa
namespace Go.Proofs.Ytacbgjhmkhjpoaa
open Go.Abs
abbrev slices_IndexFunc.id:FuncId:=25
noncomputable def slices_IndexFunc.jl:Code:=(.seq (.region 2 (reg Try.f25 2) false) (.seq (.cond (.tmp 9) Code.skip (.exit 0)) (.seq (.block 1 (.seq (.region 3 (reg Try.f25 3) false) (.seq (.region 4 (reg Try.f25 4) false) (.cond (.tmp 16) (.seq (.region 5 (reg Try.f25 5) false) Code.ret) Code.skip)))) (.region 6 (reg Try.f25 6) false))))
noncomputable def slices_IndexFunc.code:Code:=(.seq (.region 0 (reg Try.f25 0) false) (.seq (.seq (.region 1 (reg Try.f25 1) false) (.block 0 (.loop slices_IndexFunc.jl))) (.seq (.region 7 (reg Try.f25 7) false) Code.ret)))
theorem slices_IndexFunc.body:Try.f25.body=some slices_IndexFunc.code:=by kernel_rfl
theorem slices_IndexFunc.eta {T:List Value} (h:T.length=19):T=[T.getD 0 zh,T.getD 1 zh,T.getD 2 zh,T.getD 3 zh,T.getD 4 zh,T.getD 5 zh,T.getD 6 zh,T.getD 7 zh,T.getD 8 zh,T.getD 9 zh,T.getD 10 zh,T.getD 11 zh,T.getD 12 zh,T.getD 13 zh,T.getD 14 zh,T.getD 15 zh,T.getD 16 zh,T.getD 17 zh,T.getD 18 zh]:=(qO T 19 h).trans (by kernel_rfl)
variable (b n q r v o t s p u c d f g i j k l m:Value) (S:zx)
theorem slices_IndexFunc.r0 :jg zi ⟨false,false,false⟩ (zS zi O) (reg Try.f25 0) (reg Try.f25 0).toList ([b,n,q,r,v,o,t,s,p,u,c,d,f,g,i,j,k,l,m]) S =
  ( some ([b,n,q,r,.int .i64 0,o,t,s,p,u,c,d,f,g,i,j,k,l,m],S)):=by
 kernel_rfl
theorem slices_IndexFunc.r1 :jg zi ⟨false,false,false⟩ (zS zi O) (reg Try.f25 1) (reg Try.f25 1).toList ([b,n,q,r,v,o,t,s,p,u,c,d,f,g,i,j,k,l,m]) S =
  (zU (vg zi 23 (dem b) S) (fun A w=>some ([b,n,q,r,v,o,dem b,A,.int .i64 0,u,c,d,f,g,i,j,k,l,m],w)) ()):=by
 kernel_rfl
theorem slices_IndexFunc.r2 :jg zi ⟨false,false,false⟩ (zS zi O) (reg Try.f25 2) (reg Try.f25 2).toList ([b,n,q,r,v,o,t,s,p,u,c,d,f,g,i,j,k,l,m]) S =
  (zU (wX zi BinOp.lss 3 p s S) (fun x w=>some ([b,n,q,r,v,o,t,s,p,x,c,d,f,g,i,j,k,l,m],w)) ()):=by
 kernel_rfl
theorem slices_IndexFunc.r3 :jg zi ⟨false,false,false⟩ (zS zi O) (reg Try.f25 3) (reg Try.f25 3).toList ([b,n,q,r,v,o,t,s,p,u,c,d,f,g,i,j,k,l,m]) S =
  ( some ([b,n,q,r,v,p,t,s,dem p,u,dem p,d,f,g,i,j,k,l,m],S)):=by
 kernel_rfl
theorem slices_IndexFunc.r4 :jg zi ⟨false,false,false⟩ (zS zi O) (reg Try.f25 4) (reg Try.f25 4).toList ([b,n,q,r,v,o,t,s,p,u,c,d,f,g,i,j,k,l,m]) S =
  (zU (zZ zi 23 (dem b) (dem o) S) (fun y w=>zU (jd zi false 30 y w) (fun z B=>zU (aeQ (zS zi O) (dem n) [(dem z)] B) (fun C D=>some ([b,n,q,r,v,o,t,s,p,u,c,dem n,dem b,dem o,y,z,C,l,m],D)) ()) ()) ()):=by
 kernel_rfl
theorem slices_IndexFunc.r5 :jg zi ⟨false,false,false⟩ (zS zi O) (reg Try.f25 5) (reg Try.f25 5).toList ([b,n,q,r,v,o,t,s,p,u,c,d,f,g,i,j,k,l,m]) S =
  ( some ([b,n,q,r,o,dem o,t,s,p,u,c,d,f,g,i,j,k,dem o,m],S)):=by
 kernel_rfl
theorem slices_IndexFunc.r6 :jg zi ⟨false,false,false⟩ (zS zi O) (reg Try.f25 6) (reg Try.f25 6).toList ([b,n,q,r,v,o,t,s,p,u,c,d,f,g,i,j,k,l,m]) S =
  (zU (wX zi BinOp.add 3 p (.int .i64 1) S) (fun x w=>some ([b,n,q,r,v,o,t,s,dem x,u,c,d,f,g,i,j,k,l,x],w)) ()):=by
 kernel_rfl
theorem slices_IndexFunc.r7 :jg zi ⟨false,false,false⟩ (zS zi O) (reg Try.f25 7) (reg Try.f25 7).toList ([b,n,q,r,v,o,t,s,p,u,c,d,f,g,i,j,k,l,m]) S =
  ( some ([b,n,q,r,.int .i64 (-1),o,t,s,p,u,c,d,f,g,i,j,k,l,m],S)):=by
 kernel_rfl
theorem slices_IndexFunc.rs:type_of% (aeW @slices_IndexFunc.r0 (aeW @slices_IndexFunc.r1 (aeW @slices_IndexFunc.r2 (aeW @slices_IndexFunc.r3 (aeW @slices_IndexFunc.r4 (aeW @slices_IndexFunc.r5 (aeW @slices_IndexFunc.r6 (@slices_IndexFunc.r7)))))))):=aeW @slices_IndexFunc.r0 (aeW @slices_IndexFunc.r1 (aeW @slices_IndexFunc.r2 (aeW @slices_IndexFunc.r3 (aeW @slices_IndexFunc.r4 (aeW @slices_IndexFunc.r5 (aeW @slices_IndexFunc.r6 (@slices_IndexFunc.r7)))))))
theorem slices_IndexFunc.runs {b n:Value} {S w:zx} {e:AEx} {T:List Value} (h:zD zi O false slices_IndexFunc.code ([b,n,zh,zh,zh,zh,zh,zh,zh,zh,zh,zh,zh,zh,zh,zh,zh,zh,zh]) S=some (e,T,w)) (he:e=.normal∨e=.ret):zS zi O 25 [b,n] S=some (T.getD 4 zh,w) :=
 jG rfl rfl Try.func25 (by decide) slices_IndexFunc.body (by exact h) he (jD (a:=T.getD 4 zh) ((show zH zi T w Try.f25.results.toList=zH zi T w [(ResultVar.tmp 4)] from by kernel_rfl).trans (by simp only [zH])) (by kernel_rfl))
end Go.Proofs.Ytacbgjhmkhjpoaa
namespace Go.Abs
open Go.RowKit
theorem aec {b:Nat} {e:Ty} {α:Type} (f:α→List Value) (Q:α→Prop) (h:∀ x,e.Good x→∃ y,e.ZW x=f y∧Q y) (hf:∀ y,(f y).length=e.sz) (x:(Ty.slc b e).Val) (hg:(Ty.slc b e).Good x) :
  ∃ k l,Okl k l∧k≠2∧(Ty.slc b e).ZW x=[vs f e.sz k l]∧l.length * b≤140737488351232∧∀ y ∈ l,Q y:=by
 match x,hg with
 | none,_=>exact ⟨0,[],Okl.none,by decide,rfl,by simp,fun y hy=>by cases hy⟩
 | some xs,hg =>
  obtain ⟨h1,h2,h3⟩:=hg
  have key:∀ xs:List e.Val,(∀ n ∈ xs,e.Good n)→∃ l:List α,xs.flatMap e.ZW=l.flatMap f∧l.length=xs.length∧∀ y ∈ l,Q y:=by
   intro xs
   induction xs with
   | nil=>intro _;exact ⟨[],rfl,rfl,fun y hy=>by cases hy⟩
   | cons n xs ih =>
    intro hn
    obtain ⟨y,hy,hq⟩:=h n (hn n (by simp))
    obtain ⟨l,k1,k2,k3⟩:=ih (fun m hm=>hn m (by simp [hm]))
    refine ⟨y::l,by rw [List.flatMap_cons,List.flatMap_cons,hy,k1],by simp [k2],fun z hz=>?_⟩
    rcases List.mem_cons.1 hz with rfl | hz
    ·
     exact hq
    ·
     exact k3 z hz
  obtain ⟨l,k1,k2,k3⟩:=key xs h3
  refine ⟨1,l,Okl.read,by decide,?_,by rw [k2];exact h1,k3⟩
  show [SL 1 e.sz (List.length xs) (List.flatMap e.ZW xs)]=[_]
  unfold vs
  rw [sv1,k1,k2]
theorem XI {cs xs:List Value} (h:cs.length=xs.length):splice cs 0 xs=xs:=by
 unfold splice
 rw [List.take_zero,List.nil_append,Nat.zero_add,← h,List.drop_length,List.append_nil]
theorem VA {P:Program} {t:TypeId} {z xs:List Value} {x:Value} (S:zx) (hx:x.cells.toList=xs) (hs:qc P t=some z.length) (hl:xs.length=z.length) (h1:xs.all (·.oneCell')=true) :
  ∃ S2,kQ P t (.pointer (some ⟨S.next,0,none⟩)) x (S.push (.cells z (.own []) 0))=some (zh,S2)∧S2.get S.next=some (.cells xs (.own []) 0)∧Ext S S2∧S.next < S2.next:=by
 have hg:(S.push (.cells z (.own []) 0)).get S.next=some (.cells z (.own []) 0):=by rw [zx.zQ,if_pos rfl]
 refine ⟨_,vJ hg hs (by rw [← Array.length_toList,hx,hl]) (by rw [hx];exact h1) (by simp),?_,(Ext.push S _).set (Nat.le_refl _) _,by simp [zx.kills]⟩
 rw [zx.je,if_pos rfl,hx,XI hl.symm]
theorem ab5 (x:Value) (S:zx):∃ S2,ZH x S=some (.pointer (some ⟨S.next,0,none⟩),S2)∧S2.get S.next=some (.cells x.cells.toList (.own []) 0)∧Ext S S2∧S.next < S2.next :=
 ⟨_,rfl,by rw [zx.zQ,if_pos rfl],Ext.push _ _,by simp⟩
end Go.Abs
namespace Go.Abs
open Go.RowKit
abbrev ms (q n:Nat):Value:=.slice (some ⟨q,0,none⟩) n n
theorem aeb {P:Program} {O:Ora} {g:FuncId} {args:List Value} {S:zx} {r:Option (Value×zx)} (h:zS P O g args S=r) (ha:args.all (fun x=>!Yh x)=true):Jt (zS P O) g args S=r:=(aa4 ha).trans h
theorem VJ {α:Type} {f:α→List Value} {e q:Nat} {l:List α} {rest:List Value} {anc:List Nat} {S:zx} (hf:∀ x,(f x).length=e) (hg:S.get q=some (.cells (l.flatMap f++rest) (.own anc) e)) :
  kJ (ms q l.length) S=some (vs f e 1 l,S.set q .dead):=by
 have hl:=jB hf l
 have e0:kJ (ms q l.length) S=qG (ms q l.length) S:=rfl
 rw [e0,Xj hg (by rw [List.length_append,hl];omega),List.drop_zero,← hl,List.take_left]
 rfl
theorem Vw {x y:Value} {args:List Value} {S S1:zx} (h:kJ x S=some (y,S1)) (ha:args.all (fun x=>!Yh x)=true):yK (x::args) S=some (y::args,S1):=by
 simp only [yK,h,xM ha]
section
variable {P:Program} {O:Ora} {α:Type} {f:α→List Value} {e q:Nat} {l:List α} {rest:List Value} {anc:List Nat} {S:zx}
end
end Go.Abs
namespace Go.Abs
open Go.RowKit
def Fr (fp:List Nat) (S S1:zx):Prop:=S.next≤S1.next∧∀ p,p < S.next→p ∉ fp→S1.get p=S.get p
theorem Fr.refl (fp:List Nat) (S:zx):Fr fp S S:=⟨Nat.le_refl _,fun _ _ _=>rfl⟩
theorem Fr.ext {fp:List Nat} {S S1:zx} (h:Ext S S1):Fr fp S S1:=⟨h.next,fun p hp _=>h.get p hp⟩
theorem Fr.trans {fp fp2:List Nat} {S S1 S2:zx} (h:Fr fp S S1) (k:Fr fp2 S1 S2) (hs:∀ x ∈ fp2,x ∈ fp∨S.next≤x):Fr fp S S2:=⟨Nat.le_trans h.1 k.1,fun p hp hn=>by
 rw [k.2 p (Nat.lt_of_lt_of_le hp h.1) (fun hx=>(hs p hx).elim hn (fun h=>by omega)),h.2 p hp hn]⟩
theorem Fr.set {fp:List Nat} {S S1:zx} (h:Fr fp S S1) {r:Nat} (hr:r ∈ fp∨S.next≤r) (o:jZ):Fr fp S (S1.set r o):=⟨h.1,fun p hp hn=>by
 rw [zx.je,if_neg (fun e=>by subst e;exact hr.elim hn (fun h=>by omega))];exact h.2 p hp hn⟩
theorem Fr.kills {fp:List Nat} {S S1:zx} (h:Fr fp S S1) {l:List Nat} (hl:∀ x ∈ l,x ∈ fp∨S.next≤x):Fr fp S (S1.kills l):=⟨by rw [zx.qj];exact h.1,fun p hp hn=>by
 rw [zx.wR,if_neg (fun e=>(hl p e).elim hn (fun h=>by omega))];exact h.2 p hp hn⟩
theorem Fr.push {fp:List Nat} {S S1:zx} (h:Fr fp S S1) (o:jZ):Fr fp S (S1.push o):=⟨by simp;have:=h.1;omega,fun p hp hn=>by
 rw [zx.zQ,if_neg (by have:=h.1;omega)];exact h.2 p hp hn⟩
def Many (S:zx) (x:Nat):Prop:=∀ cs own,S.get x≠some (.cells cs own 0)
def kR {α:Type} (f:α→List Value) (e:Nat) (S:zx) (a:Option Addr) (l:List α) (fp:List Nat):Prop :=
 (a=none∧l=[]∧fp=[])∨∃ r anc rest,a=some ⟨r,0,none⟩∧fp=r::anc∧S.get r=some (.cells (l.flatMap f++rest) (.own anc) e)∧∀ x ∈ fp,x < S.next∧Many S x
theorem JF {A B C D:List Value} {o:Nat} (h:o=A.length) (hl:B.length=C.length):splice (A++(B++D)) o C=A++(C++D):=by
 subst h
 unfold splice
 rw [List.take_left,← hl,List.drop_append,List.drop_eq_nil_of_le (by omega),List.nil_append,show A.length+B.length - A.length=B.length by omega,List.drop_left,List.append_assoc]
section
variable {α:Type} {f:α→List Value} {e:Nat} {S S1:zx} {a:Option Addr} {l:List α} {fp:List Nat}
theorem kR.keep (h:kR f e S a l fp) (hn:S.next≤S1.next) (hk:∀ x ∈ fp,S1.get x=S.get x):kR f e S1 a l fp:=by
 rcases h with h | ⟨r,anc,rest,h1,h2,h3,h4⟩
 ·
  exact .inl h
 ·
  refine .inr ⟨r,anc,rest,h1,h2,by rw [hk r (by rw [h2];simp)];exact h3,fun x hx=>⟨Nat.lt_of_lt_of_le (h4 x hx).1 hn,fun cs own=>by rw [hk x hx];exact (h4 x hx).2 cs own⟩⟩
theorem kR.lt (h:kR f e S a l fp):∀ x ∈ fp,x < S.next:=by
 rcases h with ⟨_,_,rfl⟩ | ⟨r,anc,rest,h1,h2,h3,h4⟩
 ·
  intro x hx;cases hx
 ·
  exact fun x hx=>(h4 x hx).1
theorem kR.many (h:kR f e S a l fp):∀ x ∈ fp,Many S x:=by
 rcases h with ⟨_,_,rfl⟩ | ⟨r,anc,rest,h1,h2,h3,h4⟩
 ·
  intro x hx;cases hx
 ·
  exact fun x hx=>(h4 x hx).2
theorem kR.ext (h:kR f e S a l fp) (k:Ext S S1):kR f e S1 a l fp:=h.keep k.next fun x hx=>k.get x (h.lt x hx)
theorem kR.fr {fp2:List Nat} (h:kR f e S a l fp) (k:Fr fp2 S S1) (hd:∀ x ∈ fp,x ∉ fp2):kR f e S1 a l fp:=h.keep k.1 fun x hx=>k.2 x (h.lt x hx) (hd x hx)
theorem kR.acY (h:kR f e S a l fp) {p:Nat} {cs:List Value} {own:Own} (hp:S.get p=some (.cells cs own 0)):p ∉ fp:=fun hx=>h.many p hx cs own hp
theorem kR.take (h:kR f e S a l fp) (n:Nat):kR f e S a (l.take n) fp:=by
 rcases h with ⟨h1,h2,h3⟩ | ⟨r,anc,rest,h1,h2,h3,h4⟩
 ·
  exact .inl ⟨h1,by rw [h2,List.take_nil],h3⟩
 ·
  refine .inr ⟨r,anc,(l.drop n).flatMap f++rest,h1,h2,?_,h4⟩
  rw [h3,← List.append_assoc,← List.flatMap_append,List.take_append_drop]
theorem WL {x r:Nat} {cs:List Value} {own:Own} (he:e≠0) (h:Many S x):Many (S.set r (.cells cs own e)) x:=fun cs' own'=>by
 rw [zx.je]
 split
 ·
  intro hx;simp only [Option.some.injEq,jZ.cells.injEq] at hx;exact he hx.2.2
 ·
  exact h cs' own'
theorem JH {x:Nat} {l:List Nat} (h:Many S x):Many (S.kills l) x:=fun cs' own'=>by
 rw [zx.wR]
 split
 ·
  intro hx;simp at hx
 ·
  exact h cs' own'
theorem VO {x:Nat} {cs:List Value} {own:Own} (he:e≠0) (h:Many S x):Many (S.push (.cells cs own e)) x:=fun cs' own'=>by
 rw [zx.zQ]
 split
 ·
  intro hx;simp only [Option.some.injEq,jZ.cells.injEq] at hx;exact he hx.2.2
 ·
  exact h cs' own'
variable {P:Program} {t te tx:TypeId} {z:Value} {bytes:Nat}
theorem kR.append (u:P.underlying t=some (.slice te)) (us:qc P te=some e) (hz:zeroOf P te=some z) (hzs:z.cells.size=e) (hb:bytesOf P te=some bytes) (hpos:0 < e) (hf:∀ x,(f x).length=e) (h1:∀ x,(f x).all (·.oneCell')=true)
  (hd:kR f e S a l fp) {x:Value} {b:List α} (hsrc:ZP P tx e x S=some (b.length,b.flatMap f)) (hm:(l.length+b.length) * bytes≤140737488355328) (hm2:l.length+b.length≤4611686018427387903) :
  ∃ a' S1 fp',wY P true t tx (.slice a l.length l.length) x S=some (.slice a' (l++b).length (l++b).length,S1)∧kR f e S1 a' (l++b) fp'∧(∀ x ∈ fp',x ∈ fp∨S.next≤x)∧Fr fp S S1:=by
 have hone:∀ l:List α,(l.flatMap f).all (·.oneCell')=true:=by
  intro l
  rw [List.all_flatMap,List.all_eq_true]
  exact fun x _=>h1 x
 have he:e≠0:=by omega
 rcases hd with ⟨rfl,rfl,rfl⟩ | ⟨r,anc,rest,rfl,rfl,k2,k3⟩
 ·
  have e1:=Xq (t:=t) (tx:=tx) (S:=S) u us hz hzs hb hpos hsrc (by simpa using hm) (by simpa using hm2)
  by_cases h0:b.length=0
  ·
   have hb:b=[]:=List.length_eq_zero_iff.1 h0
   subst hb
   exact ⟨none,S,[],e1,.inl ⟨rfl,rfl,rfl⟩,(fun x hx=>by cases hx),Fr.refl _ _⟩
  ·
   rw [if_neg h0,if_neg h0] at e1
   refine ⟨some ⟨S.next,0,none⟩,_,[S.next],e1,.inr ⟨S.next,[],[],rfl,rfl,?_,fun x hx=>?_⟩,(fun x hx=>by simp at hx;omega),(Fr.refl _ _).push _⟩
   ·
    rw [zx.zQ,if_pos rfl,List.append_nil,List.nil_append]
   ·
    simp only [List.mem_singleton] at hx
    subst hx
    refine ⟨by simp,fun cs own=>?_⟩
    rw [zx.zQ,if_pos rfl]
    intro hx;simp only [Option.some.injEq,jZ.cells.injEq] at hx;exact he hx.2.2
 ·
  have hlen:(l.flatMap f).length=l.length * e:=jB hf l
  have htk:((l.flatMap f++rest).drop 0).take (l.length * e)=l.flatMap f:=by rw [List.drop_zero,← hlen,List.take_left]
  have e1:=XR (hp:=true) (t:=t) (tx:=tx) (o:=0) (n:=l.length) (c:=l.length) u us hz hzs hb hpos hsrc k2 (by rw [List.length_append,hlen];omega) hm hm2 (by rw [htk];exact hone l)
  rw [htk,← List.length_append] at e1
  have hnew:∀ {S2:zx} {cs:List Value} {own:Own},Many (S2.push (.cells cs own e)) S2.next:=fun {S2 cs own} cs' own'=>by
   rw [zx.zQ,if_pos rfl]
   intro hx;simp only [Option.some.injEq,jZ.cells.injEq] at hx;exact he hx.2.2
  by_cases h0:0+l.length * e=(l.flatMap f++rest).length
  ·
   rw [if_pos h0] at e1
   refine ⟨some ⟨S.next,0,none⟩,_,_,e1,.inr ⟨S.next,_,[],rfl,rfl,by rw [zx.zQ,zx.qV,if_pos rfl,List.append_nil,List.flatMap_append],fun x hx=>?_⟩,fun x hx=>?_,((Fr.refl _ _).set (.inl (by simp)) _).push _⟩
   ·
    rcases List.mem_cons.1 hx with rfl | hx
    ·
     exact ⟨by simp,hnew (S2:=S.set r (.cells (l.flatMap f++rest) .ro e))⟩
    ·
     have hx:x ∈ r::anc:=by
      split at hx
      ·
       cases hx
      ·
       exact hx
     exact ⟨by have:=(k3 x hx).1;simp;omega,VO he (WL he (k3 x hx).2)⟩
   ·
    rcases List.mem_cons.1 hx with rfl | hx
    ·
     exact .inr (Nat.le_refl _)
    ·
     left
     split at hx
     ·
      cases hx
     ·
      exact hx
  ·
   rw [if_neg h0] at e1
   refine ⟨some ⟨S.next,0,none⟩,_,[S.next],e1,.inr ⟨S.next,[],[],rfl,rfl,by rw [zx.zQ,zx.qV,zx.qj,if_pos rfl,List.append_nil,List.flatMap_append],fun x hx=>?_⟩,fun x hx=>?_,(((Fr.refl _ _).kills (l:=anc) (fun x hx=>.inl (by simp [hx]))).set (.inl (by simp)) _).push _⟩
   ·
    simp only [List.mem_singleton] at hx
    subst hx
    exact ⟨by simp,by have:=hnew (S2:=(S.kills anc).set r .dead) (cs:=l.flatMap f++b.flatMap f) (own:=.own []);rwa [zx.qV,zx.qj] at this⟩
   ·
    simp only [List.mem_singleton] at hx
    exact .inr (by omega)
theorem kR.aei (hf:∀ x,(f x).length=e) {x:α} {pre suf:List α} {rest:List Value}:(((pre++x::suf).flatMap f++rest).drop (0+pre.length * e)).take e=f x:=by
 rw [List.flatMap_append,List.flatMap_cons,List.append_assoc,List.append_assoc,Nat.zero_add,← jB hf pre,List.drop_left,← hf x,List.take_left]
theorem kR.load (g:yQ P te=some true) (us:qc P te=some e) (hf:∀ x,(f x).length=e) (hdm:∀ x,(f x).map qA=f x) {r:Nat} {own:Own} {x:α} {pre suf:List α} {rest:List Value} (hg:S.get r=some (.cells ((pre++x::suf).flatMap f++rest) own e)) :
  jd P false te (.pointer (some ⟨r,0+pre.length * e,none⟩)) S=some (.agg (f x).toArray,S):=by
 have hle:0+pre.length * e+e≤((pre++x::suf).flatMap f++rest).length:=by
  rw [List.length_append,jB hf,List.length_append,List.length_cons,Nat.add_mul,Nat.add_mul];omega
 rw [KE hg g us hle,aei hf]
 simp only [List.map_toArray,hdm]
theorem kR.put (us:qc P te=some e) (hf:∀ x,(f x).length=e) (h1:∀ x,(f x).all (·.oneCell')=true) (he:e≠0) {r:Nat} {anc:List Nat} {x y:α} {pre suf:List α} {rest:List Value} (hg:S.get r=some (.cells ((pre++x::suf).flatMap f++rest) (.own anc) e))
  (hx:∀ k ∈ r::anc,k < S.next∧Many S k) :
  ∃ S1,kQ P te (.pointer (some ⟨r,0+pre.length * e,none⟩)) (.agg (f y).toArray) S=some (zh,S1)∧S1.get r=some (.cells ((pre++y::suf).flatMap f++rest) (.own []) e)∧S1.next=S.next∧Fr (r::anc) S S1∧Many S1 r:=by
 have hle:0+pre.length * e+e≤((pre++x::suf).flatMap f++rest).length:=by
  rw [List.length_append,jB hf,List.length_append,List.length_cons,Nat.add_mul,Nat.add_mul];omega
 have hs:splice ((pre++x::suf).flatMap f++rest) (0+pre.length * e) (f y)=(pre++y::suf).flatMap f++rest:=by
  rw [List.flatMap_append,List.flatMap_cons,List.append_assoc,List.append_assoc,JF (by rw [jB hf,Nat.zero_add]) (by rw [hf,hf]),List.flatMap_append,List.flatMap_cons,List.append_assoc,List.append_assoc]
 have:=vJ (P:=P) (t:=te) (o:=0+pre.length * e) (n:=e) (x:=.agg (f y).toArray) hg us (by rw [vV,List.size_toArray,hf]) (by rw [vV];exact h1 y) hle
 refine ⟨_,this,?_,by simp,((Fr.refl _ _).kills (fun k hk=>.inl (by simp [hk]))).set (.inl (by simp)) _,?_⟩
 ·
  rw [zx.je,if_pos rfl,vV]
  show some (jZ.cells (splice _ _ (f y)) _ _)=_
  rw [hs]
 ·
  refine WL he (JH (hx r (by simp)).2)
theorem kR.clear (u:P.underlying t=some (.slice te)) (us:qc P te=some e) (hz:zeroOf P te=some z) (hgz:ground z=true) (hzs:z.cells.size=e) (hz1:z.cells.toList.all (·.oneCell')=true) (hpos:0 < e) (hf:∀ x,(f x).length=e)
  {r:Nat} {anc:List Nat} {pre suf:List α} {rest:List Value} (hg:S.get r=some (.cells ((pre++suf).flatMap f++rest) (.own anc) e)) (hn:suf.length≠0) (hx:∀ k ∈ r::anc,k < S.next∧Many S k) (c:Nat) :
  ∃ S1 rest1,YI P t (.slice (some ⟨r,0+pre.length * e,none⟩) suf.length c) S=some (zh,S1)∧S1.get r=some (.cells (pre.flatMap f++rest1) (.own []) e)∧S1.next=S.next∧Fr (r::anc) S S1∧Many S1 r:=by
 have hel:wJ P t=some te:=by simp only [wJ,u]
 have hle:0+pre.length * e+suf.length * e≤((pre++suf).flatMap f++rest).length:=by
  rw [List.length_append,jB hf,List.length_append,Nat.add_mul];omega
 have hs:splice ((pre++suf).flatMap f++rest) (0+pre.length * e) (zl z.cells.toList suf.length)=pre.flatMap f++(zl z.cells.toList suf.length++rest):=by
  rw [List.flatMap_append,List.append_assoc,JF (by rw [jB hf,Nat.zero_add]) (by rw [Vg,jB hf,show z.cells.toList.length=e from hzs])]
 refine ⟨(S.kills anc).set r (.cells (splice ((pre++suf).flatMap f++rest) (0+pre.length * e) (zl z.cells.toList suf.length)) (.own []) e),zl z.cells.toList suf.length++rest,?_,by rw [zx.je,if_pos rfl,hs],by simp,((Fr.refl _ _).kills (fun k hk=>.inl (by simp [hk]))).set (.inl (by simp)) _,WL (by omega) (JH (hx r (by simp)).2)⟩
 simp only [YI,qM,hel,us,hz,hg]
 rw [if_neg hn,if_pos hgz,if_pos hzs,if_pos hz1,if_pos hpos,if_pos hle]
end
end Go.Abs
namespace Go.Proofs.Ytacbgjhmkhjpoaa
open Go.Abs
abbrev slices_Index.id:FuncId:=36
noncomputable def slices_Index.jl:Code:=(.seq (.region 2 (reg Try.f36 2) false) (.seq (.cond (.tmp 9) Code.skip (.exit 0)) (.seq (.block 1 (.seq (.region 3 (reg Try.f36 3) false) (.seq (.region 4 (reg Try.f36 4) false) (.cond (.tmp 16) (.seq (.region 5 (reg Try.f36 5) false) Code.ret) Code.skip)))) (.region 6 (reg Try.f36 6) false))))
noncomputable def slices_Index.code:Code:=(.seq (.region 0 (reg Try.f36 0) false) (.seq (.seq (.region 1 (reg Try.f36 1) false) (.block 0 (.loop slices_Index.jl))) (.seq (.region 7 (reg Try.f36 7) false) Code.ret)))
theorem slices_Index.body:Try.f36.body=some slices_Index.code:=by kernel_rfl
theorem slices_Index.eta {T:List Value} (h:T.length=19):T=[T.getD 0 zh,T.getD 1 zh,T.getD 2 zh,T.getD 3 zh,T.getD 4 zh,T.getD 5 zh,T.getD 6 zh,T.getD 7 zh,T.getD 8 zh,T.getD 9 zh,T.getD 10 zh,T.getD 11 zh,T.getD 12 zh,T.getD 13 zh,T.getD 14 zh,T.getD 15 zh,T.getD 16 zh,T.getD 17 zh,T.getD 18 zh]:=(qO T 19 h).trans (by kernel_rfl)
variable (b n q r v o t s p u c d f g i j k l m:Value) (S:zx)
theorem slices_Index.r0 :jg zi ⟨false,false,false⟩ (zS zi O) (reg Try.f36 0) (reg Try.f36 0).toList ([b,n,q,r,v,o,t,s,p,u,c,d,f,g,i,j,k,l,m]) S =
  ( some ([b,n,q,r,.int .i64 0,o,t,s,p,u,c,d,f,g,i,j,k,l,m],S)):=by
 kernel_rfl
theorem slices_Index.r1 :jg zi ⟨false,false,false⟩ (zS zi O) (reg Try.f36 1) (reg Try.f36 1).toList ([b,n,q,r,v,o,t,s,p,u,c,d,f,g,i,j,k,l,m]) S =
  (zU (vg zi 38 (dem b) S) (fun A w=>some ([b,n,q,r,v,o,dem b,A,.int .i64 0,u,c,d,f,g,i,j,k,l,m],w)) ()):=by
 kernel_rfl
theorem slices_Index.r2 :jg zi ⟨false,false,false⟩ (zS zi O) (reg Try.f36 2) (reg Try.f36 2).toList ([b,n,q,r,v,o,t,s,p,u,c,d,f,g,i,j,k,l,m]) S =
  (zU (wX zi BinOp.lss 3 p s S) (fun x w=>some ([b,n,q,r,v,o,t,s,p,x,c,d,f,g,i,j,k,l,m],w)) ()):=by
 kernel_rfl
theorem slices_Index.r3 :jg zi ⟨false,false,false⟩ (zS zi O) (reg Try.f36 3) (reg Try.f36 3).toList ([b,n,q,r,v,o,t,s,p,u,c,d,f,g,i,j,k,l,m]) S =
  ( some ([b,n,q,r,v,p,t,s,dem p,u,dem p,d,f,g,i,j,k,l,m],S)):=by
 kernel_rfl
theorem slices_Index.r4 :jg zi ⟨false,false,false⟩ (zS zi O) (reg Try.f36 4) (reg Try.f36 4).toList ([b,n,q,r,v,o,t,s,p,u,c,d,f,g,i,j,k,l,m]) S =
  (zU (zZ zi 38 (dem b) (dem o) S) (fun y w=>zU (jd zi false 3 y w) (fun z B=>zU (wX zi BinOp.eql 3 (dem n) z B) (fun C D=>some ([b,n,q,r,v,o,t,s,p,u,c,dem n,dem b,dem o,y,z,C,l,m],D)) ()) ()) ()):=by
 kernel_rfl
theorem slices_Index.r5 :jg zi ⟨false,false,false⟩ (zS zi O) (reg Try.f36 5) (reg Try.f36 5).toList ([b,n,q,r,v,o,t,s,p,u,c,d,f,g,i,j,k,l,m]) S =
  ( some ([b,n,q,r,o,dem o,t,s,p,u,c,d,f,g,i,j,k,dem o,m],S)):=by
 kernel_rfl
theorem slices_Index.r6 :jg zi ⟨false,false,false⟩ (zS zi O) (reg Try.f36 6) (reg Try.f36 6).toList ([b,n,q,r,v,o,t,s,p,u,c,d,f,g,i,j,k,l,m]) S =
  (zU (wX zi BinOp.add 3 p (.int .i64 1) S) (fun x w=>some ([b,n,q,r,v,o,t,s,dem x,u,c,d,f,g,i,j,k,l,x],w)) ()):=by
 kernel_rfl
theorem slices_Index.r7 :jg zi ⟨false,false,false⟩ (zS zi O) (reg Try.f36 7) (reg Try.f36 7).toList ([b,n,q,r,v,o,t,s,p,u,c,d,f,g,i,j,k,l,m]) S =
  ( some ([b,n,q,r,.int .i64 (-1),o,t,s,p,u,c,d,f,g,i,j,k,l,m],S)):=by
 kernel_rfl
theorem slices_Index.rs:type_of% (aeW @slices_Index.r0 (aeW @slices_Index.r1 (aeW @slices_Index.r2 (aeW @slices_Index.r3 (aeW @slices_Index.r4 (aeW @slices_Index.r5 (aeW @slices_Index.r6 (@slices_Index.r7)))))))):=aeW @slices_Index.r0 (aeW @slices_Index.r1 (aeW @slices_Index.r2 (aeW @slices_Index.r3 (aeW @slices_Index.r4 (aeW @slices_Index.r5 (aeW @slices_Index.r6 (@slices_Index.r7)))))))
theorem slices_Index.runs {b n:Value} {S w:zx} {e:AEx} {T:List Value} (h:zD zi O false slices_Index.code ([b,n,zh,zh,zh,zh,zh,zh,zh,zh,zh,zh,zh,zh,zh,zh,zh,zh,zh]) S=some (e,T,w)) (he:e=.normal∨e=.ret):zS zi O 36 [b,n] S=some (T.getD 4 zh,w) :=
 jG rfl rfl Try.func36 (by decide) slices_Index.body (by exact h) he (jD (a:=T.getD 4 zh) ((show zH zi T w Try.f36.results.toList=zH zi T w [(ResultVar.tmp 4)] from by kernel_rfl).trans (by simp only [zH])) (by kernel_rfl))
end Go.Proofs.Ytacbgjhmkhjpoaa
namespace Go.Proofs.Ytacbgjhmkhjpoaa
open Go.Abs
abbrev slices_Contains.id:FuncId:=29
noncomputable def slices_Contains.code:Code:=(.seq (.region 0 (reg Try.f29 0) false) (.seq (.region 1 (reg Try.f29 1) false) Code.ret))
theorem slices_Contains.body:Try.f29.body=some slices_Contains.code:=by kernel_rfl
variable (b c f g m i j k l:Value) (S:zx)
theorem slices_Contains.r0 :jg zi ⟨false,false,false⟩ (zS zi O) (reg Try.f29 0) (reg Try.f29 0).toList ([b,c,f,g,m,i,j,k,l]) S =
  ( some ([b,c,f,g,Value.bool false,i,j,k,l],S)):=by
 kernel_rfl
theorem slices_Contains.r1 :jg zi ⟨false,false,false⟩ (zS zi O) (reg Try.f29 1) (reg Try.f29 1).toList ([b,c,f,g,m,i,j,k,l]) S =
  (zU ((zS zi O) 36 [(dem (dem b)),(dem (dem c))] S) (fun n d=>zU (wX zi BinOp.geq 3 n (.int .i64 0) d) (fun o p=>some ([b,c,f,g,o,dem b,dem c,n,dem o],p)) ()) ()):=by
 kernel_rfl
theorem slices_Contains.rs:type_of% (aeW @slices_Contains.r0 (@slices_Contains.r1)):=aeW @slices_Contains.r0 (@slices_Contains.r1)
theorem slices_Contains.runs {b c:Value} {S d:zx} {e:AEx} {T:List Value} (h:zD zi O false slices_Contains.code ([b,c,zh,zh,zh,zh,zh,zh,zh]) S=some (e,T,d)) (he:e=.normal∨e=.ret):zS zi O 29 [b,c] S=some (T.getD 4 zh,d) :=
 jG rfl rfl Try.func29 (by decide) slices_Contains.body (by exact h) he (jD (a:=T.getD 4 zh) ((show zH zi T d Try.f29.results.toList=zH zi T d [(ResultVar.tmp 4)] from by kernel_rfl).trans (by simp only [zH])) (by kernel_rfl))
end Go.Proofs.Ytacbgjhmkhjpoaa
namespace Go.Proofs.Ytacbgjhmkhjpoaa
open Go.Abs
def idxFrom {α:Type} (p:α→Bool):Int→List α→Int
 | _,[]=>-1
 | i,x::r=>if p x then i else idxFrom p (i+1) r
theorem ZL {α:Type} {p:α→Bool}:∀ {l:List α} {i:Int},l.any p=false→idxFrom p i l=-1
 | [],_,_=>rfl
 | x::r,i,h=>by
  rw [List.any_cons,Bool.or_eq_false_iff] at h
  rw [idxFrom,h.1]
  exact ZL h.2
theorem Kr {α:Type} {p:α→Bool}:∀ {l:List α} {i:Int},l.any p=true→i≤idxFrom p i l
 | [],_,h=>by cases h
 | x::r,i,h=>by
  rw [idxFrom]
  split
  ·
   omega
  ·
   rename_i hx
   rw [List.any_cons,Bool.or_eq_true] at h
   have:=Kr (i:=i+1) (h.resolve_left hx)
   omega
theorem acU {α:Type} {p:α→Bool} {l:List α}:decide (0≤idxFrom p 0 l)=l.any p:=by
 cases h:l.any p with
 | false=>rw [ZL h];decide
 | true=>rw [decide_eq_true_eq];exact Kr h
section
variable {k:Nat} {l:List Int}
theorem slices_Index.round (hv:Okl k l) (hk:k≠2) (hlen:l.length≤17592186044416) {v:Int} {S:zx}:∀ (suf pre:List Int) {T:List Value} {r:St},yG (zD zi O false slices_Index.jl) T S=r→T.length=19 →
  T.getD 0 zh=iz k l→T.getD 1 zh=.int .i64 v→T.getD 7 zh=.int .i64 l.length→T.getD 8 zh=.int .i64 pre.length→l=pre++suf →
  ∃ e T',r=some (e,T',S)∧if suf.any (fun x=>decide (v=x)) then e=.ret∧T'.getD 4 zh=.int .i64 (idxFrom (fun x=>decide (v=x)) pre.length suf) else e=.exit 0∧T'.length=19:=by
 intro suf
 induction suf with
 | nil =>
  intro pre T r hL hT h0 h1 h7 h8 hl
  have hTe:=slices_Index.eta hT
  rw [h0,h1,h7,h8] at hTe
  have hr:zD zi O false slices_Index.jl T S=zD zi O false slices_Index.jl T S:=rfl
  have hd:¬ (pre.length:Int) < (l.length:Int):=by rw [hl];simp
  conv at hr =>
   rhs
   rw [hTe]
   simp only [slices_Index.jl,slices_Index.code,slices_Index.rs,zSs,reduceIte,zk,zn,zo,zq,hd]
  exact ⟨_,_,hL.symm.trans (jO hr (by simp)),rfl,rfl⟩
 | cons x suf ih =>
  intro pre T r hL hT h0 h1 h7 h8 hl
  have hTe:=slices_Index.eta hT
  rw [h0,h1,h7,h8] at hTe
  have hr:zD zi O false slices_Index.jl T S=zD zi O false slices_Index.jl T S:=rfl
  have hd:(pre.length:Int) < (l.length:Int):=by rw [hl];simp;omega
  have e1:∀ S,zZ zi 38 (iz k l) (.int .i64 pre.length) S=some (EP [.int .i64 x],S):=fun S=>by
   rw [ad6 hv (by omega) hd];rw [YB hl]
  have wi:IntKind.i64.wrap ((pre.length:Int)+1)=((pre++[x]).length:Int):=by rw [wrap_i64 (by omega) (by omega)];simp
  rw [List.any_cons,idxFrom]
  by_cases hx:v=x
  ·
   have hx2:=decide_eq_true hx
   conv at hr =>
    rhs
    rw [hTe]
    simp only [slices_Index.jl,slices_Index.code,slices_Index.rs,zSs,reduceIte,zk,zn,zo,zq,if_neg hk,hd,e1,WR,hx2]
   refine ⟨_,_,hL.symm.trans (jO hr (by simp)),?_⟩
   rw [hx2,Bool.true_or]
   exact ⟨rfl,rfl⟩
  ·
   have hx2:=decide_eq_false hx
   conv at hr =>
    rhs
    rw [hTe]
    simp only [slices_Index.jl,slices_Index.code,slices_Index.rs,zSs,reduceIte,zk,zn,zo,zq,if_neg hk,hd,e1,WR,hx2,wi]
   obtain ⟨e,T',g1,g2⟩:=ih (pre++[x]) ((wL hr).symm.trans hL) rfl rfl rfl rfl rfl (by simp [hl])
   refine ⟨e,T',g1,?_⟩
   rw [hx2,Bool.false_or]
   rw [show (((pre++[x]).length:Nat):Int)=(pre.length:Int)+1 by simp] at g2
   exact g2
theorem slices_Index.v (hv:Okl k l) (hk:k≠2) (hlen:l.length≤17592186044416) {v:Int} (S:zx):zS zi O slices_Index.id [iz k l,.int .i64 v] S=some (.int .i64 (idxFrom (fun x=>decide (v=x)) 0 l),S):=by
 obtain ⟨T,hTe⟩:∃ T,T=(iz k l::.int .i64 v::zh::zh::zh::zh::zh::zh::zh::zh::zh::zh::zh::zh::zh::zh::zh::zh::zh::[]):=⟨_,rfl⟩
 have hr:zD zi O false slices_Index.code T S=zD zi O false slices_Index.code T S:=rfl
 conv at hr =>
  rhs
  rw [hTe]
  simp only [slices_Index.code,slices_Index.rs,zSs,reduceIte,zk,zn,zo,zq,if_neg hk,acn hv,goInt]
 generalize hL:yG (zD zi O false slices_Index.jl) _ _=r at hr
 obtain ⟨e,T',rfl,g⟩:=slices_Index.round hv hk hlen l [] hL rfl rfl rfl rfl rfl rfl
 cases h:l.any (fun x=>decide (v=x)) with
 | true =>
  rw [h] at g
  obtain ⟨rfl,g2⟩:=g
  conv at hr =>
   rhs
   simp only [zSs,reduceIte,zk,zn,zo,zq]
  rw [hTe] at hr
  have hrun:=slices_Index.runs hr (.inr rfl)
  rw [g2] at hrun
  exact hrun
 | false =>
  rw [h] at g
  obtain ⟨rfl,g2⟩:=g
  have hTe':=slices_Index.eta g2
  conv at hr =>
   rhs
   rw [hTe']
   simp only [slices_Index.code,slices_Index.rs,zSs,reduceIte,zk,zn,zo,zq]
  rw [hTe] at hr
  rw [ZL h]
  exact slices_Index.runs hr (.inr rfl)
theorem slices_Contains.v (hv:Okl k l) (hk:k≠2) (hlen:l.length≤17592186044416) {v:Int} (S:zx):zS zi O slices_Contains.id [iz k l,.int .i64 v] S=some (.bool (l.any fun x=>decide (v=x)),S):=by
 obtain ⟨T,hTe⟩:∃ T,T=(iz k l::.int .i64 v::zh::zh::zh::zh::zh::zh::zh::[]):=⟨_,rfl⟩
 have hr:zD zi O false slices_Contains.code T S=zD zi O false slices_Contains.code T S:=rfl
 have c1:=fun S=>slices_Index.v hv hk hlen (v:=v) S
 conv at hr =>
  rhs
  rw [hTe]
  simp only [slices_Contains.code,slices_Contains.rs,zSs,reduceIte,zk,zn,zo,zq,if_neg hk,c1,acU]
 rw [hTe] at hr
 exact slices_Contains.runs hr (.inr rfl)
end
end Go.Proofs.Ytacbgjhmkhjpoaa
namespace Go.Proofs.Ytacbgjhmkhjpoaa
open Go.Abs
abbrev jE.id:FuncId:=22
noncomputable def jE.code:Code:=(.seq (.region 0 (reg Try.f22 0) false) (.seq (.region 1 (reg Try.f22 1) false) Code.ret))
theorem jE.body:Try.f22.body=some jE.code:=by kernel_rfl
variable (c i Y J K L M N P Q l m n o p q r s t u w:Value) (S:zx)
theorem jE.r0 :jg zi ⟨false,false,false⟩ (zS zi O) (reg Try.f22 0) (reg Try.f22 0).toList ([c,i,Y,J,K,L,M,N,P,Q,l,m,n,o,p,q,r,s,t,u,w]) S =
  (zU (ZH (dem c) S) (fun x d=>some ([c,x,Value.bool false,J,K,L,M,N,P,Q,l,m,n,o,p,q,r,s,t,u,w],d)) ()):=by
 kernel_rfl
theorem jE.r1 :jg zi ⟨false,false,false⟩ (zS zi O) (reg Try.f22 1) (reg Try.f22 1).toList ([c,i,Y,J,K,L,M,N,P,Q,l,m,n,o,p,q,r,s,t,u,w]) S =
  (zU (zN zi 30 i 0 S) (fun x d=>zU (jd zi false 3 x d) (fun R Z=>zU (wX zi BinOp.geq 3 R (.int .i64 1) Z) (fun f S3=>gdK (dem f) true (zN zi 30 i 0) S3 (fun U S4=>gdK (dem f) true (jd zi false 3 U) S4 (fun V S5=>gdK (dem f) true (wX zi BinOp.leq 3 V (.int .i64 1000000)) S5 (fun W S6=>zU (qm (dem f) W (Value.bool false) S6) (fun g S7=>gdK (dem g) true (zN zi 30 i 1) S7 (fun X S8=>gdK (dem g) true (jd zi false 3 X) S8 (fun y S9=>gdK (dem g) true (wX zi BinOp.geq 3 y (.int .i64 0)) S9 (fun z D=>zU (qm (dem g) z (Value.bool false) D) (fun b E=>gdK (dem b) true (zN zi 30 i 1) E (fun A F=>gdK (dem b) true (jd zi false 3 A) F (fun B G=>gdK (dem b) true (wX zi BinOp.leq 3 B (.int .i64 1000)) G (fun C H=>zU (qm (dem b) C (Value.bool false) H) (fun k I=>some ([c,i,k,x,R,f,dem f,U,V,W,g,dem g,X,y,z,b,dem b,A,B,C,dem k],I)) ()) ()) ()) ()) ()) ()) ()) ()) ()) ()) ()) ()) ()) ()) ()):=by
 refine sD Try.f22 1 0 (fun x d=>?_)
 refine sD Try.f22 1 1 (fun R Z=>?_)
 refine sD Try.f22 1 2 (fun f S3=>?_)
 refine sP Try.f22 1 3 (v:=f) ?_
 refine sG Try.f22 1 4 (j:=3) (fun U S4=>?_)
 refine sG Try.f22 1 5 (j:=3) (fun V S5=>?_)
 refine sG Try.f22 1 6 (j:=3) (fun W S6=>?_)
 refine sD Try.f22 1 7 (fun g S7=>?_)
 refine sP Try.f22 1 8 (v:=g) ?_
 refine sG Try.f22 1 9 (j:=8) (fun X S8=>?_)
 refine sG Try.f22 1 10 (j:=8) (fun y S9=>?_)
 refine sG Try.f22 1 11 (j:=8) (fun z D=>?_)
 refine sD Try.f22 1 12 (fun b E=>?_)
 refine sP Try.f22 1 13 (v:=b) ?_
 refine sG Try.f22 1 14 (j:=13) (fun A F=>?_)
 refine sG Try.f22 1 15 (j:=13) (fun B G=>?_)
 refine sG Try.f22 1 16 (j:=13) (fun C H=>?_)
 refine sD Try.f22 1 17 (fun k I=>?_)
 refine sP Try.f22 1 18 (v:=k) ?_
 kernel_rfl
theorem jE.rs:type_of% (aeW @jE.r0 (@jE.r1)):=aeW @jE.r0 (@jE.r1)
theorem jE.runs {c:Value} {S d:zx} {e:AEx} {T:List Value} (h:zD zi O false jE.code ([c,zh,zh,zh,zh,zh,zh,zh,zh,zh,zh,zh,zh,zh,zh,zh,zh,zh,zh,zh,zh]) zx.empty=some (e,T,d)) (he:e=.normal∨e=.ret) (hca:[c].all (jc 16)=true) (hcv:jc 16 (T.getD 2 zh)=true):zS zi O 22 [c] S=some (T.getD 2 zh,S) :=
 vN rfl rfl Try.func22 (by decide) jE.body (by exact h) he (jD (a:=T.getD 2 zh) ((show zH zi T d Try.f22.results.toList=zH zi T d [(ResultVar.tmp 2)] from by kernel_rfl).trans (by simp only [zH])) (by kernel_rfl)) hca hcv
end Go.Proofs.Ytacbgjhmkhjpoaa
namespace Go.Proofs.Ytacbgjhmkhjpoaa
open Go.Abs
abbrev zI.id:FuncId:=14
noncomputable def zI.code:Code:=(.seq (.region 0 (reg Try.f14 0) false) (.seq (.region 1 (reg Try.f14 1) false) Code.ret))
theorem zI.body:Try.f14.body=some zI.code:=by kernel_rfl
variable (c i Y J K L M N P Q l m n o p q r s t u w:Value) (S:zx)
theorem zI.r0 :jg zi ⟨false,false,false⟩ (zS zi O) (reg Try.f14 0) (reg Try.f14 0).toList ([c,i,Y,J,K,L,M,N,P,Q,l,m,n,o,p,q,r,s,t,u,w]) S =
  (zU (ZH (dem c) S) (fun x d=>some ([c,x,Value.bool false,J,K,L,M,N,P,Q,l,m,n,o,p,q,r,s,t,u,w],d)) ()):=by
 kernel_rfl
theorem zI.r1 :jg zi ⟨false,false,false⟩ (zS zi O) (reg Try.f14 1) (reg Try.f14 1).toList ([c,i,Y,J,K,L,M,N,P,Q,l,m,n,o,p,q,r,s,t,u,w]) S =
  (zU (zN zi 30 i 0 S) (fun x d=>zU (jd zi false 3 x d) (fun R Z=>zU (wX zi BinOp.gtr 3 R (.int .i64 0) Z) (fun f S3=>gdK (dem f) true (zN zi 30 i 0) S3 (fun U S4=>gdK (dem f) true (jd zi false 3 U) S4 (fun V S5=>gdK (dem f) true (wX zi BinOp.leq 3 V (.int .i64 1000000)) S5 (fun W S6=>zU (qm (dem f) W (Value.bool false) S6) (fun g S7=>gdK (dem g) true (zN zi 30 i 1) S7 (fun X S8=>gdK (dem g) true (jd zi false 3 X) S8 (fun y S9=>gdK (dem g) true (wX zi BinOp.geq 3 y (.int .i64 0)) S9 (fun z D=>zU (qm (dem g) z (Value.bool false) D) (fun b E=>gdK (dem b) true (zN zi 30 i 1) E (fun A F=>gdK (dem b) true (jd zi false 3 A) F (fun B G=>gdK (dem b) true (wX zi BinOp.leq 3 B (.int .i64 1000)) G (fun C H=>zU (qm (dem b) C (Value.bool false) H) (fun k I=>some ([c,i,k,x,R,f,dem f,U,V,W,g,dem g,X,y,z,b,dem b,A,B,C,dem k],I)) ()) ()) ()) ()) ()) ()) ()) ()) ()) ()) ()) ()) ()) ()) ()):=by
 refine sD Try.f14 1 0 (fun x d=>?_)
 refine sD Try.f14 1 1 (fun R Z=>?_)
 refine sD Try.f14 1 2 (fun f S3=>?_)
 refine sP Try.f14 1 3 (v:=f) ?_
 refine sG Try.f14 1 4 (j:=3) (fun U S4=>?_)
 refine sG Try.f14 1 5 (j:=3) (fun V S5=>?_)
 refine sG Try.f14 1 6 (j:=3) (fun W S6=>?_)
 refine sD Try.f14 1 7 (fun g S7=>?_)
 refine sP Try.f14 1 8 (v:=g) ?_
 refine sG Try.f14 1 9 (j:=8) (fun X S8=>?_)
 refine sG Try.f14 1 10 (j:=8) (fun y S9=>?_)
 refine sG Try.f14 1 11 (j:=8) (fun z D=>?_)
 refine sD Try.f14 1 12 (fun b E=>?_)
 refine sP Try.f14 1 13 (v:=b) ?_
 refine sG Try.f14 1 14 (j:=13) (fun A F=>?_)
 refine sG Try.f14 1 15 (j:=13) (fun B G=>?_)
 refine sG Try.f14 1 16 (j:=13) (fun C H=>?_)
 refine sD Try.f14 1 17 (fun k I=>?_)
 refine sP Try.f14 1 18 (v:=k) ?_
 kernel_rfl
theorem zI.rs:type_of% (aeW @zI.r0 (@zI.r1)):=aeW @zI.r0 (@zI.r1)
theorem zI.runs {c:Value} {S d:zx} {e:AEx} {T:List Value} (h:zD zi O false zI.code ([c,zh,zh,zh,zh,zh,zh,zh,zh,zh,zh,zh,zh,zh,zh,zh,zh,zh,zh,zh,zh]) zx.empty=some (e,T,d)) (he:e=.normal∨e=.ret) (hca:[c].all (jc 16)=true) (hcv:jc 16 (T.getD 2 zh)=true):zS zi O 14 [c] S=some (T.getD 2 zh,S) :=
 vN rfl rfl Try.func14 (by decide) zI.body (by exact h) he (jD (a:=T.getD 2 zh) ((show zH zi T d Try.f14.results.toList=zH zi T d [(ResultVar.tmp 2)] from by kernel_rfl).trans (by simp only [zH])) (by kernel_rfl)) hca hcv
end Go.Proofs.Ytacbgjhmkhjpoaa
namespace Go.Proofs.Ytacbgjhmkhjpoaa
open Go.Abs
abbrev jr.id:FuncId:=27
noncomputable def jr.code:Code:=(.seq (.region 0 (reg Try.f27 0) false) (.seq (.region 1 (reg Try.f27 1) true) Code.ret))
theorem jr.body:Try.f27.body=some jr.code:=by kernel_rfl
variable (b c k l U H I J K L m n o p q r s t:Value) (S:zx)
theorem jr.r0 :jg zi ⟨false,false,false⟩ (zS zi O) (reg Try.f27 0) (reg Try.f27 0).toList ([b,c,k,l,U,H,I,J,K,L,m,n,o,p,q,r,s,t]) S =
  (zU (ZH (dem b) S) (fun g d=>zU (ZH (dem c) d) (fun u y=>some ([b,c,g,u,Value.bool false,H,I,J,K,L,m,n,o,p,q,r,s,t],y)) ()) ()):=by
 kernel_rfl
theorem jr.d1:qy zi (reg Try.f27 1)=true:=by kernel_rfl
theorem jr.ff1:fixed zi (reg Try.f27 1)=false:=by kernel_rfl
theorem jr.k1:checked zi (reg Try.f27 1)=[5,6,7,8]:=by kernel_rfl
theorem jr.g1:again zi (reg Try.f27 1)=[(6,4),(8,4)]:=by kernel_rfl
theorem jr.r1 :zD zi O false (.region 1 (reg Try.f27 1) true) ([b,c,k,l,U,H,I,J,K,L,m,n,o,p,q,r,s,t]) S =
  YP (zU (zN zi 30 l 1 S) (fun g d=>zU (jd zi false 3 g d) (fun u y=>zU (zN zi 30 k 1 y) (fun z V=>zU (jd zi false 3 z V) (fun M A=>zU ((zS zi O) 33 [(dem u),(dem M)] A) (fun N W=>zU (zN zi 30 k 0 W) (fun i P=>okK i ( zU (jd zi false 3 i P) (fun B X=>okK B ( zU (zN zi 30 l 0 X) (fun j Q=>okK j ( zU (jd zi false 3 j Q) (fun C Y=>okK C ( zU ((zS zi O) 33 [(dem B),(dem C)] Y) (fun R D=>zU (jQ zi 38 2 [(0,N),(1,R)] D) (fun w E=>zU ((zS zi O) 32 [(dem w)] E) (fun x F=>zU (wX zi BinOp.lss 3 x (.int .i64 0) F) (fun f G=>ckK (yA i A P && (yA j A Q && (true))) (some ([b,c,k,l,f,g,u,z,M,N,i,B,j,C,R,w,x,dem f],G)) ()) ()) ()) ()) ()) ()) ()) ()) ()) ()) ()) ()) ()) ()) ()) ()) ()) ()):=by
 rw [kP jr.d1 jr.ff1 jr.k1 jr.g1]
 refine congrArg YP ?_
 refine uD Try.f27 1 0 (pe:=zh) (fun g d=>?_)
 refine uD Try.f27 1 1 (pe:=g) (fun u y=>?_)
 refine uD Try.f27 1 2 (pe:=zh) (fun z V=>?_)
 refine uD Try.f27 1 3 (pe:=z) (fun M A=>?_)
 refine uD Try.f27 1 4 (pe:=zh) (fun N W=>?_)
 refine uDC Try.f27 1 5 (pe:=zh) (fun i P=>?_)
 refine uDC Try.f27 1 6 (pe:=i) (fun B X=>?_)
 refine uDC Try.f27 1 7 (pe:=zh) (fun j Q=>?_)
 refine uDC Try.f27 1 8 (pe:=j) (fun C Y=>?_)
 refine uD Try.f27 1 9 (pe:=zh) (fun R D=>?_)
 refine uD Try.f27 1 10 (pe:=zh) (fun w E=>?_)
 refine uD Try.f27 1 11 (pe:=zh) (fun x F=>?_)
 refine uD Try.f27 1 12 (pe:=zh) (fun f G=>?_)
 refine uP Try.f27 1 13 (v:=f) (pe:=zh) ?_
 kernel_rfl
theorem jr.rs:type_of% (aeW @jr.r0 (@jr.r1)):=aeW @jr.r0 (@jr.r1)
theorem jr.runs {b c:Value} {S d:zx} {e:AEx} {T:List Value} (h:zD zi O false jr.code ([b,c,zh,zh,zh,zh,zh,zh,zh,zh,zh,zh,zh,zh,zh,zh,zh,zh]) zx.empty=some (e,T,d)) (he:e=.normal∨e=.ret) (hca:[b,c].all (jc 16)=true) (hcv:jc 16 (T.getD 4 zh)=true):zS zi O 27 [b,c] S=some (T.getD 4 zh,S) :=
 vN rfl rfl Try.func27 (by decide) jr.body (by exact h) he (jD (a:=T.getD 4 zh) ((show zH zi T d Try.f27.results.toList=zH zi T d [(ResultVar.tmp 4)] from by kernel_rfl).trans (by simp only [zH])) (by kernel_rfl)) hca hcv
end Go.Proofs.Ytacbgjhmkhjpoaa
namespace Go.Proofs.Ytacbgjhmkhjpoaa
open Go.Abs
abbrev zF.id:FuncId:=13
noncomputable def zF.code:Code:=(.seq (.region 0 (reg Try.f13 0) false) (.seq (.seq (.region 1 (reg Try.f13 1) false) (.cond (.tmp 9) (.seq (.region 2 (reg Try.f13 2) false) Code.ret) Code.skip)) (.seq (.region 3 (reg Try.f13 3) false) Code.ret)))
theorem zF.body:Try.f13.body=some zF.code:=by kernel_rfl
variable (b c q r D w x y z A d f g i j k l m n o:Value) (S:zx)
theorem zF.r0 :jg zi ⟨false,false,false⟩ (zS zi O) (reg Try.f13 0) (reg Try.f13 0).toList ([b,c,q,r,D,w,x,y,z,A,d,f,g,i,j,k,l,m,n,o]) S =
  (zU (ZH (dem b) S) (fun s p=>zU (ZH (dem c) p) (fun t B=>some ([b,c,s,t,Value.bool false,w,x,y,z,A,d,f,g,i,j,k,l,m,n,o],B)) ()) ()):=by
 kernel_rfl
theorem zF.r1 :jg zi ⟨false,false,false⟩ (zS zi O) (reg Try.f13 1) (reg Try.f13 1).toList ([b,c,q,r,D,w,x,y,z,A,d,f,g,i,j,k,l,m,n,o]) S =
  (zU (zN zi 30 q 1 S) (fun s p=>zU (jd zi false 3 s p) (fun t B=>zU (zN zi 30 r 1 B) (fun u E=>zU (jd zi false 3 u E) (fun v F=>zU (wX zi BinOp.neq 3 t v F) (fun C G=>some ([b,c,q,r,D,s,t,u,v,C,d,f,g,i,j,k,l,m,n,o],G)) ()) ()) ()) ()) ()):=by
 kernel_rfl
theorem zF.r2 :jg zi ⟨false,false,false⟩ (zS zi O) (reg Try.f13 2) (reg Try.f13 2).toList ([b,c,q,r,D,w,x,y,z,A,d,f,g,i,j,k,l,m,n,o]) S =
  (zU (zN zi 30 q 1 S) (fun s p=>zU (jd zi false 3 s p) (fun t B=>zU (zN zi 30 r 1 B) (fun u E=>zU (jd zi false 3 u E) (fun v F=>zU (wX zi BinOp.gtr 3 t v F) (fun C G=>some ([b,c,q,r,C,w,x,y,z,A,s,t,u,v,dem C,k,l,m,n,o],G)) ()) ()) ()) ()) ()):=by
 kernel_rfl
theorem zF.r3 :jg zi ⟨false,false,false⟩ (zS zi O) (reg Try.f13 3) (reg Try.f13 3).toList ([b,c,q,r,D,w,x,y,z,A,d,f,g,i,j,k,l,m,n,o]) S =
  (zU (zN zi 30 q 0 S) (fun s p=>zU (jd zi false 3 s p) (fun t B=>zU (zN zi 30 r 0 B) (fun u E=>zU (jd zi false 3 u E) (fun v F=>zU (wX zi BinOp.lss 3 t v F) (fun C G=>some ([b,c,q,r,C,w,x,y,z,A,d,f,g,i,j,s,t,u,v,dem C],G)) ()) ()) ()) ()) ()):=by
 kernel_rfl
theorem zF.rs:type_of% (aeW @zF.r0 (aeW @zF.r1 (aeW @zF.r2 (@zF.r3)))):=aeW @zF.r0 (aeW @zF.r1 (aeW @zF.r2 (@zF.r3)))
theorem zF.runs {b c:Value} {S p:zx} {e:AEx} {T:List Value} (h:zD zi O false zF.code ([b,c,zh,zh,zh,zh,zh,zh,zh,zh,zh,zh,zh,zh,zh,zh,zh,zh,zh,zh]) zx.empty=some (e,T,p)) (he:e=.normal∨e=.ret) (hca:[b,c].all (jc 16)=true) (hcv:jc 16 (T.getD 4 zh)=true):zS zi O 13 [b,c] S=some (T.getD 4 zh,S) :=
 vN rfl rfl Try.func13 (by decide) zF.body (by exact h) he (jD (a:=T.getD 4 zh) ((show zH zi T p Try.f13.results.toList=zH zi T p [(ResultVar.tmp 4)] from by kernel_rfl).trans (by simp only [zH])) (by kernel_rfl)) hca hcv
end Go.Proofs.Ytacbgjhmkhjpoaa
namespace Go.Proofs.Ytacbgjhmkhjpoaa
open Go.Abs
abbrev zG.id:FuncId:=33
noncomputable def zG.code:Code:=(.seq (.region 0 (reg Try.f33 0) false) (.seq (.region 1 (reg Try.f33 1) false) (.seq (.region 2 (reg Try.f33 2) false) (.seq (.seq (.region 3 (reg Try.f33 3) false) (.cond (.tmp 11) (.seq (.seq (.region 4 (reg Try.f33 4) false) (.cond (.tmp 12) (.seq (.region 5 (reg Try.f33 5) false) Code.ret) Code.skip)) (.seq (.region 6 (reg Try.f33 6) false) Code.ret)) Code.skip)) (.seq (.seq (.region 7 (reg Try.f33 7) false) (.cond (.tmp 13) (.seq (.region 8 (reg Try.f33 8) false) Code.ret) Code.skip)) (.seq (.seq (.region 9 (reg Try.f33 9) false) (.cond (.tmp 16) (.seq (.region 10 (reg Try.f33 10) false) Code.ret) Code.skip)) (.seq (.seq (.region 11 (reg Try.f33 11) false) (.cond (.tmp 19) (.seq (.region 12 (reg Try.f33 12) false) Code.ret) Code.skip)) (.seq (.region 13 (reg Try.f33 13) false) Code.ret))))))))
theorem zG.body:Try.f33.body=some zG.code:=by kernel_rfl
variable (n o q r w s p t u v b c d f g i j k l m:Value) (S:zx)
theorem zG.r0 :jg zi ⟨false,false,false⟩ (zS zi O) (reg Try.f33 0) (reg Try.f33 0).toList ([n,o,q,r,w,s,p,t,u,v,b,c,d,f,g,i,j,k,l,m]) S =
  ( some ([n,o,q,r,.int .i64 0,s,p,t,u,v,b,c,d,f,g,i,j,k,l,m],S)):=by
 kernel_rfl
theorem zG.r1 :jg zi ⟨false,false,false⟩ (zS zi O) (reg Try.f33 1) (reg Try.f33 1).toList ([n,o,q,r,w,s,p,t,u,v,b,c,d,f,g,i,j,k,l,m]) S =
  (zU ((zS zi O) 37 [(dem (dem n))] S) (fun y x=>some ([n,o,q,r,w,y,p,dem n,dem y,v,b,c,d,f,g,i,j,k,l,m],x)) ()):=by
 kernel_rfl
theorem zG.r2 :jg zi ⟨false,false,false⟩ (zS zi O) (reg Try.f33 2) (reg Try.f33 2).toList ([n,o,q,r,w,s,p,t,u,v,b,c,d,f,g,i,j,k,l,m]) S =
  (zU ((zS zi O) 37 [(dem (dem o))] S) (fun y x=>some ([n,o,q,r,w,s,y,t,u,dem o,dem y,c,d,f,g,i,j,k,l,m],x)) ()):=by
 kernel_rfl
theorem zG.r3 :jg zi ⟨false,false,false⟩ (zS zi O) (reg Try.f33 3) (reg Try.f33 3).toList ([n,o,q,r,w,s,p,t,u,v,b,c,d,f,g,i,j,k,l,m]) S =
  ( some ([n,o,q,r,w,s,p,t,u,v,b,dem s,d,f,g,i,j,k,l,m],S)):=by
 kernel_rfl
theorem zG.r4 :jg zi ⟨false,false,false⟩ (zS zi O) (reg Try.f33 4) (reg Try.f33 4).toList ([n,o,q,r,w,s,p,t,u,v,b,c,d,f,g,i,j,k,l,m]) S =
  ( some ([n,o,q,r,w,s,p,t,u,v,b,c,dem p,f,g,i,j,k,l,m],S)):=by
 kernel_rfl
theorem zG.r5 :jg zi ⟨false,false,false⟩ (zS zi O) (reg Try.f33 5) (reg Try.f33 5).toList ([n,o,q,r,w,s,p,t,u,v,b,c,d,f,g,i,j,k,l,m]) S =
  ( some ([n,o,q,r,.int .i64 0,s,p,t,u,v,b,c,d,f,g,i,j,k,l,m],S)):=by
 kernel_rfl
theorem zG.r6 :jg zi ⟨false,false,false⟩ (zS zi O) (reg Try.f33 6) (reg Try.f33 6).toList ([n,o,q,r,w,s,p,t,u,v,b,c,d,f,g,i,j,k,l,m]) S =
  ( some ([n,o,q,r,.int .i64 (-1),s,p,t,u,v,b,c,d,f,g,i,j,k,l,m],S)):=by
 kernel_rfl
theorem zG.r7 :jg zi ⟨false,false,false⟩ (zS zi O) (reg Try.f33 7) (reg Try.f33 7).toList ([n,o,q,r,w,s,p,t,u,v,b,c,d,f,g,i,j,k,l,m]) S =
  ( some ([n,o,q,r,w,s,p,t,u,v,b,c,d,dem p,g,i,j,k,l,m],S)):=by
 kernel_rfl
theorem zG.r8 :jg zi ⟨false,false,false⟩ (zS zi O) (reg Try.f33 8) (reg Try.f33 8).toList ([n,o,q,r,w,s,p,t,u,v,b,c,d,f,g,i,j,k,l,m]) S =
  ( some ([n,o,q,r,.int .i64 1,s,p,t,u,v,b,c,d,f,g,i,j,k,l,m],S)):=by
 kernel_rfl
theorem zG.r9 :jg zi ⟨false,false,false⟩ (zS zi O) (reg Try.f33 9) (reg Try.f33 9).toList ([n,o,q,r,w,s,p,t,u,v,b,c,d,f,g,i,j,k,l,m]) S =
  (zU (wX zi BinOp.lss 3 (dem n) (dem o) S) (fun z x=>some ([n,o,q,r,w,s,p,t,u,v,b,c,d,f,dem n,dem o,z,k,l,m],x)) ()):=by
 kernel_rfl
theorem zG.r10 :jg zi ⟨false,false,false⟩ (zS zi O) (reg Try.f33 10) (reg Try.f33 10).toList ([n,o,q,r,w,s,p,t,u,v,b,c,d,f,g,i,j,k,l,m]) S =
  ( some ([n,o,q,r,.int .i64 (-1),s,p,t,u,v,b,c,d,f,g,i,j,k,l,m],S)):=by
 kernel_rfl
theorem zG.r11 :jg zi ⟨false,false,false⟩ (zS zi O) (reg Try.f33 11) (reg Try.f33 11).toList ([n,o,q,r,w,s,p,t,u,v,b,c,d,f,g,i,j,k,l,m]) S =
  (zU (wX zi BinOp.gtr 3 (dem n) (dem o) S) (fun z x=>some ([n,o,q,r,w,s,p,t,u,v,b,c,d,f,g,i,j,dem n,dem o,z],x)) ()):=by
 kernel_rfl
theorem zG.r12 :jg zi ⟨false,false,false⟩ (zS zi O) (reg Try.f33 12) (reg Try.f33 12).toList ([n,o,q,r,w,s,p,t,u,v,b,c,d,f,g,i,j,k,l,m]) S =
  ( some ([n,o,q,r,.int .i64 1,s,p,t,u,v,b,c,d,f,g,i,j,k,l,m],S)):=by
 kernel_rfl
theorem zG.r13 :jg zi ⟨false,false,false⟩ (zS zi O) (reg Try.f33 13) (reg Try.f33 13).toList ([n,o,q,r,w,s,p,t,u,v,b,c,d,f,g,i,j,k,l,m]) S =
  ( some ([n,o,q,r,.int .i64 0,s,p,t,u,v,b,c,d,f,g,i,j,k,l,m],S)):=by
 kernel_rfl
theorem zG.rs:type_of% (aeW @zG.r0 (aeW @zG.r1 (aeW @zG.r2 (aeW @zG.r3 (aeW @zG.r4 (aeW @zG.r5 (aeW @zG.r6 (aeW @zG.r7 (aeW @zG.r8 (aeW @zG.r9 (aeW @zG.r10 (aeW @zG.r11 (aeW @zG.r12 (@zG.r13)))))))))))))):=aeW @zG.r0 (aeW @zG.r1 (aeW @zG.r2 (aeW @zG.r3 (aeW @zG.r4 (aeW @zG.r5 (aeW @zG.r6 (aeW @zG.r7 (aeW @zG.r8 (aeW @zG.r9 (aeW @zG.r10 (aeW @zG.r11 (aeW @zG.r12 (@zG.r13)))))))))))))
theorem zG.runs {n o:Value} {S x:zx} {e:AEx} {T:List Value} (h:zD zi O false zG.code ([n,o,zh,zh,zh,zh,zh,zh,zh,zh,zh,zh,zh,zh,zh,zh,zh,zh,zh,zh]) S=some (e,T,x)) (he:e=.normal∨e=.ret):zS zi O 33 [n,o] S=some (T.getD 4 zh,x) :=
 jG rfl rfl Try.func33 (by decide) zG.body (by exact h) he (jD (a:=T.getD 4 zh) ((show zH zi T x Try.f33.results.toList=zH zi T x [(ResultVar.tmp 4)] from by kernel_rfl).trans (by simp only [zH])) (by kernel_rfl))
end Go.Proofs.Ytacbgjhmkhjpoaa
namespace Go.Proofs.Ytacbgjhmkhjpoaa
open Go.Abs
abbrev zX.id:FuncId:=32
noncomputable def zX.jl:Code:=(.seq (.region 3 (reg Try.f32 3) false) (.seq (.cond (.tmp 9) Code.skip (.exit 0)) (.seq (.block 1 (.seq (.region 4 (reg Try.f32 4) false) (.seq (.region 5 (reg Try.f32 5) false) (.cond (.tmp 14) (.seq (.region 6 (reg Try.f32 6) false) Code.ret) Code.skip)))) (.region 7 (reg Try.f32 7) false))))
noncomputable def zX.code:Code:=(.seq (.region 0 (reg Try.f32 0) false) (.seq (.region 1 (reg Try.f32 1) false) (.seq (.seq (.region 2 (reg Try.f32 2) false) (.block 0 (.loop zX.jl))) (.seq (.region 8 (reg Try.f32 8) false) Code.ret))))
theorem zX.body:Try.f32.body=some zX.code:=by kernel_rfl
theorem zX.eta {T:List Value} (h:T.length=18):T=[T.getD 0 zh,T.getD 1 zh,T.getD 2 zh,T.getD 3 zh,T.getD 4 zh,T.getD 5 zh,T.getD 6 zh,T.getD 7 zh,T.getD 8 zh,T.getD 9 zh,T.getD 10 zh,T.getD 11 zh,T.getD 12 zh,T.getD 13 zh,T.getD 14 zh,T.getD 15 zh,T.getD 16 zh,T.getD 17 zh]:=(qO T 18 h).trans (by kernel_rfl)
variable (l p u m q n r s o t b c d f g i j k:Value) (S:zx)
theorem zX.r0 :jg zi ⟨false,false,false⟩ (zS zi O) (reg Try.f32 0) (reg Try.f32 0).toList ([l,p,u,m,q,n,r,s,o,t,b,c,d,f,g,i,j,k]) S =
  ( some ([l,p,.int .i64 0,m,q,n,r,s,o,t,b,c,d,f,g,i,j,k],S)):=by
 kernel_rfl
theorem zX.r1 :jg zi ⟨false,false,false⟩ (zS zi O) (reg Try.f32 1) (reg Try.f32 1).toList ([l,p,u,m,q,n,r,s,o,t,b,c,d,f,g,i,j,k]) S =
  ( some ([l,p,u,.int .i64 0,q,n,r,s,o,t,b,c,d,f,g,i,j,k],S)):=by
 kernel_rfl
theorem zX.r2 :jg zi ⟨false,false,false⟩ (zS zi O) (reg Try.f32 2) (reg Try.f32 2).toList ([l,p,u,m,q,n,r,s,o,t,b,c,d,f,g,i,j,k]) S =
  (zU (vg zi 38 (dem l) S) (fun x v=>some ([l,p,u,m,q,n,dem l,x,.int .i64 0,t,b,c,d,f,g,i,j,k],v)) ()):=by
 kernel_rfl
theorem zX.r3 :jg zi ⟨false,false,false⟩ (zS zi O) (reg Try.f32 3) (reg Try.f32 3).toList ([l,p,u,m,q,n,r,s,o,t,b,c,d,f,g,i,j,k]) S =
  (zU (wX zi BinOp.lss 3 o s S) (fun w v=>some ([l,p,u,m,q,n,r,s,o,w,b,c,d,f,g,i,j,k],v)) ()):=by
 kernel_rfl
theorem zX.r4 :jg zi ⟨false,false,false⟩ (zS zi O) (reg Try.f32 4) (reg Try.f32 4).toList ([l,p,u,m,q,n,r,s,o,t,b,c,d,f,g,i,j,k]) S =
  (zU (zZ zi 38 r o S) (fun w v=>zU (jd zi false 3 w v) (fun x y=>some ([l,p,u,m,q,x,r,s,o,t,w,dem x,d,f,g,i,j,k],y)) ()) ()):=by
 kernel_rfl
theorem zX.r5 :jg zi ⟨false,false,false⟩ (zS zi O) (reg Try.f32 5) (reg Try.f32 5).toList ([l,p,u,m,q,n,r,s,o,t,b,c,d,f,g,i,j,k]) S =
  (zU (wX zi BinOp.neq 3 (dem n) (dem m) S) (fun z v=>some ([l,p,u,m,q,n,r,s,o,t,b,c,dem n,dem m,z,i,j,k],v)) ()):=by
 kernel_rfl
theorem zX.r6 :jg zi ⟨false,false,false⟩ (zS zi O) (reg Try.f32 6) (reg Try.f32 6).toList ([l,p,u,m,q,n,r,s,o,t,b,c,d,f,g,i,j,k]) S =
  ( some ([l,p,n,m,q,dem n,r,s,o,t,b,c,d,f,g,dem n,j,k],S)):=by
 kernel_rfl
theorem zX.r7 :jg zi ⟨false,false,false⟩ (zS zi O) (reg Try.f32 7) (reg Try.f32 7).toList ([l,p,u,m,q,n,r,s,o,t,b,c,d,f,g,i,j,k]) S =
  (zU (wX zi BinOp.add 3 o (.int .i64 1) S) (fun w v=>some ([l,p,u,m,q,n,r,s,dem w,t,b,c,d,f,g,i,w,k],v)) ()):=by
 kernel_rfl
theorem zX.r8 :jg zi ⟨false,false,false⟩ (zS zi O) (reg Try.f32 8) (reg Try.f32 8).toList ([l,p,u,m,q,n,r,s,o,t,b,c,d,f,g,i,j,k]) S =
  ( some ([l,p,m,dem m,q,n,r,s,o,t,b,c,d,f,g,i,j,dem m],S)):=by
 kernel_rfl
theorem zX.rs:type_of% (aeW @zX.r0 (aeW @zX.r1 (aeW @zX.r2 (aeW @zX.r3 (aeW @zX.r4 (aeW @zX.r5 (aeW @zX.r6 (aeW @zX.r7 (@zX.r8))))))))):=aeW @zX.r0 (aeW @zX.r1 (aeW @zX.r2 (aeW @zX.r3 (aeW @zX.r4 (aeW @zX.r5 (aeW @zX.r6 (aeW @zX.r7 (@zX.r8))))))))
theorem zX.runs {l:Value} {S v:zx} {e:AEx} {T:List Value} (h:zD zi O false zX.code ([l,zh,zh,zh,zh,zh,zh,zh,zh,zh,zh,zh,zh,zh,zh,zh,zh,zh]) S=some (e,T,v)) (he:e=.normal∨e=.ret):zS zi O 32 [l] S=some (T.getD 2 zh,v) :=
 jG rfl rfl Try.func32 (by decide) zX.body (by exact h) he (jD (a:=T.getD 2 zh) ((show zH zi T v Try.f32.results.toList=zH zi T v [(ResultVar.tmp 2)] from by kernel_rfl).trans (by simp only [zH])) (by kernel_rfl))
end Go.Proofs.Ytacbgjhmkhjpoaa
namespace Go.Proofs.Ytacbgjhmkhjpoaa
open Go.Abs
abbrev jm.id:FuncId:=37
noncomputable def jm.code:Code:=(.seq (.region 0 (reg Try.f37 0) false) (.seq (.region 1 (reg Try.f37 1) false) Code.ret))
theorem jm.body:Try.f37.body=some jm.code:=by kernel_rfl
variable (b d j f g i:Value) (S:zx)
theorem jm.r0 :jg zi ⟨false,false,false⟩ (zS zi O) (reg Try.f37 0) (reg Try.f37 0).toList ([b,d,j,f,g,i]) S =
  ( some ([b,d,Value.bool false,f,g,i],S)):=by
 kernel_rfl
theorem jm.r1 :jg zi ⟨false,false,false⟩ (zS zi O) (reg Try.f37 1) (reg Try.f37 1).toList ([b,d,j,f,g,i]) S =
  (zU (wX zi BinOp.neq 3 (dem b) (dem b) S) (fun k c=>some ([b,d,k,dem b,dem b,dem k],c)) ()):=by
 kernel_rfl
theorem jm.rs:type_of% (aeW @jm.r0 (@jm.r1)):=aeW @jm.r0 (@jm.r1)
theorem jm.runs {b:Value} {S c:zx} {e:AEx} {T:List Value} (h:zD zi O false jm.code ([b,zh,zh,zh,zh,zh]) S=some (e,T,c)) (he:e=.normal∨e=.ret):zS zi O 37 [b] S=some (T.getD 2 zh,c) :=
 jG rfl rfl Try.func37 (by decide) jm.body (by exact h) he (jD (a:=T.getD 2 zh) ((show zH zi T c Try.f37.results.toList=zH zi T c [(ResultVar.tmp 2)] from by kernel_rfl).trans (by simp only [zH])) (by kernel_rfl))
end Go.Proofs.Ytacbgjhmkhjpoaa
namespace Go.Proofs.Ytacbgjhmkhjpoaa
open Go.Abs
structure TxV where
 id:Int
 fee:Int
 deriving DecidableEq
def fT (t:TxV):List Value:=[.int .i64 t.id,.int .i64 t.fee]
abbrev tv (t:TxV):Value:=.agg [Value.int .i64 t.id,.int .i64 t.fee].toArray
structure TxV.Ok (t:TxV):Prop where
 id:-9223372036854775808≤t.id∧t.id < 9223372036854775808
 fee:-9223372036854775808≤t.fee∧t.fee < 9223372036854775808
abbrev tTx:Ty:=.pair (.int .i64) (.pair (.int .i64) .unit)
def xX (t:TxV):Bool:=decide (1≤t.id) && decide (t.id≤1000000) && decide (0≤t.fee) && decide (t.fee≤1000)
def wM (a b:TxV):Bool:=if a.fee=b.fee then decide (a.id < b.id) else decide (b.fee < a.fee)
abbrev mem1 (t:TxV):zx:=zx.empty.push (.cells [Value.int .i64 t.id,.int .i64 t.fee] (.own []) 0)
theorem box1 (t:TxV):ZH (tv t) zx.empty=some (.pointer (some ⟨0,0,none⟩),mem1 t):=rfl
theorem ZK (t:TxV):(mem1 t).get 0=some (.cells [Value.int .i64 t.id,.int .i64 t.fee] (.own []) 0):=rfl
theorem jE.v (t:TxV) (S:zx):zS zi O jE.id [tv t] S=some (.bool (xX t),S):=by
 obtain ⟨T,hTe⟩:∃ T,T=(tv t::zh::zh::zh::zh::zh::zh::zh::zh::zh::zh::zh::zh::zh::zh::zh::zh::zh::zh::zh::zh::[]):=⟨_,rfl⟩
 have hr:zD zi O false jE.code T zx.empty=zD zi O false jE.code T zx.empty:=rfl
 have l0:=wW (t:=3) (o:=0+0) (ZK t) xR rfl
 have l1:=wW (t:=3) (o:=0+1) (ZK t) xR rfl
 by_cases h1:1≤t.id <;> by_cases h2:t.id≤1000000 <;> by_cases h3:0≤t.fee <;> by_cases h4:t.fee≤1000
 all_goals
  conv at hr =>
   rhs
   rw [hTe]
   simp only [jE.code,jE.rs,zSs,reduceIte,zk,zn,zo,zq,box1,wG,qx,l0,l1,h1,h2,h3,h4]
  rw [hTe] at hr
  simp only [xX,h1,h2,h3,h4,decide_true,decide_false,Bool.and_true,Bool.and_false,Bool.false_and]
  exact jE.runs hr (.inr rfl) rfl rfl
theorem zI.v (t:TxV) (S:zx):zS zi O zI.id [tv t] S=some (.bool (xX t),S):=by
 obtain ⟨T,hTe⟩:∃ T,T=(tv t::zh::zh::zh::zh::zh::zh::zh::zh::zh::zh::zh::zh::zh::zh::zh::zh::zh::zh::zh::zh::[]):=⟨_,rfl⟩
 have hr:zD zi O false zI.code T zx.empty=zD zi O false zI.code T zx.empty:=rfl
 have l0:=wW (t:=3) (o:=0+0) (ZK t) xR rfl
 have l1:=wW (t:=3) (o:=0+1) (ZK t) xR rfl
 have h0:decide (1≤t.id)=decide (0 < t.id):=decide_eq_decide.mpr (by omega)
 unfold xX
 rw [h0]
 by_cases h1:0 < t.id <;> by_cases h2:t.id≤1000000 <;> by_cases h3:0≤t.fee <;> by_cases h4:t.fee≤1000
 all_goals
  conv at hr =>
   rhs
   rw [hTe]
   simp only [zI.code,zI.rs,zSs,reduceIte,zk,zn,zo,zq,box1,wG,qx,l0,l1,h1,h2,h3,h4]
  rw [hTe] at hr
  simp only [h1,h2,h3,h4,decide_true,decide_false,Bool.and_true,Bool.and_false,Bool.false_and]
  exact zI.runs hr (.inr rfl) rfl rfl
def acA (a b:Int):Int:=if a < b then -1 else if b < a then 1 else 0
theorem jm.v (a:Int) (S:zx):zS zi O jm.id [.int .i64 a] S=some (.bool false,S):=by
 obtain ⟨T,hTe⟩:∃ T,T=(.int .i64 a::zh::zh::zh::zh::zh::[]):=⟨_,rfl⟩
 have hr:zD zi O false jm.code T S=zD zi O false jm.code T S:=rfl
 conv at hr =>
  rhs
  rw [hTe]
  simp only [jm.code,jm.rs,zSs,reduceIte,zk,zn,zo,zq,bne_self_eq_false,ne_eq,not_true_eq_false,Bool.not_true]
 rw [hTe] at hr
 exact jm.runs hr (.inr rfl)
theorem zG.v (a b:Int) (S:zx):zS zi O zG.id [.int .i64 a,.int .i64 b] S=some (.int .i64 (acA a b),S):=by
 obtain ⟨T,hTe⟩:∃ T,T=(.int .i64 a::.int .i64 b::zh::zh::zh::zh::zh::zh::zh::zh::zh::zh::zh::zh::zh::zh::zh::zh::zh::zh::[]):=⟨_,rfl⟩
 have hr:zD zi O false zG.code T S=zD zi O false zG.code T S:=rfl
 by_cases h1:a < b <;> by_cases h2:b < a
 all_goals
  conv at hr =>
   rhs
   rw [hTe]
   simp only [zG.code,zG.rs,zSs,reduceIte,zk,zn,zo,zq,jm.v,h1,h2]
  rw [hTe] at hr
  simp only [acA,h1,h2,if_true,if_false]
  exact zG.runs hr (.inr rfl)
def ab1:List Int→Int
 | []=>0
 | x::l=>if x=0 then ab1 l else x
theorem zX.round {k:Nat} {l:List Int} (hk:Okl k l) (hl:l.length≤17592186044416) {S:zx}:∀ (suf pre:List Int) {T:List Value} {r:St},yG (zD zi O false zX.jl) T S=r→T.length=18→T.getD 3 zh=.int .i64 0 →
  T.getD 6 zh=iz k l→T.getD 7 zh=.int .i64 l.length→T.getD 8 zh=.int .i64 pre.length→l=pre++suf →
  ∃ e T',r=some (e,T',S)∧if ab1 suf=0 then e=.exit 0∧T'.length=18∧T'.getD 3 zh=.int .i64 0 else e=.ret∧T'.getD 2 zh=.int .i64 (ab1 suf):=by
 intro suf
 induction suf with
 | nil =>
  intro pre T r hL hT h3 h6 h7 h8 hpre
  have hTe:=zX.eta hT
  rw [h3,h6,h7,h8] at hTe
  have hr:zD zi O false zX.jl T S=zD zi O false zX.jl T S:=rfl
  have d1:¬ (pre.length:Int) < (l.length:Int):=by rw [hpre];simp
  conv at hr =>
   rhs
   rw [hTe]
   simp only [zX.jl,zX.code,zX.rs,zSs,reduceIte,zk,zn,zo,zq,d1]
  exact ⟨_,_,hL.symm.trans (jO hr (by simp)),rfl,rfl,rfl⟩
 | cons x suf ih =>
  intro pre T r hL hT h3 h6 h7 h8 hpre
  have hTe:=zX.eta hT
  rw [h3,h6,h7,h8] at hTe
  have hr:zD zi O false zX.jl T S=zD zi O false zX.jl T S:=rfl
  have d1:(pre.length:Int) < (l.length:Int):=by rw [hpre];simp;omega
  have e1:∀ S,zZ zi 38 (iz k l) (.int .i64 pre.length) S=some (EP [.int .i64 x],S):=fun S=>by
   rw [ad6 hk (by omega) d1];rw [YB hpre]
  have wi:IntKind.i64.wrap ((pre.length:Int)+1)=((pre++[x]).length:Int):=by rw [wrap_i64 (by omega) (by omega)];simp
  by_cases h1:x=0
  ·
   conv at hr =>
    rhs
    rw [hTe]
    simp only [zX.jl,zX.code,zX.rs,zSs,reduceIte,zk,zn,zo,zq,d1,e1,WR,h1,wi,not_true_eq_false,ne_eq]
   subst h1
   obtain ⟨e,T',g1,g2⟩:=ih (pre++[0]) ((wL hr).symm.trans hL) rfl rfl rfl rfl rfl (by simp [hpre])
   exact ⟨e,T',g1,g2⟩
  ·
   conv at hr =>
    rhs
    rw [hTe]
    simp only [zX.jl,zX.code,zX.rs,zSs,reduceIte,zk,zn,zo,zq,d1,e1,WR,h1,wi,not_false_eq_true,ne_eq]
   refine ⟨_,_,hL.symm.trans (jO hr (by simp)),?_⟩
   have ho:ab1 (x::suf)=x:=if_neg h1
   rw [ho,if_neg h1]
   exact ⟨rfl,rfl⟩
theorem zX.v {k:Nat} {l:List Int} (hk:Okl k l) (k2:k≠2) (hl:l.length≤17592186044416) (S:zx):zS zi O zX.id [iz k l] S=some (.int .i64 (ab1 l),S):=by
 obtain ⟨T,hTe⟩:∃ T,T=(iz k l::zh::zh::zh::zh::zh::zh::zh::zh::zh::zh::zh::zh::zh::zh::zh::zh::zh::[]):=⟨_,rfl⟩
 have hr:zD zi O false zX.code T S=zD zi O false zX.code T S:=rfl
 conv at hr =>
  rhs
  rw [hTe]
  simp only [zX.code,zX.rs,zSs,reduceIte,zk,zn,zo,zq,if_neg k2,acn hk,goInt]
 generalize hL:yG (zD zi O false zX.jl) _ _=r at hr
 obtain ⟨e,T',rfl,g⟩:=zX.round hk hl l [] hL rfl rfl rfl rfl rfl rfl
 by_cases h:ab1 l=0
 ·
  rw [if_pos h] at g
  obtain ⟨rfl,g2,g3⟩:=g
  have hTe':=zX.eta g2
  rw [g3] at hTe'
  conv at hr =>
   rhs
   rw [hTe']
   simp only [zX.code,zX.rs,zSs,reduceIte,zk,zn,zo,zq]
  rw [hTe] at hr
  rw [h]
  exact zX.runs hr (.inr rfl)
 ·
  rw [if_neg h] at g
  obtain ⟨rfl,g2⟩:=g
  conv at hr =>
   rhs
   simp only [zSs,reduceIte,zk,zn,zo,zq]
  rw [hTe] at hr
  have hrun:=zX.runs hr (.inr rfl)
  rw [g2] at hrun
  exact hrun
theorem aeA (x y:Int):sv 2 1 2 [.int .i64 x,.int .i64 y]=iz 2 [x,y]:=rfl
abbrev mem2 (a b:TxV):zx:=(mem1 a).push (.cells [Value.int .i64 b.id,.int .i64 b.fee] (.own []) 0)
theorem aez (a b:TxV):ZH (tv b) (mem1 a)=some (.pointer (some ⟨1,0,none⟩),mem2 a b):=by kernel_rfl
theorem YU (a b:TxV):(mem2 a b).get 0=some (.cells [Value.int .i64 a.id,.int .i64 a.fee] (.own []) 0):=by kernel_rfl
theorem Y3 (a b:TxV):(mem2 a b).get 1=some (.cells [Value.int .i64 b.id,.int .i64 b.fee] (.own []) 0):=by kernel_rfl
theorem acJ (a b:TxV):decide (ab1 [acA b.fee a.fee,acA a.id b.id] < 0)=wM a b:=by
 unfold wM
 simp only [ab1,acA]
 by_cases h1:b.fee < a.fee
 ·
  rw [if_neg (show ¬ a.fee=b.fee by omega)];simp [h1]
 ·
  by_cases h2:a.fee < b.fee
  ·
   rw [if_neg (show ¬ a.fee=b.fee by omega)];simp [h1,h2]
  ·
   rw [if_pos (show a.fee=b.fee by omega)]
   simp only [h1,h2,if_false,if_true]
   by_cases h3:a.id < b.id
   ·
    simp [h3]
   ·
    by_cases h4:b.id < a.id
    ·
     simp [h3,h4]
    ·
     simp [h3,h4]
theorem jr.v (a b:TxV) (S:zx):zS zi O jr.id [tv a,tv b] S=some (.bool (wM a b),S):=by
 obtain ⟨T,hTe⟩:∃ T,T=(tv a::tv b::zh::zh::zh::zh::zh::zh::zh::zh::zh::zh::zh::zh::zh::zh::zh::zh::[]):=⟨_,rfl⟩
 have hr:zD zi O false jr.code T zx.empty=zD zi O false jr.code T zx.empty:=rfl
 have l00:=wW (t:=3) (o:=0+0) (YU a b) xR rfl
 have l01:=wW (t:=3) (o:=0+1) (YU a b) xR rfl
 have l10:=wW (t:=3) (o:=0+0) (Y3 a b) xR rfl
 have l11:=wW (t:=3) (o:=0+1) (Y3 a b) xR rfl
 have q0:=Jo (o:=0+0) (YU a b)
 have q1:=Jo (o:=0+0) (Y3 a b)
 have c1:=fun S=>zX.v (l:=[acA b.fee a.fee,acA a.id b.id]) Okl.read (by decide) (by simp) S
 conv at hr =>
  rhs
  rw [hTe]
  simp only [jr.code,jr.rs,zSs,reduceIte,zk,zn,zo,zq,box1,aez,wG,qx,l00,l01,l10,l11,zG.v,XF,aeA,c1,acJ,q0,q1]
 rw [hTe] at hr
 exact jr.runs hr (.inr rfl) rfl rfl
theorem zF.v (a b:TxV) (S:zx):zS zi O zF.id [tv a,tv b] S=some (.bool (wM a b),S):=by
 obtain ⟨T,hTe⟩:∃ T,T=(tv a::tv b::zh::zh::zh::zh::zh::zh::zh::zh::zh::zh::zh::zh::zh::zh::zh::zh::zh::zh::[]):=⟨_,rfl⟩
 have hr:zD zi O false zF.code T zx.empty=zD zi O false zF.code T zx.empty:=rfl
 have l00:=wW (t:=3) (o:=0+0) (YU a b) xR rfl
 have l01:=wW (t:=3) (o:=0+1) (YU a b) xR rfl
 have l10:=wW (t:=3) (o:=0+0) (Y3 a b) xR rfl
 have l11:=wW (t:=3) (o:=0+1) (Y3 a b) xR rfl
 unfold wM
 by_cases h:a.fee=b.fee
 ·
  conv at hr =>
   rhs
   rw [hTe]
   simp only [zF.code,zF.rs,zSs,reduceIte,zk,zn,zo,zq,box1,aez,wG,qx,l00,l01,l10,l11,decide_eq_true h,bne_iff_ne,ne_eq,not_true_eq_false,Bool.not_true]
  rw [if_pos h]
  rw [hTe] at hr
  exact zF.runs hr (.inr rfl) rfl rfl
 ·
  conv at hr =>
   rhs
   rw [hTe]
   simp only [zF.code,zF.rs,zSs,reduceIte,zk,zn,zo,zq,box1,aez,wG,qx,l00,l01,l10,l11,decide_eq_false h,Bool.not_false]
  rw [if_neg h]
  rw [hTe] at hr
  exact zF.runs hr (.inr rfl) rfl rfl
theorem aen (x:tTx.Val) (hg:tTx.Good x):∃ t:TxV,tTx.ZW x=fT t∧t.Ok:=by
 obtain ⟨a,b,u⟩:=x
 obtain ⟨h1,h2,_⟩:=hg
 exact ⟨⟨a,b⟩,rfl,acg h1,acg h2⟩
end Go.Proofs.Ytacbgjhmkhjpoaa
namespace Go.Proofs.Ytacbgjhmkhjpoaa
open Go.Abs
theorem JZ {g:FuncId} {v c:Value} {S:zx}:aeQ (zS zi O) (.func (Fn.func g) #[] #[c]) [v] S=zS zi O g [v,c] S:=rfl
theorem xG (t:TxV):(fT t).length=2:=rfl
theorem X9 (t:TxV):(fT t).all (·.oneCell')=true:=rfl
theorem adK (w:TxV):(fT w).map qA=fT w:=rfl
section
variable {l:List TxV} {p:TxV→Bool} {g:FuncId} {c:Value} {K:zx→Prop}
theorem slices_IndexFunc.aeo {k:Nat} (hv:Okl k l) (hk:k≠2) (hlen:l.length≤17592186044416) (hp:∀ S x,K S→x ∈ l→∃ S1,zS zi O g [tv x,c] S=some (.bool (p x),S1)∧Ext S S1∧S1.log=S.log) (hK:∀ S S1,K S→Ext S S1→K S1):∀ (suf pre:List TxV) {T:List Value} {r:St} {S:zx},yG (zD zi O false slices_IndexFunc.jl) T S=r→T.length=19→K S →
  T.getD 0 zh=vs fT 2 k l→T.getD 1 zh=.func (Fn.func g) #[] #[c]→T.getD 7 zh=.int .i64 l.length→T.getD 8 zh=.int .i64 pre.length→l=pre++suf →
  ∃ e T' S',r=some (e,T',S')∧Ext S S'∧S'.log=S.log∧if suf.any p then e=.ret∧T'.getD 4 zh=.int .i64 (idxFrom p pre.length suf) else e=.exit 0∧T'.length=19:=by
 intro suf
 induction suf with
 | nil =>
  intro pre T r S hL hT hS h0 h1 h7 h8 hl
  have hTe:=slices_IndexFunc.eta hT
  rw [h0,h1,h7,h8] at hTe
  have hr:zD zi O false slices_IndexFunc.jl T S=zD zi O false slices_IndexFunc.jl T S:=rfl
  have hd:¬ (pre.length:Int) < (l.length:Int):=by rw [hl];simp
  conv at hr =>
   rhs
   rw [hTe]
   simp only [slices_IndexFunc.jl,slices_IndexFunc.code,slices_IndexFunc.rs,zSs,reduceIte,zk,zn,zo,zq,hd]
  exact ⟨_,_,_,hL.symm.trans (jO hr (by simp)),Ext.refl _,rfl,rfl,rfl⟩
 | cons x suf ih =>
  intro pre T r S hL hT hS h0 h1 h7 h8 hl
  have hTe:=slices_IndexFunc.eta hT
  rw [h0,h1,h7,h8] at hTe
  have hr:zD zi O false slices_IndexFunc.jl T S=zD zi O false slices_IndexFunc.jl T S:=rfl
  have hd:(pre.length:Int) < (l.length:Int):=by rw [hl];simp;omega
  have e1:∀ S,zZ zi 23 (vs fT 2 k l) (.int .i64 pre.length) S=some (EP (fT x),S):=fun S=>by
   rw [adh ji jM xG hv (by omega) hd,acu hl]
  have l1:∀ S,jd zi false 30 (EP (fT x)) S=some (tv x,S):=fun S=>YH ZJ jM rfl
  have wi:IntKind.i64.wrap ((pre.length:Int)+1)=((pre++[x]).length:Int):=by rw [wrap_i64 (by omega) (by omega)];simp
  obtain ⟨S1,p1,x1,g1⟩:=hp S x hS (by rw [hl];simp)
  rw [List.any_cons,idxFrom]
  cases hx:p x with
  | true =>
   rw [hx] at p1
   conv at hr =>
    rhs
    rw [hTe]
    simp only [slices_IndexFunc.jl,slices_IndexFunc.code,slices_IndexFunc.rs,zSs,reduceIte,zk,zn,zo,zq,qW,JZ,if_neg hk,hd,e1,l1,p1]
   refine ⟨_,_,_,hL.symm.trans (jO hr (by simp)),x1,g1,?_⟩
   rw [Bool.true_or]
   exact ⟨rfl,rfl⟩
  | false =>
   rw [hx] at p1
   conv at hr =>
    rhs
    rw [hTe]
    simp only [slices_IndexFunc.jl,slices_IndexFunc.code,slices_IndexFunc.rs,zSs,reduceIte,zk,zn,zo,zq,qW,JZ,if_neg hk,hd,e1,l1,p1,wi]
   obtain ⟨e,T',S',q1,q2,q3,q4⟩:=ih (pre++[x]) ((wL hr).symm.trans hL) rfl (hK _ _ hS x1) rfl rfl rfl rfl (by simp [hl])
   refine ⟨e,T',S',q1,x1.trans q2,q3.trans g1,?_⟩
   rw [Bool.false_or]
   rw [show (((pre++[x]).length:Nat):Int)=(pre.length:Int)+1 by simp] at q4
   exact q4
theorem slices_IndexFunc.vC {k:Nat} (hv:Okl k l) (hk:k≠2) (hlen:l.length≤17592186044416) (hp:∀ S x,K S→x ∈ l→∃ S1,zS zi O g [tv x,c] S=some (.bool (p x),S1)∧Ext S S1∧S1.log=S.log) (hK:∀ S S1,K S→Ext S S1→K S1) {S:zx} (hS:K S) :
  ∃ S1,zS zi O slices_IndexFunc.id [vs fT 2 k l,.func (Fn.func g) #[] #[c]] S=some (.int .i64 (idxFrom p 0 l),S1)∧Ext S S1∧S1.log=S.log:=by
 obtain ⟨T,hTe⟩:∃ T,T=(vs fT 2 k l::.func (Fn.func g) #[] #[c]::zh::zh::zh::zh::zh::zh::zh::zh::zh::zh::zh::zh::zh::zh::zh::zh::zh::[]):=⟨_,rfl⟩
 have hr:zD zi O false slices_IndexFunc.code T S=zD zi O false slices_IndexFunc.code T S:=rfl
 have ln:=fun S=>V4 (P:=zi) (t:=23) (f:=fT) (e:=2) (S:=S) ji hv
 conv at hr =>
  rhs
  rw [hTe]
  simp only [slices_IndexFunc.code,slices_IndexFunc.rs,zSs,reduceIte,zk,zn,zo,zq,qW,if_neg hk,ln,goInt]
 generalize hL:yG (zD zi O false slices_IndexFunc.jl) _ _=r at hr
 obtain ⟨e,T',S',rfl,x1,g1,q⟩:=slices_IndexFunc.aeo hv hk hlen hp hK l [] hL rfl hS rfl rfl rfl rfl rfl
 cases h:l.any p with
 | true =>
  rw [h] at q
  obtain ⟨rfl,g2⟩:=q
  conv at hr =>
   rhs
   simp only [zSs,reduceIte,zk,zn,zo,zq]
  rw [hTe] at hr
  have hrun:=slices_IndexFunc.runs hr (.inr rfl)
  rw [g2] at hrun
  exact ⟨_,hrun,x1,g1⟩
 | false =>
  rw [h] at q
  obtain ⟨rfl,g2⟩:=q
  have hTe':=slices_IndexFunc.eta g2
  conv at hr =>
   rhs
   rw [hTe']
   simp only [slices_IndexFunc.code,slices_IndexFunc.rs,zSs,reduceIte,zk,zn,zo,zq]
  rw [hTe] at hr
  rw [ZL h]
  exact ⟨_,slices_IndexFunc.runs hr (.inr rfl),x1,g1⟩
end
end Go.Proofs.Ytacbgjhmkhjpoaa
namespace Go.Abs
variable {P:Program} {t:TypeId} {xs ys:Array Value} {d:Nat}
theorem Zl (P:Program):jH P program=some P:=rfl
def FEq (P:Program) (d:Nat) (xs ys:Array Value):List Field→List Bool→Prop
 | [],[]=>True
 | f::fs,b::bs=>(f.name≠ "_"∧∃ v w,jH P (part f.type xs f.offset)=some v∧jH P (part f.type ys f.offset)=some w∧jH P (Op.equalIn d f.type v w)=some b)∧FEq P d xs ys fs bs
 | _,_=>False
theorem Vl {fs:List Field} (hu:P.underlying t=some (.struct fs.toArray)) (hs:P.stoodInHeld t=false) {bs:List Bool} (h:FEq P d xs ys fs bs):jH P (Op.equalIn (d+1) t (.agg xs) (.agg ys))=some (bs.all id):=by
 rw [Op.equalIn]
 simp only [jW,vI hu,Option.bind_some,Zl,hs,Bool.false_eq_true,if_false,List.forIn_toArray]
 clear hu hs
 induction fs generalizing bs with
 | nil =>
  cases bs with
  | nil=>rfl
  | cons b bs=>exact absurd h id
 | cons f fs ih =>
  cases bs with
  | nil=>exact absurd h id
  | cons b bs =>
   obtain ⟨⟨h1,v,w,h2,h3,h4⟩,h5⟩:=h
   rw [List.forIn_cons]
   simp only [jW,if_pos h1,h2,h3,h4,Option.bind_some]
   cases b with
   | true =>
    simp only [Bool.not_true,Bool.false_eq_true,if_false,jf,Option.bind_some,List.all_cons,id,Bool.true_and]
    exact ih h5
   | false =>
    simp only [Bool.not_false,if_true,jf,Option.bind_some,List.all_cons,id,Bool.false_and]
theorem Xi {fs:List Field} {S:zx} (hu:P.underlying t=some (.struct fs.toArray)) (hs:P.stoodInHeld t=false) (hg:P.eqGuardType P.depth t=false) {bs:List Bool} (h:FEq P 9999 xs ys fs bs)
  (gx:ground (.agg xs)=true) (gy:ground (.agg ys)=true):wX P .eql t (.agg xs) (.agg ys) S=some (.bool (bs.all id),S)∧wX P .neq t (.agg xs) (.agg ys) S=some (.bool (!bs.all id),S):=by
 rw [KG,KG]
 have e:jH P (Op.equal t (.agg xs) (.agg ys))=some (bs.all id):=Vl hu hs h
 have g:jH P (eqGuard .eql t (.tmp 0) (.tmp 0) (.agg xs) (.agg ys))=some ():=by
  unfold eqGuard
  simp only [Bool.not_true,Bool.false_eq_true,if_false,jW,Zl,Option.bind_some,hg,Bool.not_false,if_true]
  rfl
 have g':jH P (eqGuard .neq t (.tmp 0) (.tmp 0) (.agg xs) (.agg ys))=some ():=by
  unfold eqGuard
  simp only [Bool.not_true,Bool.false_eq_true,if_false,jW,Zl,Option.bind_some,hg,Bool.not_false,if_true]
  rfl
 have ha:[Value.agg xs,.agg ys].all ground=true:=by simp [gx,gy]
 constructor
 ·
  unfold xC yC
  simp only [hu]
  show jv P [Value.agg xs,.agg ys] _ S=_
  refine jh ha ?_ rfl
  simp only [jW,g,Option.bind_some]
  unfold binOp
  simp only [jW,e,Option.bind_some,jf]
 ·
  unfold xC yC
  simp only [hu]
  show jv P [Value.agg xs,.agg ys] _ S=_
  refine jh ha ?_ rfl
  simp only [jW,g',Option.bind_some]
  unfold binOp
  simp only [jW,e,Option.bind_some,jf]
end Go.Abs
namespace Go.Proofs.Ytacbgjhmkhjpoaa
open Go.Abs
abbrev tl (k:Nat) (l:List TxV):Value:=vs fT 2 k l
theorem xw {k:Nat} {l:List TxV} {S:zx} (h:Okl k l):vg zi 23 (tl k l) S=some (.int .i64 l.length,S):=V4 ji h
theorem Yq {k:Nat} {l pre suf:List TxV} {t:TxV} {S:zx} (h:Okl k l) (hl:l=pre++t::suf):zZ zi 23 (tl k l) (.int .i64 pre.length) S=some (EP [.int .i64 t.id,.int .i64 t.fee],S):=by
 have h1:(pre.length:Int) < (l.length:Int):=by rw [hl];simp;omega
 rw [adh ji jM xG h (by omega) h1,acu hl];rfl
theorem ac2 {k:Nat} {l:List TxV} {t:TxV} {S:zx} (h:Okl k l) (hk:k≠1) (hl:l.length≤8796093022000):kM zi 23 23 (tl k l) (tl 2 [t]) S=some (tl 2 (l++[t]),S):=by
 rw [Vz ji jM abK rfl abh (by omega) ji xG X9 h hk Okl.own (by simp;omega) (by simp;omega),if_neg (fun h=>by have:=h.2;simp at this)]
theorem acL (S:zx):ku zi 30 S=some (.pointer (some ⟨S.next,0,none⟩),S.push (.cells (fT ⟨0,0⟩) (.own []) 0)):=by kernel_rfl
theorem adn (S:zx) (t:TxV):∃ S2,kQ zi 30 (.pointer (some ⟨S.next,0,none⟩)) (tv t) (S.push (.cells (fT ⟨0,0⟩) (.own []) 0))=some (zh,S2)∧S2.get S.next=some (.cells (fT t) (.own []) 0)∧Ext S S2∧S.next < S2.next :=
 VA S (by rw [vV,List.toList_toArray];rfl) jM rfl rfl
theorem xH {S:zx} {q:Nat} {t:TxV} (h:S.get q=some (.cells (fT t) (.own []) 0)):jd zi false 30 (.pointer (some ⟨q,0,none⟩)) S=some (tv t,S):=Va h
theorem Y4 {S:zx} {q:Nat} {t:TxV} (h:S.get q=some (.cells (fT t) (.own []) 0)):jd zi false 3 (.pointer (some ⟨q,0+0,none⟩)) S=some (.int .i64 t.id,S):=wW (t:=3) (o:=0+0) h xR rfl
theorem TxV.ext_iff' {t u:TxV}:t=u ↔ t.id=u.id∧t.fee=u.fee:=by cases t;cases u;simp
theorem ad8 (t u:TxV) (S:zx):wX zi .eql 30 (tv t) (tv u) S=some (.bool (decide (t=u)),S)∧wX zi .neq 30 (tv t) (tv u) S=some (.bool (!decide (t=u)),S):=by
 have h:=Xi (S:=S) (xs:=#[Value.int .i64 t.id,.int .i64 t.fee]) (ys:=#[Value.int .i64 u.id,.int .i64 u.fee]) (bs:=[t.id == u.id,t.fee == u.fee]) abn (by kernel_rfl) (by kernel_rfl)
  ⟨⟨by decide,.int .i64 t.id,.int .i64 u.id,by kernel_rfl,by kernel_rfl,by kernel_rfl⟩,⟨by decide,.int .i64 t.fee,.int .i64 u.fee,by kernel_rfl,by kernel_rfl,by kernel_rfl⟩,trivial⟩ rfl rfl
 have e:[t.id == u.id,t.fee == u.fee].all id=decide (t=u):=by
  rw [Bool.eq_iff_iff]
  simp [TxV.ext_iff']
 rw [e] at h
 exact h
theorem zy.round {k j:Nat} {a b:List TxV} (hk:Okl k a) (hj:Okl j b) (k2:k≠2) (j2:j≠2) (hab:a.length=b.length) (hlen:a.length≤17592186044416) {S:zx}:∀ (sa sb pa pb:List TxV) {T:List Value} {r:St},yG (zD zi O false zy.jl) T S=r→T.length=26 →
  T.getD 0 zh=tl k a→T.getD 1 zh=tl j b→T.getD 12 zh=.int .i64 a.length→T.getD 13 zh=.int .i64 pa.length→a=pa++sa→b=pb++sb→pa.length=pb.length→pa=pb →
  ∃ e T',r=some (e,T',S)∧if a=b then e=.exit 0∧T'.length=26 else e=.ret∧T'.getD 4 zh=.bool false:=by
 intro sa
 induction sa with
 | nil =>
  intro sb pa pb T r hL hT h0 h1 h12 h13 ha hb hp hpp
  have hTe:=zy.eta hT
  rw [h0,h1,h12,h13] at hTe
  have hr:zD zi O false zy.jl T S=zD zi O false zy.jl T S:=rfl
  have hd:¬ (pa.length:Int) < (a.length:Int):=by rw [ha];simp
  conv at hr =>
   rhs
   rw [hTe]
   simp only [zy.jl,zy.code,zy.rs,zSs,reduceIte,zk,zn,zo,zq,hd]
  have hsb:sb=[]:=by rw [ha,hb] at hab;simp [hp] at hab;exact hab
  refine ⟨_,_,hL.symm.trans (jO hr (by simp)),?_⟩
  rw [if_pos (by rw [ha,hb,hsb,hpp])]
  exact ⟨rfl,rfl⟩
 | cons x sa ih =>
  intro sb pa pb T r hL hT h0 h1 h12 h13 ha hb hp hpp
  have hTe:=zy.eta hT
  rw [h0,h1,h12,h13] at hTe
  have hr:zD zi O false zy.jl T S=zD zi O false zy.jl T S:=rfl
  have hd:(pa.length:Int) < (a.length:Int):=by rw [ha];simp;omega
  cases sb with
  | nil=>rw [ha,hb] at hab;simp [hp] at hab
  | cons y sb =>
   have e1:=fun S=>Yq (S:=S) hk ha
   have e2:∀ S,zZ zi 23 (tl j b) (.int .i64 pa.length) S=some (EP [.int .i64 y.id,.int .i64 y.fee],S):=fun S=>by rw [hp];exact Yq hj hb
   have wi:IntKind.i64.wrap ((pa.length:Int)+1)=((pa++[x]).length:Int):=by rw [wrap_i64 (by omega) (by omega)];simp
   have q:∀ S,wX zi .neq 30 (.agg [Value.int .i64 x.id,.int .i64 x.fee].toArray) (.agg [Value.int .i64 y.id,.int .i64 y.fee].toArray) S=some (.bool (!decide (x=y)),S):=fun S=>(ad8 x y S).2
   by_cases hxy:x=y
   ·
    conv at hr =>
     rhs
     rw [hTe]
     simp only [zy.jl,zy.code,zy.rs,zSs,reduceIte,zk,zn,zo,zq,hd,if_neg k2,if_neg j2,e1,e2,kG,q,decide_eq_true hxy,wi]
    subst hxy
    exact ih sb (pa++[x]) (pb++[x]) ((wL hr).symm.trans hL) rfl rfl rfl rfl rfl (by simp [ha]) (by simp [hb]) (by simp [hp]) (by rw [hpp])
   ·
    conv at hr =>
     rhs
     rw [hTe]
     simp only [zy.jl,zy.code,zy.rs,zSs,reduceIte,zk,zn,zo,zq,hd,if_neg k2,if_neg j2,e1,e2,kG,q,decide_eq_false hxy]
    refine ⟨_,_,hL.symm.trans (jO hr (by simp)),?_⟩
    rw [if_neg (by rw [ha,hb,hpp];simp [hxy])]
    exact ⟨rfl,rfl⟩
theorem zy.v {k j:Nat} {a b:List TxV} (hk:Okl k a) (hj:Okl j b) (k2:k≠2) (j2:j≠2) (hlen:a.length≤17592186044416) (S:zx):zS zi O zy.id [tl k a,tl j b] S=some (.bool (decide (a=b)),S):=by
 obtain ⟨T,hTe⟩:∃ T,T=(tl k a::tl j b::zh::zh::zh::zh::zh::zh::zh::zh::zh::zh::zh::zh::zh::zh::zh::zh::zh::zh::zh::zh::zh::zh::zh::zh::[]):=⟨_,rfl⟩
 have hr:zD zi O false zy.code T S=zD zi O false zy.code T S:=rfl
 by_cases hab:a.length=b.length
 ·
  have d1:¬ (a.length:Int)≠(b.length:Int):=by omega
  conv at hr =>
   rhs
   rw [hTe]
   simp only [zy.code,zy.rs,zSs,reduceIte,zk,zn,zo,zq,if_neg k2,if_neg j2,xw hk,xw hj,hab]
  rw [← hab] at hr
  generalize hL:yG (zD zi O false zy.jl) _ _=r at hr
  obtain ⟨e,T',rfl,g⟩:=zy.round hk hj k2 j2 hab hlen a b [] [] hL rfl rfl rfl rfl rfl rfl rfl rfl rfl
  by_cases h:a=b
  ·
   rw [if_pos h] at g
   obtain ⟨rfl,g2⟩:=g
   have hTe':=zy.eta g2
   conv at hr =>
    rhs
    rw [hTe']
    simp only [zy.code,zy.rs,zSs,reduceIte,zk,zn,zo,zq]
   rw [hTe] at hr
   rw [decide_eq_true h]
   exact zy.runs hr (.inr rfl)
  ·
   rw [if_neg h] at g
   obtain ⟨rfl,g2⟩:=g
   conv at hr =>
    rhs
    simp only [zSs,reduceIte,zk,zn,zo,zq]
   rw [hTe] at hr
   have hrun:=zy.runs hr (.inr rfl)
   rw [g2] at hrun
   rw [decide_eq_false h]
   exact hrun
 ·
  have d1:¬ (a.length:Int)=(b.length:Int):=by omega
  conv at hr =>
   rhs
   rw [hTe]
   simp only [zy.code,zy.rs,zSs,reduceIte,zk,zn,zo,zq,if_neg k2,if_neg j2,xw hk,xw hj,d1]
  rw [hTe] at hr
  rw [decide_eq_false (fun h:a=b=>hab (by rw [h]))]
  exact zy.runs hr (.inr rfl)
theorem abR (t:TxV) (S:zx):∃ S2,ZH (tv t) S=some (.pointer (some ⟨S.next,0,none⟩),S2)∧S2.get S.next=some (.cells (fT t) (.own []) 0)∧Ext S S2∧S.next < S2.next:=ab5 (tv t) S
theorem adM (x:(Ty.slc 16 tTx).Val) (hg:(Ty.slc 16 tTx).Good x):∃ k l,Okl k l∧k≠2∧(Ty.slc 16 tTx).ZW x=[tl k l]∧l.length * 16≤140737488351232∧∀ t ∈ l,t.Ok :=
 aec (b:=16) fT TxV.Ok aen xG x hg
end Go.Proofs.Ytacbgjhmkhjpoaa
namespace Go.Proofs.Ytacbgjhmkhjpoaa
open Go.Abs
structure Pm (S:zx) (q:Nat) (l:List TxV) (fp:List Nat):Prop where
 lt:q < S.next
 len:l.length≤16
 cell:∃ a,S.get q=some (.cells [.slice a l.length l.length] (.own []) 0)∧kR fT 2 S a l fp
section
variable {S:zx} {q:Nat} {l:List TxV} {fp:List Nat}
theorem Pm.acY (h:Pm S q l fp):q ∉ fp:=by
 obtain ⟨a,h1,h2⟩:=h.cell
 exact h2.acY h1
theorem Pm.flt (h:Pm S q l fp):∀ x ∈ fp,x < S.next:=by
 obtain ⟨a,h1,h2⟩:=h.cell
 exact h2.lt
theorem Pm.ext {S1:zx} (h:Pm S q l fp) (k:Ext S S1):Pm S1 q l fp:=by
 obtain ⟨a,h1,h2⟩:=h.cell
 exact ⟨Nat.lt_of_lt_of_le h.lt k.next,h.len,a,by rw [k.get q h.lt];exact h1,h2.ext k⟩
def YD (q:Nat) (S S1:zx):Prop:=S.next≤S1.next∧∀ p cs own,p≠q→p < S.next→S.get p=some (.cells cs own 0)→S1.get p=S.get p
theorem YD.refl (q:Nat) (S:zx):YD q S S:=⟨Nat.le_refl _,fun _ _ _ _ _ _=>rfl⟩
theorem YD.trans {S1 S2:zx} (h:YD q S S1) (k:YD q S1 S2):YD q S S2:=⟨Nat.le_trans h.1 k.1,fun p cs own hp hl hg=>by
 have h1:=h.2 p cs own hp hl hg
 rw [k.2 p cs own hp (Nat.lt_of_lt_of_le hl h.1) (h1.trans hg),h1]⟩
theorem YD.ext {S1:zx} (h:Ext S S1):YD q S S1:=⟨h.next,fun p _ _ _ hl _=>h.get p hl⟩
theorem zY.v (S:zx):∃ S1,zS zi O zY.id [] S=some (.pointer (some ⟨S.next,0,none⟩),S1)∧Pm S1 S.next [] []∧Ext S S1:=by
 obtain ⟨T,hTe⟩:∃ T,T=(zh::zh::zh::[]):=⟨_,rfl⟩
 have hr:zD zi O false zY.code T S=zD zi O false zY.code T S:=rfl
 have bd:∀ S,wS zi 49 [] S=some (.agg [.slice none 0 0].toArray,S):=fun S=>by kernel_rfl
 obtain ⟨S1,b1,b2,b3,b4⟩:=ab5 (.agg [.slice none 0 0].toArray) S
 conv at hr =>
  rhs
  rw [hTe]
  simp only [zY.code,zY.rs,zSs,reduceIte,zk,zn,zo,zq,bd,b1]
 rw [hTe] at hr
 exact ⟨_,zY.runs hr (.inr rfl),⟨b4,by simp,none,b2,.inl ⟨rfl,rfl,rfl⟩⟩,b3⟩
theorem zL.v {c:Nat} {t:TxV} (x:TxV) {S:zx} (hc:S.get c=some (.cells (fT t) (.own []) 0)) (hl:c < S.next):∃ S1,zS zi O zL.id [tv x,.pointer (some ⟨c,0,none⟩)] S=some (.bool (decide (x.id=t.id)),S1)∧Ext S S1∧S1.log=S.log:=by
 obtain ⟨T,hTe⟩:∃ T,T=(tv x::.pointer (some ⟨c,0,none⟩)::zh::zh::zh::zh::zh::zh::zh::[]):=⟨_,rfl⟩
 have hr:zD zi O false zL.code T S=zD zi O false zL.code T S:=rfl
 have b1:ZH (tv x) S=some (.pointer (some ⟨S.next,0,none⟩),S.push (.cells (fT x) (.own []) 0)):=rfl
 have g1:(S.push (.cells (fT x) (.own []) 0)).get S.next=some (.cells (fT x) (.own []) 0):=by rw [zx.zQ,if_pos rfl]
 have g2:(S.push (.cells (fT x) (.own []) 0)).get c=some (.cells (fT t) (.own []) 0):=by rw [zx.zQ,if_neg (by omega)];exact hc
 refine ⟨S.push (.cells (fT x) (.own []) 0),?_,Ext.push _ _,rfl⟩
 ·
  conv at hr =>
   rhs
   rw [hTe]
   simp only [zL.code,zL.rs,zSs,reduceIte,zk,zn,zo,zq,b1,wG,Y4 g1,Y4 g2]
  rw [hTe] at hr
  exact zL.runs hr (.inr rfl)
theorem zK.v {c:Nat} {t:TxV} (x:TxV) {S:zx} (hc:S.get c=some (.cells (fT t) (.own []) 0)) (hl:c < S.next):∃ S1,zS zi O zK.id [tv x,.pointer (some ⟨c,0,none⟩)] S=some (.bool (wM t x),S1)∧Ext S S1∧S1.log=S.log:=by
 obtain ⟨T,hTe⟩:∃ T,T=(tv x::.pointer (some ⟨c,0,none⟩)::zh::zh::zh::zh::zh::[]):=⟨_,rfl⟩
 have hr:zD zi O false zK.code T S=zD zi O false zK.code T S:=rfl
 have b1:ZH (tv x) S=some (.pointer (some ⟨S.next,0,none⟩),S.push (.cells (fT x) (.own []) 0)):=rfl
 have g1:(S.push (.cells (fT x) (.own []) 0)).get S.next=some (.cells (fT x) (.own []) 0):=by rw [zx.zQ,if_pos rfl]
 have g2:(S.push (.cells (fT x) (.own []) 0)).get c=some (.cells (fT t) (.own []) 0):=by rw [zx.zQ,if_neg (by omega)];exact hc
 have c1:=fun S=>jr.v t x S
 refine ⟨S.push (.cells (fT x) (.own []) 0),?_,Ext.push _ _,rfl⟩
 ·
  conv at hr =>
   rhs
   rw [hTe]
   simp only [zK.code,zK.rs,zSs,reduceIte,zk,zn,zo,zq,b1,xH g1,xH g2,c1]
  rw [hTe] at hr
  exact zK.runs hr (.inr rfl)
theorem Ky {α:Type} {p:α→Bool}:∀ (l:List α) (i:Int),idxFrom p i l=if l.any p then i+(l.findIdx p:Int) else -1:=by
 intro l
 induction l with
 | nil=>intro i;rfl
 | cons x l ih =>
  intro i
  rw [idxFrom,List.any_cons,List.findIdx_cons]
  cases hx:p x with
  | true=>simp
  | false =>
   rw [if_neg (by decide),ih,Bool.false_or]
   by_cases h:l.any p=true
   ·
    rw [if_pos h,if_pos h];simp;omega
   ·
    rw [if_neg h,if_neg h]
theorem abD {α:Type} {p:α→Bool} {l:List α} (h:l.any p=false):l.findIdx p=l.length:=by
 rw [List.findIdx_eq_length]
 intro x hx
 rw [List.any_eq_false] at h
 simpa using h x hx
section
variable {p:TxV→Bool} {g:FuncId} {c:Value} {K:zx→Prop}
theorem slices_ContainsFunc.vC {k:Nat} (hv:Okl k l) (hk:k≠2) (hlen:l.length≤17592186044416) (hp:∀ S x,K S→x ∈ l→∃ S1,zS zi O g [tv x,c] S=some (.bool (p x),S1)∧Ext S S1∧S1.log=S.log) (hK:∀ S S1,K S→Ext S S1→K S1) {S:zx} (hS:K S) :
  ∃ S1,zS zi O slices_ContainsFunc.id [vs fT 2 k l,.func (Fn.func g) #[] #[c]] S=some (.bool (l.any p),S1)∧Ext S S1∧S1.log=S.log:=by
 obtain ⟨T,hTe⟩:∃ T,T=(vs fT 2 k l::.func (Fn.func g) #[] #[c]::zh::zh::zh::zh::zh::zh::zh::[]):=⟨_,rfl⟩
 have hr:zD zi O false slices_ContainsFunc.code T S=zD zi O false slices_ContainsFunc.code T S:=rfl
 obtain ⟨S1,c1,x1,g1⟩:=slices_IndexFunc.vC hv hk hlen hp hK hS
 rw [Ky] at c1
 cases h:l.any p with
 | true =>
  rw [h,if_pos rfl] at c1
  have d1:(0:Int)≤0+(l.findIdx p:Int):=by omega
  refine ⟨S1,?_,x1,g1⟩
  ·
   conv at hr =>
    rhs
    rw [hTe]
    simp only [slices_ContainsFunc.code,slices_ContainsFunc.rs,zSs,reduceIte,zk,zn,zo,zq,qW,if_neg hk,c1,decide_eq_true d1]
   rw [hTe] at hr
   exact slices_ContainsFunc.runs hr (.inr rfl)
 | false =>
  rw [h,if_neg (by decide)] at c1
  have d1:¬ (0:Int)≤-1:=by decide
  refine ⟨S1,?_,x1,g1⟩
  ·
   conv at hr =>
    rhs
    rw [hTe]
    simp only [slices_ContainsFunc.code,slices_ContainsFunc.rs,zSs,reduceIte,zk,zn,zo,zq,qW,if_neg hk,c1,decide_eq_false d1]
   rw [hTe] at hr
   exact slices_ContainsFunc.runs hr (.inr rfl)
theorem adJ {X:FuncId} {v:Value} (hv:ground v=true) (hX:∀ {k:Nat} {S:zx},Okl k l→k≠2→K S→∃ S1,zS zi O X [vs fT 2 k l,.func (Fn.func g) #[] #[c]] S=some (v,S1)∧Ext S S1∧S1.log=S.log) (hK:∀ S S1,K S→Fr fp S S1→K S1)
  {a:Option Addr} (hA:kR fT 2 S a l fp) (hS:K S):∃ S1,Jt (zS zi O) X [.slice a l.length l.length,.func (Fn.func g) #[] #[c]] S=some (v,S1)∧Ext S S1:=by
 rcases hA with ⟨rfl,rfl,rfl⟩ | ⟨r,anc,rest,rfl,rfl,hg,hx⟩
 ·
  obtain ⟨S1,q1,q2,q3⟩:=hX (k:=0) Okl.none (by decide) hS
  exact ⟨S1,aeb q1 (by rfl),q2⟩
 ·
  have hf:=VJ (f:=fT) (e:=2) (q:=r) (l:=l) (rest:=rest) (anc:=anc) (S:=S) xG hg
  obtain ⟨S1,q1,q2,q3⟩:=hX (k:=1) Okl.read (by decide) (hK S (S.set r .dead) hS ((Fr.refl _ _).set (.inl (by simp)) _))
  exact ⟨S,XT (Vw hf (by rfl)) q1 (by rfl) hv q3,Ext.refl _⟩
end
theorem kR.insert {a:Option Addr} {x:TxV} {i v:Nat} (hA:kR fT 2 S a l fp) (hv:S.get v=some (.cells (fT x) (.own []) 2)) (hn:v ∉ fp) (hi:i≤l.length) (hl:l.length≤16) :
  ∃ S1,Qh [.slice a l.length l.length,.int .i64 i,.slice (some ⟨v,0,none⟩) 1 1] S=some (.slice (some ⟨S.next,0,none⟩) (l.length+1) (l.length+1),S1)∧kR fT 2 S1 (some ⟨S.next,0,none⟩) (l.take i++x::l.drop i) [S.next]∧Fr fp S S1∧S1.next=S.next+1:=by
 have src:(((fT x).drop 0).take (1 * 2))=fT x:=rfl
 have cond:∀ n:Nat,n≤16→i≤n→(0 < 1∧0+1 * 2≤(fT x).length∧(0:Int)≤i∧(i:Int).toNat≤n∧n+1≤1048576∧(((fT x).drop 0).take (1 * 2)).all (·.oneCell')=true):=fun n hn hin=>⟨by decide,show 2≤2 from Nat.le_refl 2,by omega,by omega,by omega,rfl⟩
 rcases hA with ⟨rfl,rfl,rfl⟩ | ⟨r,anc,rest,rfl,rfl,hg,hx⟩
 ·
  have hi0:i=0:=by simpa using hi
  subst hi0
  refine ⟨S.push (.cells (fT x) (.own []) 2),?_,.inr ⟨S.next,[],[],rfl,rfl,by rw [zx.zQ,if_pos rfl];rfl,fun y hy=>?_⟩,(Fr.refl _ _).push _,by simp⟩
  ·
   simp only [Qh,hv]
   rw [if_pos (cond ([]:List TxV).length (by simp) (by simp))]
   rfl
  ·
   simp only [List.mem_singleton] at hy
   subst hy
   refine ⟨by simp,fun cs own=>?_⟩
   rw [zx.zQ,if_pos rfl]
   intro hx;simp at hx
 ·
  have hne:r≠v:=fun e=>hn (by simp [e])
  have hlen:(l.flatMap fT).length=l.length * 2:=jB xG l
  have hX:((l.flatMap fT++rest).drop 0).take (l.length * 2)=l.flatMap fT:=by rw [List.drop_zero,← hlen,List.take_left]
  have hone:(l.flatMap fT).all (·.oneCell')=true:=by
   rw [List.all_flatMap,List.all_eq_true]
   exact fun x _=>X9 x
  have hall:(l.flatMap fT).take (i * 2)++(fT x++(l.flatMap fT).drop (i * 2))=(l.take i++x::l.drop i).flatMap fT:=by
   rw [Zz xG,Zx xG,List.flatMap_append,List.flatMap_cons]
  refine ⟨((S.kills anc).set r .dead).push (.cells ((l.take i++x::l.drop i).flatMap fT) (.own []) 2),?_,.inr ⟨S.next,[],[],rfl,rfl,by rw [zx.zQ,zx.qV,zx.qj,if_pos rfl,List.append_nil],fun y hy=>?_⟩,(((Fr.refl _ _).kills (fun y hy=>.inl (by simp [hy]))).set (.inl (by simp)) _).push _,by simp⟩
  ·
   simp only [Qh,hv]
   rw [if_pos (cond l.length hl hi)]
   simp only [hg]
   rw [if_pos ⟨hne,by rw [List.length_append,hlen];omega,by rw [hX];exact hone⟩,hX,Int.toNat_natCast,src,hall]
  ·
   simp only [List.mem_singleton] at hy
   subst hy
   refine ⟨by simp,fun cs own=>?_⟩
   rw [zx.zQ,zx.qV,zx.qj,if_pos rfl]
   intro hx;simp at hx
end
end Go.Proofs.Ytacbgjhmkhjpoaa
namespace Go.Proofs.Ytacbgjhmkhjpoaa
open Go.Abs
section
variable {S:zx} {q:Nat} {l:List TxV} {fp:List Nat}
def Za (l:List TxV) (t:TxV):Nat:=l.findIdx (wM t)
def Qg (l:List TxV) (t:TxV):Bool:=l.any fun x=>decide (x.id=t.id)
def aaO (l:List TxV) (t:TxV):List TxV:=(l.take (Za l t)++t::l.drop (Za l t)).take 16
def xg (l:List TxV) (t:TxV):Int×List TxV:=if xX t then if Qg l t then (91,l) else if Za l t=16 then (91,l) else (0,aaO l t) else (61,l)
theorem Qw (l:List TxV) (t:TxV):Za l t≤l.length:=List.findIdx_le_length
theorem KI (h:l.length≤16) (t:TxV):(aaO l t).length=min (l.length+1) 16:=by
 have:=Qw l t
 simp only [aaO,List.length_take,List.length_append,List.length_cons,List.length_drop]
 omega
theorem zB.v (h:Pm S q l fp) (t:TxV):∃ S1 fp',zS zi O zB.id [.pointer (some ⟨q,0,none⟩),tv t] S=some (.int .i64 (xg l t).1,S1)∧Pm S1 q (xg l t).2 fp'∧(∀ x ∈ fp',x ∈ fp∨S.next≤x)∧Fr (q::fp) S S1:=by
 obtain ⟨T,hTe⟩:∃ T,T=(.pointer (some ⟨q,0,none⟩)::tv t::zh::zh::zh::zh::zh::zh::zh::zh::zh::zh::zh::zh::zh::zh::zh::zh::zh::zh::zh::zh::zh::zh::zh::zh::zh::zh::zh::zh::zh::zh::zh::zh::zh::zh::zh::zh::zh::zh::zh::zh::zh::zh::zh::zh::zh::zh::zh::zh::zh::zh::zh::zh::zh::[]):=⟨_,rfl⟩
 have hr:zD zi O true zB.code T S=zD zi O true zB.code T S:=rfl
 obtain ⟨S0,b1,b2,b3,b4⟩:=abR t S
 have h0:=h.ext b3
 have c1:Jt (zS zi O) 22 [tv t] S0=some (.bool (xX t),S0):=aeb (jE.v t S0) (by rfl)
 have ld:=xH b2
 cases hR:xX t with
 | false =>
  rw [hR] at c1
  refine ⟨S0,fp,?_,by unfold xg;rw [hR];exact h0,fun x hx=>.inl hx,Fr.ext b3⟩
  unfold xg
  rw [hR]
  conv at hr =>
   rhs
   rw [hTe]
   simp only [zB.code,zB.rs,zSs,reduceIte,zk,zn,zo,zq,b1,ld,c1]
  rw [hTe] at hr
  exact zB.runs hr (.inr rfl)
 | true =>
  rw [hR] at c1
  obtain ⟨a,g0,hA⟩:=h0.cell
  have hcn:S.next ∉ fp:=fun hx=>by have:=h.flt _ hx;omega
  have hqc:q≠S.next:=by have:=h.lt;omega
  have hKF:∀ S1 S2:zx,(S1.get S.next=some (.cells (fT t) (.own []) 0)∧S.next < S1.next)→Fr fp S1 S2→(S2.get S.next=some (.cells (fT t) (.own []) 0)∧S.next < S2.next):=fun S1 S2 hK hF=>⟨by rw [hF.2 _ hK.2 hcn];exact hK.1,Nat.lt_of_lt_of_le hK.2 hF.1⟩
  have hKE:∀ S1 S2:zx,(S1.get S.next=some (.cells (fT t) (.own []) 0)∧S.next < S1.next)→Ext S1 S2→(S2.get S.next=some (.cells (fT t) (.own []) 0)∧S.next < S2.next):=fun S1 S2 hK hF=>hKF S1 S2 hK (Fr.ext hF)
  have hll:l.length≤17592186044416:=by have:=h.len;omega
  obtain ⟨S1,c2,x1⟩:=adJ (l:=l) (g:=24) (c:=.pointer (some ⟨S.next,0,none⟩)) (K:=fun S1=>S1.get S.next=some (.cells (fT t) (.own []) 0)∧S.next < S1.next) (X:=23) (v:=.bool (Qg l t)) (by rfl)
   (fun hv hk hS=>slices_ContainsFunc.vC (p:=fun x=>decide (x.id=t.id)) hv hk hll (fun S1 x hK _=>zL.v x hK.1 hK.2) hKE hS) hKF hA ⟨b2,b4⟩
  have l0:=Zf (P:=zi) (t:=23) (o:=0+0) g0 qh rfl
  cases hD:Qg l t with
  | true =>
   rw [hD] at c2
   refine ⟨S1,fp,?_,by unfold xg;rw [hR,hD];exact h0.ext x1,fun x hx=>.inl hx,Fr.ext (b3.trans x1)⟩
   unfold xg
   rw [hR,hD]
   conv at hr =>
    rhs
    rw [hTe]
    simp only [zB.code,zB.rs,zSs,reduceIte,zk,zn,zo,zq,b1,ld,c1,wQ,jC,l0,c2]
   rw [hTe] at hr
   exact zB.runs hr (.inr rfl)
  | false =>
   rw [hD] at c2
   have g1:S1.get q=some (.cells [.slice a l.length l.length] (.own []) 0):=(x1.get q h0.lt).trans g0
   have l1:=Zf (P:=zi) (t:=23) (o:=0+0) g1 qh rfl
   have k1:=hKE _ _ ⟨b2,b4⟩ x1
   obtain ⟨S2,c3,x2⟩:=adJ (l:=l) (g:=26) (c:=.pointer (some ⟨S.next,0,none⟩)) (K:=fun S1=>S1.get S.next=some (.cells (fT t) (.own []) 0)∧S.next < S1.next) (X:=25) (v:=.int .i64 (idxFrom (wM t) 0 l)) (by rfl)
    (fun hv hk hS=>slices_IndexFunc.vC (p:=wM t) hv hk hll (fun S1 x hK _=>zK.v x hK.1 hK.2) hKE hS) hKF (hA.ext x1) k1
   have k2:=hKE _ _ k1 x2
   have h2:Pm S2 q l fp:=(h0.ext x1).ext x2
   have xx:Ext S S2:=(b3.trans x1).trans x2
   have g2:S2.get q=some (.cells [.slice a l.length l.length] (.own []) 0):=(x2.get q (Nat.lt_of_lt_of_le h0.lt x1.next)).trans g1
   have hA2:=(hA.ext x1).ext x2
   have l2:=Zf (P:=zi) (t:=23) (o:=0+0) g2 qh rfl
   have ln:=fun S=>QJ (P:=zi) ji a l.length l.length S
   have hpl:=Qw l t
   have hidx:idxFrom (wM t) 0 l=(Za l t:Int)∧¬ idxFrom (wM t) 0 l < 0∨idxFrom (wM t) 0 l=-1∧(l.length:Int)=Za l t:=by
    rw [Ky]
    by_cases ha:l.any (wM t)=true
    ·
     rw [if_pos ha]
     exact .inl ⟨by unfold Za;omega,by omega⟩
    ·
     rw [if_neg ha]
     exact .inr ⟨rfl,by unfold Za;rw [abD (by simpa using ha)]⟩
   by_cases h16:Za l t=16
   ·
    refine ⟨S2,fp,?_,by unfold xg;rw [hR,hD];simp only [Bool.false_eq_true,if_true,if_false,h16];exact h2,fun x hx=>.inl hx,Fr.ext xx⟩
    unfold xg
    rw [hR,hD]
    simp only [Bool.false_eq_true,if_true,if_false,h16]
    have d16:((Za l t:Int)=16)=True:=eq_true (by omega)
    rcases hidx with ⟨e1,e2⟩ | ⟨e1,e2⟩
    ·
     rw [e1] at c3 e2
     conv at hr =>
      rhs
      rw [hTe]
      simp only [zB.code,zB.rs,zSs,reduceIte,zk,zn,zo,zq,b1,ld,c1,wQ,jC,l0,c2,l1,c3,decide_eq_false e2,d16,decide_true]
     rw [hTe] at hr
     exact zB.runs hr (.inr rfl)
    ·
     rw [e1] at c3
     have dm:(-1:Int) < 0:=by decide
     conv at hr =>
      rhs
      rw [hTe]
      simp only [zB.code,zB.rs,zSs,reduceIte,zk,zn,zo,zq,b1,ld,c1,wQ,jC,l0,c2,l1,c3,decide_eq_true dm,l2,ln,goInt,e2,d16,decide_true]
     rw [hTe] at hr
     exact zB.runs hr (.inr rfl)
   ·
    have d16:¬ (Za l t:Int)=16:=by omega
    have ldt:=xH k2.1
    obtain ⟨S3,s1,s2,s3⟩:∃ S3,jo zi 23 1 [(0,tv t)] S2=some (.slice (some ⟨S2.next,0,none⟩) 1 1,S3)∧S3.get S2.next=some (.cells (fT t) (.own []) 2)∧S3=S2.push (.cells (fT t) (.own []) 2) :=
     ⟨_,by kernel_rfl,by rw [zx.zQ,if_pos rfl],rfl⟩
    have x3:Ext S2 S3:=by rw [s3];exact Ext.push _ _
    obtain ⟨S4,i1,i2,i3,i4⟩:=kR.insert (i:=Za l t) (hA2.ext x3) s2 (fun hx=>by have:=h2.flt _ hx;omega) hpl h.len
    have c4:zS zi O 28 [.slice a l.length l.length,.int .i64 (Za l t),.slice (some ⟨S2.next,0,none⟩) 1 1] S3=some (.slice (some ⟨S3.next,0,none⟩) (l.length+1) (l.length+1),S4):=(aaR (q:=Qh) rfl S3).trans i1
    have g4:S4.get q=some (.cells [.slice a l.length l.length] (.own []) 0):=by
     rw [i3.2 q (Nat.lt_of_lt_of_le h2.lt x3.next) h2.acY,x3.get q h2.lt,g2]
    have st1:=vJ (P:=zi) (t:=23) (o:=0+0) (x:=.slice (some ⟨S3.next,0,none⟩) (l.length+1) (l.length+1)) g4 JK rfl rfl (by simp)
    have sq:=Xu (o:=0+0) g2 h2.lt x3
    have g5:((S4.kills []).set q (.cells (splice [Value.slice a l.length l.length] (0+0) (Value.slice (some ⟨S3.next,0,none⟩) (l.length+1) (l.length+1)).cells.toList) (.own []) 0)).get q=some (.cells [.slice (some ⟨S3.next,0,none⟩) (l.length+1) (l.length+1)] (.own []) 0):=by rw [zx.je,if_pos rfl];rfl
    have hq3:q≠S3.next:=by have:=h2.lt;have:=x3.next;omega
    have n5:((S4.kills []).set q (.cells (splice [Value.slice a l.length l.length] (0+0) (Value.slice (some ⟨S3.next,0,none⟩) (l.length+1) (l.length+1)).cells.toList) (.own []) 0)).next=S4.next:=by simp [zx.kills]
    have o5:∀ x,x≠q→((S4.kills []).set q (.cells (splice [Value.slice a l.length l.length] (0+0) (Value.slice (some ⟨S3.next,0,none⟩) (l.length+1) (l.length+1)).cells.toList) (.own []) 0)).get x=S4.get x:=fun x hx=>by rw [zx.je,if_neg hx];rfl
    generalize (S4.kills []).set q (.cells (splice [Value.slice a l.length l.length] (0+0) (Value.slice (some ⟨S3.next,0,none⟩) (l.length+1) (l.length+1)).cells.toList) (.own []) 0)=S5 at st1 g5 n5 o5
    have i5:kR fT 2 S5 (some ⟨S3.next,0,none⟩) (l.take (Za l t)++t::l.drop (Za l t)) [S3.next]:=i2.keep (by omega) fun x hx=>by
     simp only [List.mem_singleton] at hx
     exact o5 x (by rw [hx];exact fun e=>hq3 e.symm)
    have hLlen:(l.take (Za l t)++t::l.drop (Za l t)).length=l.length+1:=by simp;omega
    have l5:=Zf (P:=zi) (t:=23) (o:=0+0) g5 qh rfl
    have ln5:=fun S=>QJ (P:=zi) ji (some ⟨S3.next,0,none⟩) (l.length+1) (l.length+1) S
    obtain ⟨mm,hmm⟩:∃ mm:Nat,mm=min (l.length+1) 16:=⟨_,rfl⟩
    have hmin:(if (16:Int) < ((l.length+1:Nat):Int) then (16:Int) else ((l.length+1:Nat):Int))=(mm:Int):=by split <;> omega
    have sl5:yS zi false 23 (.slice (some ⟨S3.next,0,none⟩) (l.length+1) (l.length+1)) none (some (.int .i64 mm)) S5=some (.slice (some ⟨S3.next,0,none⟩) mm mm,S5):=by
     rcases i5 with ⟨h,_⟩ | ⟨r,anc,rest,ha,hfa,hg,hx⟩
     ·
      cases h
     ·
      simp only [Option.some.injEq,Addr.mk.injEq,and_true] at ha
      subst ha
      rw [VB (P:=zi) (t:=23) (o:=0) (n:=l.length+1) (c:=l.length+1) (l:=0) (h:=mm) rfl hg ji jM rfl rfl (by omega) (by omega) (by omega)]
      simp
    have st2:=vJ (P:=zi) (t:=23) (o:=0+0) (x:=.slice (some ⟨S3.next,0,none⟩) mm mm) g5 JK rfl rfl (by simp)
    generalize hS6:(S5.kills []).set q _=S6 at st2
    have e5:xg l t=(0,aaO l t):=by unfold xg;rw [hR,hD];simp [h16]
    rw [e5]
    refine ⟨S6,[S3.next],?_,⟨?_,?_,some ⟨S3.next,0,none⟩,?_,?_⟩,fun x hx=>?_,?_⟩
    ·
     rcases hidx with ⟨e1,e2⟩ | ⟨e1,e2⟩
     ·
      rw [e1] at c3 e2
      conv at hr =>
       rhs
       rw [hTe]
       simp only [zB.code,zB.rs,zSs,reduceIte,zk,zn,zo,zq,b1,ld,c1,wQ,jC,l0,c2,l1,c3,decide_eq_false e2,decide_eq_false d16,l2,ldt,s1,c4,st1,sq,l5,ln5,goInt,aew,hmin,sl5,st2]
      rw [hTe] at hr
      exact zB.runs hr (.inr rfl)
     ·
      rw [e1] at c3
      have dm:(-1:Int) < 0:=by decide
      conv at hr =>
       rhs
       rw [hTe]
       simp only [zB.code,zB.rs,zSs,reduceIte,zk,zn,zo,zq,b1,ld,c1,wQ,jC,l0,c2,l1,c3,decide_eq_true dm,ln,goInt,e2,decide_eq_false d16,l2,ldt,s1,c4,st1,sq,l5,ln5,aew,hmin,sl5,st2]
      rw [hTe] at hr
      exact zB.runs hr (.inr rfl)
    ·
     have:=h2.lt;have:=x3.next;have:=i4
     subst hS6
     simp [zx.kills];omega
    ·
     rw [KI h.len];omega
    ·
     subst hS6
     rw [zx.je,if_pos rfl,KI h.len,← hmm];rfl
    ·
     subst hS6
     exact (i5.take 16).keep (by simp [zx.kills]) fun x hx=>by
      simp only [List.mem_singleton] at hx
      rw [zx.je,if_neg (by rw [hx];exact fun e=>hq3 e.symm)];rfl
    ·
     simp only [List.mem_singleton] at hx
     exact .inr (by have:=xx.next;have:=x3.next;omega)
    ·
     have f1:Fr (q::fp) S S3:=Fr.ext (xx.trans x3)
     have f2:Fr (q::fp) S S4:=f1.trans i3 fun x hx=>.inl (by simp [hx])
     have f3:Fr (q::fp) S S5:=⟨by have:=f2.1;omega,fun p hp hn=>by
      rw [o5 p (fun e=>hn (by simp [e]))];exact f2.2 p hp hn⟩
     subst hS6
     exact f3.set (.inl (by simp)) _
end
end Go.Proofs.Ytacbgjhmkhjpoaa
namespace Go.Proofs.Ytacbgjhmkhjpoaa
open Go.Abs
section
variable {S:zx} {q:Nat} {l:List TxV} {fp:List Nat}
theorem slices_Clone.ms {a:Option Addr} (hA:kR fT 2 S a l fp) (hl:l.length≤16):zS zi O slices_Clone.id [.slice a l.length l.length] S=some (tl (if a=none then 0 else 2) l,S):=by
 obtain ⟨T,hTe⟩:∃ T,T=(.slice a l.length l.length::zh::zh::zh::zh::zh::zh::zh::[]):=⟨_,rfl⟩
 have hr:zD zi O false slices_Clone.code T S=zD zi O false slices_Clone.code T S:=rfl
 rcases hA with ⟨rfl,rfl,rfl⟩ | ⟨r,anc,rest,rfl,rfl,hg,hx⟩
 ·
  have e1:∀ S,wX zi .eql 23 (.slice none 0 0) (.slice none 0 0) S=some (.bool true,S):=fun S=>by kernel_rfl
  ·
   conv at hr =>
    rhs
    rw [hTe]
    simp only [slices_Clone.code,slices_Clone.rs,zSs,reduceIte,zk,zn,zo,zq,List.length_nil,e1]
   rw [hTe] at hr
   exact slices_Clone.runs hr (.inr rfl)
 ·
  have e1:∀ S,wX zi .eql 23 (.slice (some ⟨r,0,none⟩) l.length l.length) (.slice none 0 0) S=some (.bool false,S):=fun S=>by kernel_rfl
  have hlen:(l.flatMap fT).length=l.length * 2:=jB xG l
  have hX:((l.flatMap fT++rest).drop 0).take (l.length * 2)=l.flatMap fT:=by rw [List.drop_zero,← hlen,List.take_left]
  have src:ZP zi 23 2 (.slice (some ⟨r,0,none⟩) l.length l.length) S=some (l.length,l.flatMap fT):=by
   have:=aaF (P:=zi) (tx:=23) (c:=l.length) (o:=0) (m:=l.length) (e:=2) ji hg (by rw [List.length_append,hlen];omega) (by
    rw [hX,List.all_flatMap,List.all_eq_true];exact fun x _=>X9 x)
   rw [hX] at this
   exact this
  have ap:kM zi 23 23 (sv 2 2 0 []) (.slice (some ⟨r,0,none⟩) l.length l.length) S=some (tl 2 l,S):=by
   obtain ⟨z,z1,z2,_⟩:=WU
   have hl2:=hl
   show wY zi false 23 23 (.iface 2 (.iface 2 (.iface 0 (.agg #[])))) _ S=_
   simp only [wY,Qj,jM,z1,ZG,z2,src,if_true,show (0:Nat) < 2 from by decide]
   rw [if_pos (show (0+l.length) * 16≤140737488355328 by omega),if_pos (show 0+l.length≤4611686018427387903 by omega),if_pos (by rfl),Nat.zero_add]
   rfl
  ·
   conv at hr =>
    rhs
    rw [hTe]
    simp only [slices_Clone.code,slices_Clone.rs,zSs,reduceIte,zk,zn,zo,zq,e1,WA,ap]
   rw [hTe] at hr
   exact slices_Clone.runs hr (.inr rfl)
theorem zM.v (h:Pm S q l fp):∃ k,Okl k l∧k≠1∧zS zi O zM.id [.pointer (some ⟨q,0,none⟩)] S=some (tl k l,S):=by
 obtain ⟨T,hTe⟩:∃ T,T=(.pointer (some ⟨q,0,none⟩)::zh::zh::zh::zh::zh::zh::zh::[]):=⟨_,rfl⟩
 have hr:zD zi O false zM.code T S=zD zi O false zM.code T S:=rfl
 obtain ⟨a,g0,hA⟩:=h.cell
 have l0:=Zf (P:=zi) (t:=23) (o:=0+0) g0 qh rfl
 have c1:=slices_Clone.ms hA h.len
 refine ⟨if a=none then 0 else 2,?_,by split <;> decide,?_⟩
 ·
  split
  ·
   rename_i e
   rcases hA with ⟨_,rfl,_⟩ | ⟨r,anc,rest,h1,_⟩
   ·
    exact Okl.none
   ·
    rw [e] at h1;cases h1
  ·
   exact Okl.own
 ·
  conv at hr =>
   rhs
   rw [hTe]
   simp only [zM.code,zM.rs,zSs,reduceIte,zk,zn,zo,zq,wQ,jC,l0,c1]
  rw [hTe] at hr
  exact zM.runs hr (.inr rfl)
def inT (ids:List Int) (x:TxV):Bool:=ids.any fun n=>decide (x.id=n)
def XE (many:Int) (skip:List Int):List TxV→List TxV→List TxV
 | [],out=>out
 | x::r,out=>XE many skip r (if decide ((out.length:Int) < many) && !inT skip x then out++[x] else out)
def Ye (l:List TxV) (many:Int) (skip:List Int):List TxV:=XE many skip l []
theorem zA.round {r k2:Nat} {many:Int} {skip:List Int} (hn:l.length≤16) (hs:Okl k2 skip) (hs2:k2≠2) (hsl:skip.length≤17592186044416):∀ (suf pre:List TxV) {T:List Value} {rr:St} {S:zx} {k:Nat} {out:List TxV},yG (zD zi O false zA.jl) T S=rr→T.length=36 →
  T.getD 1 zh=.int .i64 many→T.getD 2 zh=iz k2 skip→T.getD 7 zh=tl k out→T.getD 13 zh=.slice (some ⟨r,0,none⟩) l.length l.length→T.getD 14 zh=.int .i64 l.length→T.getD 15 zh=.int .i64 pre.length→l=pre++suf→Okl k out→k≠1→out.length≤pre.length→kR fT 2 S (some ⟨r,0,none⟩) l fp →
  ∃ T' S' k',rr=some (.exit 0,T',S')∧T'.length=36∧T'.getD 7 zh=tl k' (XE many skip suf out)∧Okl k' (XE many skip suf out)∧k'≠1∧Ext S S':=by
 intro suf
 induction suf with
 | nil =>
  intro pre T rr S k out hL hT h1 h2 h7 h13 h14 h15 hl hk k1 hol hA
  have hTe:=zA.eta hT
  rw [h1,h2,h7,h13,h14,h15] at hTe
  have hr:zD zi O false zA.jl T S=zD zi O false zA.jl T S:=rfl
  have hd:¬ (pre.length:Int) < (l.length:Int):=by rw [hl];simp
  conv at hr =>
   rhs
   rw [hTe]
   simp only [zA.jl,zA.code,zA.rs,zSs,reduceIte,zk,zn,zo,zq,hd]
  exact ⟨_,_,k,hL.symm.trans (jO hr (by simp)),rfl,rfl,hk,k1,Ext.refl _⟩
 | cons x suf ih =>
  intro pre T rr S k out hL hT h1 h2 h7 h13 h14 h15 hl hk k1 hol hA
  have hTe:=zA.eta hT
  rw [h1,h2,h7,h13,h14,h15] at hTe
  have hr:zD zi O false zA.jl T S=zD zi O false zA.jl T S:=rfl
  have hd:(pre.length:Int) < (l.length:Int):=by rw [hl];simp;omega
  have ix:∀ S,zZ zi 23 (.slice (some ⟨r,0,none⟩) l.length l.length) (.int .i64 pre.length) S=some (.pointer (some ⟨r,0+pre.length * 2,none⟩),S):=fun S=>by
   rw [adl (o:=0) (n:=l.length) (c:=l.length) (q:=r) ji jM (by omega) hd,Int.toNat_natCast]
  have hA0:=hA
  rcases hA0 with ⟨h,_⟩ | ⟨r',anc,rest,ha,hfa,hg,hx⟩
  ·
   cases h
  simp only [Option.some.injEq,Addr.mk.injEq,and_true] at ha
  subst ha
  have l1:jd zi false 30 (.pointer (some ⟨r,0+pre.length * 2,none⟩)) S=some (tv x,S):=kR.load (P:=zi) (te:=30) (S:=S) ZJ jM xG adK (x:=x) (pre:=pre) (suf:=suf) (by rw [← hl];exact hg)
  obtain ⟨S1,n1,n2,n3,n4⟩:=adn S x
  have al:=acL S
  have hpl:pre.length≤16:=by have:=congrArg List.length hl;simp at this;omega
  have ln:=fun S=>xw (S:=S) hk.dem
  have lo0:=Y4 n2
  have lo:=xH n2
  have cc:=fun S=>slices_Contains.v hs hs2 hsl (v:=x.id) S
  have bsl:∀ S,jQ zi 23 1 [(0,tv x)] S=some (tl 2 [x],S):=fun S=>by kernel_rfl
  have ap:=fun S=>ac2 (S:=S) (t:=x) hk k1 (by omega)
  have wi:IntKind.i64.wrap ((pre.length:Int)+1)=((pre++[x]).length:Int):=by rw [wrap_i64 (by omega) (by omega)];simp
  have step:∀ {k3:Nat} {out3:List TxV},(if decide ((out.length:Int) < many) && !inT skip x then out++[x] else out)=out3→∀ {T3:List Value},yG (zD zi O false zA.jl) T3 S1=rr→T3.length=36→T3.getD 1 zh=.int .i64 many→T3.getD 2 zh=iz k2 skip→T3.getD 7 zh=tl k3 out3 →
    T3.getD 13 zh=.slice (some ⟨r,0,none⟩) l.length l.length→T3.getD 14 zh=.int .i64 l.length→T3.getD 15 zh=.int .i64 ((pre++[x]).length:Nat)→Okl k3 out3→k3≠1→out3.length≤(pre++[x]).length→∃ T' S' k',rr=some (.exit 0,T',S')∧T'.length=36∧T'.getD 7 zh=tl k' (XE many skip (x::suf) out)∧Okl k' (XE many skip (x::suf) out)∧k'≠1∧Ext S S':=by
   intro k3 out3 ho T3 hL3 hT3 q1 q2 q7 q13 q14 q15 hk3 k31 hol3
   obtain ⟨T',S',k',w1,w2,w3,w4,w5,w6⟩:=ih (pre++[x]) hL3 hT3 q1 q2 q7 q13 q14 q15 (by rw [hl];simp) hk3 k31 hol3 (hA.ext n3)
   rw [← ho] at w3 w4
   exact ⟨T',S',k',w1,w2,w3,w4,w5,n3.trans w6⟩
  by_cases hm:(out.length:Int) < many
  ·
   cases hI:inT skip x with
   | true =>
    unfold inT at hI
    rw [hI] at cc
    conv at hr =>
     rhs
     rw [hTe]
     simp only [zA.jl,zA.code,zA.rs,zSs,reduceIte,zk,zn,zo,zq,hd,ix,l1,al,n1,ln,decide_eq_true hm,wG,lo0,if_neg hs2,cc,Bool.not_true,wi]
    have hs3:=(wL hr).symm.trans hL
    exact step (out3:=out) (by unfold inT;rw [hI];simp) hs3 rfl rfl rfl rfl rfl rfl rfl hk k1 (by simp;omega)
   | false =>
    unfold inT at hI
    rw [hI] at cc
    conv at hr =>
     rhs
     rw [hTe]
     simp only [zA.jl,zA.code,zA.rs,zSs,reduceIte,zk,zn,zo,zq,hd,ix,l1,al,n1,ln,decide_eq_true hm,wG,lo0,if_neg hs2,cc,Bool.not_false,wi,lo,bsl,ap]
    have hs3:=(wL hr).symm.trans hL
    exact step (out3:=out++[x]) (by unfold inT;rw [hI];simp [hm]) hs3 rfl rfl rfl rfl rfl rfl rfl Okl.own (by decide) (by simp;omega)
  ·
   conv at hr =>
    rhs
    rw [hTe]
    simp only [zA.jl,zA.code,zA.rs,zSs,reduceIte,zk,zn,zo,zq,hd,ix,l1,al,n1,ln,decide_eq_false hm,wi]
   have hs3:=(wL hr).symm.trans hL
   exact step (out3:=out) (by simp [hm]) hs3 rfl rfl rfl rfl rfl rfl rfl hk k1 (by simp;omega)
theorem zA.v (h:Pm S q l fp) {k2:Nat} {many:Int} {skip:List Int} (hs:Okl k2 skip) (hs2:k2≠2) (hsl:skip.length≤17592186044416):∃ k S1,zS zi O zA.id [.pointer (some ⟨q,0,none⟩),.int .i64 many,iz k2 skip] S=some (tl k (Ye l many skip),S1)∧Okl k (Ye l many skip)∧k≠1∧Ext S S1:=by
 obtain ⟨T,hTe⟩:∃ T,T=(.pointer (some ⟨q,0,none⟩)::.int .i64 many::iz k2 skip::zh::zh::zh::zh::zh::zh::zh::zh::zh::zh::zh::zh::zh::zh::zh::zh::zh::zh::zh::zh::zh::zh::zh::zh::zh::zh::zh::zh::zh::zh::zh::zh::zh::[]):=⟨_,rfl⟩
 have hr:zD zi O false zA.code T S=zD zi O false zA.code T S:=rfl
 obtain ⟨a,h1,h2⟩:=h.cell
 have l1:=Zf (P:=zi) (t:=23) (o:=0+0) h1 qh rfl
 have ln:=fun S=>QJ (P:=zi) ji a l.length l.length S
 conv at hr =>
  rhs
  rw [hTe]
  simp only [zA.code,zA.rs,zSs,reduceIte,zk,zn,zo,zq,wQ,jC,l1,ln,goInt]
 generalize hL:yG (zD zi O false zA.jl) _ _=rr at hr
 have fin:∀ T' S' k',rr=some (.exit 0,T',S')→T'.length=36→T'.getD 7 zh=tl k' (Ye l many skip)→Okl k' (Ye l many skip)→k'≠1→Ext S S'→∃ k S1,zS zi O zA.id [.pointer (some ⟨q,0,none⟩),.int .i64 many,iz k2 skip] S=some (tl k (Ye l many skip),S1)∧Okl k (Ye l many skip)∧k≠1∧Ext S S1:=by
  intro T' S' k' e1 e2 e3 e4 e5 e6
  subst e1
  have hTe':=zA.eta e2
  rw [e3] at hTe'
  conv at hr =>
   rhs
   simp only [zSs,reduceIte,zk,zn,zo,zq]
   rw [hTe']
   simp only [zA.code,zA.rs,zSs,reduceIte,zk,zn,zo,zq]
  rw [hTe] at hr
  exact ⟨k',S',zA.runs hr (.inr rfl),e4,e5,e6⟩
 rcases h2 with ⟨rfl,rfl,rfl⟩ | ⟨r,anc,rest,rfl,rfl,k3,k4⟩
 ·
  generalize hT2:List.cons _ _=T2 at hL
  have hlen:T2.length=36:=by rw [← hT2];rfl
  have g7:T2.getD 7 zh=.slice none 0 0:=by rw [← hT2];rfl
  have g14:T2.getD 14 zh=.int .i64 0:=by rw [← hT2];rfl
  have g15:T2.getD 15 zh=.int .i64 0:=by rw [← hT2];rfl
  have hTe2:=zA.eta hlen
  rw [g7,g14,g15] at hTe2
  have hr2:zD zi O false zA.jl T2 S=zD zi O false zA.jl T2 S:=rfl
  have hd:¬ (0:Int) < (0:Int):=by decide
  conv at hr2 =>
   rhs
   rw [hTe2]
   simp only [zA.jl,zA.code,zA.rs,zSs,reduceIte,zk,zn,zo,zq,hd]
  exact fin _ _ 0 (hL.symm.trans (jO hr2 (by simp))) rfl rfl Okl.none (by decide) (Ext.refl _)
 ·
  obtain ⟨T',S',k',q1,q2,q3,q4,q5,q6⟩:=zA.round h.len hs hs2 hsl l [] (k:=0) (out:=[]) hL rfl rfl rfl rfl rfl rfl rfl rfl Okl.none (by decide) (by simp) (.inr ⟨r,anc,rest,rfl,rfl,k3,k4⟩)
  exact fin T' S' k' q1 q2 q3 q4 q5 q6
end
end Go.Proofs.Ytacbgjhmkhjpoaa
namespace Go.Proofs.Ytacbgjhmkhjpoaa
open Go.Abs
section
variable {S0 S:zx} {q:Nat} {l:List TxV}
def PS (S0 S:zx) (q:Nat) (l:List TxV):Prop:=∃ fp,Pm S q l fp∧Fr [] S0 S∧S0.next≤q∧∀ x ∈ fp,S0.next≤x
theorem PS.fr (h:PS S0 S q l):Fr [] S0 S:=let ⟨_,_,h,_⟩:=h;h
theorem PS.len (h:PS S0 S q l):l.length≤16:=let ⟨_,h,_⟩:=h;h.len
theorem PS.ge (h:PS S0 S q l):S0.next≤q:=let ⟨_,_,_,h,_⟩:=h;h
theorem PS.lt (h:PS S0 S q l):q < S.next:=let ⟨_,h,_⟩:=h;h.lt
theorem PS.ext {S1:zx} (h:PS S0 S q l) (k:Ext S S1):PS S0 S1 q l:=by
 obtain ⟨fp,h1,h2,h3,h4⟩:=h
 exact ⟨fp,h1.ext k,h2.trans (Fr.ext (fp:=[]) k) fun x hx=>(by cases hx),h3,h4⟩
theorem PS.of {S1:zx} {l2:List TxV} {fp fp':List Nat} (h1:Pm S q l fp) (h2:Fr [] S0 S) (h3:S0.next≤q) (h4:∀ x ∈ fp,S0.next≤x) (k1:Pm S1 q l2 fp') (k2:∀ x ∈ fp',x ∈ fp∨S.next≤x) (k3:Fr (q::fp) S S1):PS S0 S1 q l2 :=
 ⟨fp',k1,h2.trans k3 fun x hx=>(by
  rcases List.mem_cons.1 hx with rfl | hx
  ·
   exact .inr h3
  ·
   exact .inr (h4 x hx)),h3,fun x hx=>(by
  rcases k2 x hx with hx | hx
  ·
   exact h4 x hx
  ·
   have:=h2.1;omega)⟩
theorem acs (S:zx):∃ S1,zS zi O zY.id [] S=some (.pointer (some ⟨S.next,0,none⟩),S1)∧PS S S1 S.next []:=by
 obtain ⟨S1,h1,h2,h3⟩:=zY.v S
 exact ⟨S1,h1,[],h2,Fr.ext h3,Nat.le_refl _,fun x hx=>by cases hx⟩
theorem J5 (h:PS S0 S q l) (t:TxV):∃ S1,zS zi O zB.id [.pointer (some ⟨q,0,none⟩),tv t] S=some (.int .i64 (xg l t).1,S1)∧PS S0 S1 q (xg l t).2:=by
 obtain ⟨fp,h1,h2,h3,h4⟩:=h
 obtain ⟨S1,fp',e1,e2,e3,e4⟩:=zB.v h1 t
 exact ⟨S1,e1,PS.of h1 h2 h3 h4 e2 e3 e4⟩
theorem XV (h:PS S0 S q l):∃ k,Okl k l∧k≠1∧zS zi O zM.id [.pointer (some ⟨q,0,none⟩)] S=some (tl k l,S):=by
 obtain ⟨fp,h1,_⟩:=h
 exact zM.v h1
theorem ac4 (h:PS S0 S q l) {k2:Nat} {many:Int} {skip:List Int} (hs:Okl k2 skip) (hs2:k2≠2) (hsl:skip.length≤17592186044416):∃ k S1,zS zi O zA.id [.pointer (some ⟨q,0,none⟩),.int .i64 many,iz k2 skip] S=some (tl k (Ye l many skip),S1)∧Okl k (Ye l many skip)∧k≠1∧PS S0 S1 q l:=by
 obtain ⟨fp,h1,h2⟩:=h
 obtain ⟨k,S1,e1,e2,e3,e4⟩:=zA.v (many:=many) h1 hs hs2 hsl
 exact ⟨k,S1,e1,e2,e3,PS.ext ⟨fp,h1,h2⟩ e4⟩
theorem abt (q:Nat) (S:zx):wX zi .eql 24 (.pointer (some ⟨q,0,none⟩)) (.pointer none) S=some (.bool false,S):=by kernel_rfl
theorem zC.v (S:zx):∃ S1,zS zi O zC.id [] S=some (.bool true,S1)∧Fr [] S S1:=by
 obtain ⟨T,hTe⟩:∃ T,T=(zh::zh::zh::zh::zh::zh::zh::zh::zh::zh::zh::zh::zh::zh::zh::zh::zh::zh::zh::zh::zh::zh::zh::zh::zh::zh::zh::zh::zh::zh::zh::zh::zh::zh::zh::zh::zh::[]):=⟨_,rfl⟩
 have hr:zD zi O false zC.code T S=zD zi O false zC.code T S:=rfl
 obtain ⟨S1,a1,p1⟩:=acs S
 obtain ⟨S2,a2,p2⟩:=J5 p1 ⟨1,1⟩
 obtain ⟨S3,a3,p3⟩:=J5 p2 ⟨2,5⟩
 obtain ⟨S4,a4,p4⟩:=J5 p3 ⟨3,3⟩
 have e2:xg [] ⟨1,1⟩=(0,[⟨1,1⟩]):=by rfl
 rw [e2] at a2 p2 a3 p3 a4 p4
 have e3:xg [⟨1,1⟩] ⟨2,5⟩=(0,[⟨2,5⟩,⟨1,1⟩]):=by rfl
 simp only [e3] at a3 p3 a4 p4
 have e4:xg [⟨2,5⟩,⟨1,1⟩] ⟨3,3⟩=(0,[⟨2,5⟩,⟨3,3⟩,⟨1,1⟩]):=by rfl
 simp only [e4] at a4 p4
 obtain ⟨k,S5,a5,k5,_,p5⟩:=ac4 (many:=2) (skip:=[]) p4 Okl.none (by decide) (by simp)
 have e5:Ye [⟨2,5⟩,⟨3,3⟩,⟨1,1⟩] 2 []=[⟨2,5⟩,⟨3,3⟩]:=by rfl
 rw [e5] at a5 k5
 have a5:zS zi O zA.id [.pointer (some ⟨S.next,0,none⟩),.int .i64 2,.slice none 0 0] S4=some (tl k [⟨2,5⟩,⟨3,3⟩],S5):=a5
 obtain ⟨S6,a6,p6⟩:=J5 p5 ⟨1,9⟩
 have e6:xg [⟨2,5⟩,⟨3,3⟩,⟨1,1⟩] ⟨1,9⟩=(91,[⟨2,5⟩,⟨3,3⟩,⟨1,1⟩]):=by rfl
 rw [e6] at a6 p6
 have b1:∀ S,wS zi 30 [(0,.int .i64 1),(1,.int .i64 1)] S=some (tv ⟨1,1⟩,S):=fun S=>by kernel_rfl
 have b2:∀ S,wS zi 30 [(0,.int .i64 2),(1,.int .i64 5)] S=some (tv ⟨2,5⟩,S):=fun S=>by kernel_rfl
 have b3:∀ S,wS zi 30 [(0,.int .i64 3),(1,.int .i64 3)] S=some (tv ⟨3,3⟩,S):=fun S=>by kernel_rfl
 have b4:∀ S,wS zi 30 [(0,.int .i64 1),(1,.int .i64 9)] S=some (tv ⟨1,9⟩,S):=fun S=>by kernel_rfl
 have bs:∀ S,jQ zi 23 2 [(0,tv ⟨2,5⟩),(1,tv ⟨3,3⟩)] S=some (tl 2 [⟨2,5⟩,⟨3,3⟩],S):=fun S=>by kernel_rfl
 have sm:∀ S,zS zi O 15 [tl (if k=2 then 1 else k) [⟨2,5⟩,⟨3,3⟩],tl 1 [⟨2,5⟩,⟨3,3⟩]] S=some (.bool true,S):=fun S=>by
  have:=zy.v k5.dem (Okl.read (l:=[(⟨2,5⟩:TxV),⟨3,3⟩])) (Zc k) (by decide) (by simp) S
  rwa [decide_eq_true rfl] at this
 refine ⟨S6,?_,p6.fr⟩
 conv at hr =>
  rhs
  rw [hTe]
  simp only [zC.code,zC.rs,zSs,reduceIte,zk,zn,zo,zq,a1,abt,b1,a2,b2,a3,b3,a4,a5,bs,aey,sm,b4,a6]
 rw [hTe] at hr
 exact zC.runs hr (.inr rfl)
end
end Go.Proofs.Ytacbgjhmkhjpoaa
namespace Go.Proofs.Ytacbgjhmkhjpoaa
open Go.Abs
theorem YA {a b:TxV}:wM a b=true ↔ b.fee < a.fee∨(a.fee=b.fee∧a.id < b.id):=by
 unfold wM
 by_cases h:a.fee=b.fee
 ·
  simp [h]
 ·
  simp [h]
theorem Qi {a b c:TxV} (h:wM a b=true) (k:wM b c=true):wM a c=true:=by
 rw [YA] at *;omega
theorem QM {a b:TxV} (h:¬ wM a b=true) (hne:a.id≠b.id):wM b a=true:=by
 rw [YA] at *;omega
def Srt (l:List TxV):Prop:=l.Pairwise fun x y=>wM x y=true∧x.id≠y.id
theorem ad1 {l:List TxV} {t:TxV} (h:Qg l t=false):∀ x ∈ l,x.id≠t.id:=by
 intro x hx
 unfold Qg at h
 rw [List.any_eq_false] at h
 simpa using h x hx
theorem acD {l:List TxV} {t x:TxV} (hx:x ∈ l.take (Za l t)):¬ wM t x=true:=by
 obtain ⟨i,hi,rfl⟩:=List.mem_iff_getElem.1 hx
 rw [List.length_take] at hi
 rw [List.getElem_take]
 have:=List.not_of_lt_findIdx (p:=wM t) (xs:=l) (i:=i) (by unfold Za at hi;omega)
 simpa using this
theorem acP {l:List TxV} {t x:TxV} (hs:Srt l) (hx:x ∈ l.drop (Za l t)):wM t x=true:=by
 have hlt:Za l t < l.length:=by
  rw [List.mem_iff_getElem] at hx
  obtain ⟨i,hi,_⟩:=hx
  rw [List.length_drop] at hi
  omega
 have h0:wM t l[Za l t]=true:=List.findIdx_getElem (p:=wM t) (xs:=l) (w:=hlt)
 rw [List.drop_eq_getElem_cons hlt] at hx
 rcases List.mem_cons.1 hx with rfl | hx
 ·
  exact h0
 ·
  have hd:(l.drop (Za l t)).Pairwise fun x y=>wM x y=true∧x.id≠y.id:=hs.sublist (List.drop_sublist _ _)
  rw [List.drop_eq_getElem_cons hlt] at hd
  exact Qi h0 ((List.pairwise_cons.1 hd).1 x hx).1
theorem Srt.ins {l:List TxV} {t:TxV} (hs:Srt l) (hd:Qg l t=false):Srt (aaO l t):=by
 have hn:=ad1 hd
 refine List.Pairwise.sublist (List.take_sublist _ _) ?_
 refine List.pairwise_append.2 ⟨hs.sublist (List.take_sublist _ _),List.pairwise_cons.2 ⟨fun b hb=>⟨acP hs hb,fun e=>hn b (List.mem_of_mem_drop hb) e.symm⟩,hs.sublist (List.drop_sublist _ _)⟩,fun a ha b hb=>?_⟩
 have ham:=List.mem_of_mem_take ha
 rcases List.mem_cons.1 hb with rfl | hb
 ·
  exact ⟨QM (acD ha) (fun e=>hn a ham e.symm),hn a ham⟩
 ·
  have h2:=hs
  rw [Srt,← List.take_append_drop (Za l t) l] at h2
  exact (List.pairwise_append.1 h2).2.2 a ha b hb
theorem ade {l:List TxV} {t:TxV} (h:(xg l t).1=0):(xg l t).2=aaO l t∧Qg l t=false∧xX t=true∧Za l t≠16:=by
 unfold xg at *
 split at h
 ·
  rename_i h1
  split at h
  ·
   cases h
  ·
   rename_i h2
   split at h
   ·
    cases h
   ·
    rename_i h3
    rw [if_pos h1,if_neg h2,if_neg h3]
    exact ⟨rfl,by simpa using h2,h1,h3⟩
 ·
  cases h
theorem acF {l:List TxV} {t:TxV} (h:¬ (xg l t).1=0):(xg l t).2=l:=by
 unfold xg at *
 split at h
 ·
  split at h
  ·
   rename_i h1 h2;rw [if_pos h1,if_pos h2]
  ·
   split at h
   ·
    rename_i h1 h2 h3;rw [if_pos h1,if_neg h2,if_pos h3]
   ·
    exact absurd rfl h
 ·
  rename_i h1;rw [if_neg h1]
theorem Srt.add {l:List TxV} (hs:Srt l) (t:TxV):Srt (xg l t).2:=by
 by_cases h:(xg l t).1=0
 ·
  obtain ⟨h1,h2,_⟩:=ade h
  rw [h1];exact hs.ins h2
 ·
  rw [acF h];exact hs
end Go.Proofs.Ytacbgjhmkhjpoaa
namespace Go.Proofs.Ytacbgjhmkhjpoaa
open Go.Abs
namespace mempoolBest
def codes:List (Bool×Ty):=[(false,.slc 16 tTx),(true,tTx)]
theorem coded:JY zi 9 [23,30]=some codes:=by kernel_rfl
theorem adG {k:Nat} {l:List TxV} (hk:Okl k l) (k2:k≠2) (hl:l.length≤60) {S0:zx} {q:Nat} {b3:Value}:∀ (suf pre:List TxV) {T:List Value} {r:St} {S:zx} {pl:List TxV},yG (zD zi O false zu.jl) T S=r→T.length=103 →
  T.getD 3 zh=b3→T.getD 5 zh=.pointer (some ⟨q,0,none⟩)→T.getD 26 zh=tl k l→T.getD 27 zh=.int .i64 l.length→T.getD 28 zh=.int .i64 pre.length→l=pre++suf→PS S0 S q pl→Srt pl →
  ∃ T' S' pl',r=some (.exit 0,T',S')∧T'.length=103∧T'.getD 3 zh=b3∧T'.getD 5 zh=.pointer (some ⟨q,0,none⟩)∧PS S0 S' q pl'∧Srt pl':=by
 intro suf
 induction suf with
 | nil =>
  intro pre T r S pl hL hT h3 h5 h26 h27 h28 hpre hP hs
  have hTe:=zu.eta hT
  rw [h3,h5,h26,h27,h28] at hTe
  have hr:zD zi O false zu.jl T S=zD zi O false zu.jl T S:=rfl
  have d1:¬ (pre.length:Int) < (l.length:Int):=by rw [hpre];simp
  conv at hr =>
   rhs
   rw [hTe]
   simp only [zu.jl,zu.code,zu.rs,zSs,reduceIte,zk,zn,zo,zq,d1]
  exact ⟨_,_,pl,hL.symm.trans (jO hr (by simp)),rfl,rfl,rfl,hP,hs⟩
 | cons x suf ih =>
  intro pre T r S pl hL hT h3 h5 h26 h27 h28 hpre hP hs
  have hTe:=zu.eta hT
  rw [h3,h5,h26,h27,h28] at hTe
  have hr:zD zi O false zu.jl T S=zD zi O false zu.jl T S:=rfl
  have hll:l.length=pre.length+suf.length+1:=by rw [hpre];simp;omega
  have d1:(pre.length:Int) < (l.length:Int):=by omega
  have e1:=fun S=>Yq (S:=S) hk hpre
  obtain ⟨S1,n1,n2,n3,n4⟩:=adn S x
  have al:=acL S
  obtain ⟨S2,a2,p2⟩:=J5 (hP.ext n3) x
  have ld:=xH n2
  have wi:IntKind.i64.wrap ((pre.length:Int)+1)=((pre++[x]).length:Int):=by rw [wrap_i64 (by omega) (by omega)];simp
  conv at hr =>
   rhs
   rw [hTe]
   simp only [zu.jl,zu.code,zu.rs,zSs,reduceIte,zk,zn,zo,zq,d1,e1,kG,al,n1,ld,a2,wi]
  have hs3:=(wL hr).symm.trans hL
  exact ih (pre++[x]) hs3 rfl rfl rfl rfl rfl rfl (by rw [hpre];simp) p2 (hs.add x)
theorem ad7 {k:Nat} {l:List TxV} (hk:Okl k l) (k2:k≠2) (hl:l.length≤16) {t:TxV} {p:Nat} {b5 b8:Value}:∀ (suf pre:List TxV) {T:List Value} {r:St} {S:zx},yG (zD zi O false zu.Ju) T S=r→T.length=103 →
  T.getD 3 zh=.pointer (some ⟨p,0,none⟩)→T.getD 5 zh=b5→T.getD 8 zh=b8→T.getD 9 zh=.bool (pre.all (wM t))→T.getD 10 zh=.bool (Qg pre t)→T.getD 38 zh=tl k l→T.getD 39 zh=.int .i64 l.length→T.getD 40 zh=.int .i64 pre.length→l=pre++suf→S.get p=some (.cells (fT t) (.own []) 0)→p < S.next →
  ∃ T' S',r=some (.exit 2,T',S')∧T'.length=103∧T'.getD 3 zh=.pointer (some ⟨p,0,none⟩)∧T'.getD 5 zh=b5∧T'.getD 8 zh=b8∧T'.getD 9 zh=.bool (l.all (wM t))∧T'.getD 10 zh=.bool (Qg l t)∧Ext S S':=by
 intro suf
 induction suf with
 | nil =>
  intro pre T r S hL hT h3 h5 h8 h9 h10 h38 h39 h40 hpre hp hpl
  have hTe:=zu.eta hT
  rw [h3,h5,h8,h9,h10,h38,h39,h40] at hTe
  have hr:zD zi O false zu.Ju T S=zD zi O false zu.Ju T S:=rfl
  have d1:¬ (pre.length:Int) < (l.length:Int):=by rw [hpre];simp
  conv at hr =>
   rhs
   rw [hTe]
   simp only [zu.Ju,zu.code,zu.rs,zSs,reduceIte,zk,zn,zo,zq,d1]
  have e:l=pre:=by rw [hpre,List.append_nil]
  exact ⟨_,_,hL.symm.trans (jO hr (by simp)),rfl,rfl,rfl,rfl,by rw [e];rfl,by rw [e];rfl,Ext.refl _⟩
 | cons u suf ih =>
  intro pre T r S hL hT h3 h5 h8 h9 h10 h38 h39 h40 hpre hp hpl
  have hTe:=zu.eta hT
  rw [h3,h5,h8,h9,h10,h38,h39,h40] at hTe
  have hr:zD zi O false zu.Ju T S=zD zi O false zu.Ju T S:=rfl
  have hll:l.length=pre.length+suf.length+1:=by rw [hpre];simp;omega
  have d1:(pre.length:Int) < (l.length:Int):=by omega
  have e1:=fun S=>Yq (S:=S) hk hpre
  obtain ⟨S1,n1,n2,n3,n4⟩:=adn S u
  have al:=acL S
  have hp1:S1.get p=some (.cells (fT t) (.own []) 0):=(n3.get p hpl).trans hp
  have c1:=fun S=>zF.v t u S
  have wi:IntKind.i64.wrap ((pre.length:Int)+1)=((pre++[u]).length:Int):=by rw [wrap_i64 (by omega) (by omega)];simp
  have ea:(pre++[u]).all (wM t)=(pre.all (wM t) && wM t u):=by simp
  have ed:Qg (pre++[u]) t=(Qg pre t || decide (u.id=t.id)):=by simp [Qg]
  have fin:∀ {T2:List Value},yG (zD zi O false zu.Ju) T2 S1=r→T2.length=103→T2.getD 3 zh=.pointer (some ⟨p,0,none⟩)→T2.getD 5 zh=b5→T2.getD 8 zh=b8→T2.getD 9 zh=.bool (pre.all (wM t) && wM t u)→T2.getD 10 zh=.bool (Qg pre t || decide (u.id=t.id))→T2.getD 38 zh=tl k l→T2.getD 39 zh=.int .i64 l.length→T2.getD 40 zh=.int .i64 ((pre++[u]).length:Nat) →
    ∃ T' S',r=some (.exit 2,T',S')∧T'.length=103∧T'.getD 3 zh=.pointer (some ⟨p,0,none⟩)∧T'.getD 5 zh=b5∧T'.getD 8 zh=b8∧T'.getD 9 zh=.bool (l.all (wM t))∧T'.getD 10 zh=.bool (Qg l t)∧Ext S S':=by
   intro T2 q0 q1 q2 q3 q4 q5 q6 q7 q8 q9
   obtain ⟨T',S',y1,y2,y3,y4,y5,y6,y7,y8⟩:=ih (pre++[u]) q0 q1 q2 q3 q4 (by rw [ea];exact q5) (by rw [ed];exact q6) q7 q8 q9 (by rw [hpre];simp) hp1 (Nat.lt_of_lt_of_le hpl n3.next)
   exact ⟨T',S',y1,y2,y3,y4,y5,y6,y7,n3.trans y8⟩
  cases hb1:pre.all (wM t) <;> cases hb2:Qg pre t <;> rw [hb1,hb2] at hTe fin
  all_goals
   conv at hr =>
    rhs
    rw [hTe]
    simp only [zu.Ju,zu.code,zu.rs,zSs,reduceIte,zk,zn,zo,zq,d1,e1,kG,al,n1,xH n2,xH hp1,c1,wG,Y4 n2,Y4 hp1,wi]
   have hs3:=(wL hr).symm.trans hL
   exact fin hs3 rfl rfl rfl rfl rfl rfl rfl rfl rfl
theorem run {k:Nat} {l:List TxV} {t:TxV} (hk:Okl k l) (k2:k≠2) (hl:l.length * 16≤140737488351232) (S:zx):∃ S',zS zi O 5 [tl k l,tv t] S=some (.bool true,S'):=by
 obtain ⟨T,hTe⟩:∃ T,T=(tl k l::tv t::zh::zh::zh::zh::zh::zh::zh::zh::zh::zh::zh::zh::zh::zh::zh::zh::zh::zh::zh::zh::zh::zh::zh::zh::zh::zh::zh::zh::zh::zh::zh::zh::zh::zh::zh::zh::zh::zh::zh::zh::zh::zh::zh::zh::zh::zh::zh::zh::zh::zh::zh::zh::zh::zh::zh::zh::zh::zh::zh::zh::zh::zh::zh::zh::zh::zh::zh::zh::zh::zh::zh::zh::zh::zh::zh::zh::zh::zh::zh::zh::zh::zh::zh::zh::zh::zh::zh::zh::zh::zh::zh::zh::zh::zh::zh::zh::zh::zh::zh::zh::zh::[]):=⟨_,rfl⟩
 have hr:zD zi O false zu.code T S=zD zi O false zu.code T S:=rfl
 obtain ⟨S1,b1,b2,b3,b4⟩:=abR t S
 obtain ⟨S2,a1,f1⟩:=zC.v S1
 have g2:S2.get S.next=some (.cells (fT t) (.own []) 0):=(f1.2 _ b4 (by simp)).trans b2
 have n2:S.next < S2.next:=Nat.lt_of_lt_of_le b4 f1.1
 have ln:=fun S=>xw (S:=S) hk
 by_cases h60:l.length≤60
 case neg =>
  have d1:(60:Int) < (l.length:Int):=by omega
  refine ⟨S2,?_⟩
  conv at hr =>
   rhs
   rw [hTe]
   simp only [zu.code,zu.rs,zSs,reduceIte,zk,zn,zo,zq,if_neg k2,b1,a1,ln,d1]
  rw [hTe] at hr
  exact zu.runs hr (.inr rfl)
 have d1:¬ (60:Int) < (l.length:Int):=by omega
 have cr:=zI.v t S2
 cases hR:xX t with
 | false =>
  rw [hR] at cr
  refine ⟨S2,?_⟩
  conv at hr =>
   rhs
   rw [hTe]
   simp only [zu.code,zu.rs,zSs,reduceIte,zk,zn,zo,zq,if_neg k2,b1,a1,ln,d1,xH g2,cr]
  rw [hTe] at hr
  exact zu.runs hr (.inr rfl)
 | true =>
  rw [hR] at cr
  obtain ⟨S3,a2,p2⟩:=acs S2
  conv at hr =>
   rhs
   rw [hTe]
   simp only [zu.code,zu.rs,zSs,reduceIte,zk,zn,zo,zq,if_neg k2,b1,a1,ln,d1,xH g2,cr,a2]
  generalize hL:yG (zD zi O false zu.jl) _ _=r at hr
  obtain ⟨T1,S4,pl,rfl,w1,w2,w3,w4,w5⟩:=adG hk k2 h60 (b3:=.pointer (some ⟨S.next,0,none⟩)) l [] hL rfl rfl rfl rfl rfl rfl rfl p2 List.Pairwise.nil
  have hT1:=zu.eta w1
  rw [w2,w3] at hT1
  obtain ⟨j,j1,j2,a3⟩:=XV w4
  have lnp:=fun S=>xw (S:=S) j1.dem
  conv at hr =>
   rhs
   simp only [zSs,reduceIte,zk,zn,zo,zq]
   rw [hT1]
   simp only [zu.code,zu.rs,zSs,reduceIte,zk,zn,zo,zq,a3,lnp]
  generalize hL2:yG (zD zi O false zu.Ju) _ _=r2 at hr
  have g4:S4.get S.next=some (.cells (fT t) (.own []) 0):=(w4.fr.2 _ n2 (by simp)).trans g2
  have n4:S.next < S4.next:=Nat.lt_of_lt_of_le n2 w4.fr.1
  obtain ⟨T2,S5,rfl,v1,v2,v3,v4,v5,v6,v7⟩:=ad7 j1.dem (Zc j) w4.len (t:=t) (p:=S.next) (b5:=.pointer (some ⟨S2.next,0,none⟩)) (b8:=tl j pl) pl [] hL2 rfl rfl rfl rfl rfl rfl rfl rfl rfl rfl g4 n4
  have hT2:=zu.eta v1
  rw [v2,v3,v4,v5,v6] at hT2
  have g5:S5.get S.next=some (.cells (fT t) (.own []) 0):=(v7.get _ n4).trans g4
  have P5:=w4.ext v7
  obtain ⟨S6,a4,p6⟩:=J5 P5 t
  have g6:S6.get S.next=some (.cells (fT t) (.own []) 0):=(p6.fr.2 _ n2 (by simp)).trans g2
  obtain ⟨i,i1,i2,a5⟩:=XV p6
  have lnw:=fun S=>xw (S:=S) j1.dem
  have lnn:=fun S=>xw (S:=S) i1.dem
  cases hD:Qg pl t with
  | true =>
   have e6:xg pl t=(91,pl):=by unfold xg;rw [hR,hD];rfl
   simp only [e6] at a4 a5 i1
   have sm:=fun S=>zy.v i1.dem j1.dem (Zc i) (Zc j) (by have:=w4.len;omega) S
   rw [decide_eq_true rfl] at sm
   refine ⟨S6,?_⟩
   conv at hr =>
    rhs
    simp only [zSs,reduceIte,zk,zn,zo,zq]
    rw [hT2,hD]
    simp only [zu.code,zu.rs,zSs,reduceIte,zk,zn,zo,zq,xH g5,a4,a5,aey,sm]
   rw [hTe] at hr
   exact zu.runs hr (.inr rfl)
  | false =>
   cases hF:pl.all (wM t) with
   | true =>
    have e0:Za pl t=0:=by
     unfold Za
     cases pl with
     | nil=>rfl
     | cons y r=>rw [List.all_cons,Bool.and_eq_true] at hF;rw [List.findIdx_cons,hF.1];rfl
    have ei:aaO pl t=t::pl.take 15:=by unfold aaO;rw [e0];rfl
    have e6:xg pl t=(0,t::pl.take 15):=by unfold xg;rw [hR,hD,e0,ei];rfl
    simp only [e6] at a4 a5 i1
    have ix:∀ S,zZ zi 23 (tl (if i=2 then 1 else i) (t::pl.take 15)) (.int .i64 0) S=some (EP [.int .i64 t.id,.int .i64 t.fee],S):=fun S=>Yq (pre:=[]) (suf:=pl.take 15) i1.dem rfl
    have lnn:∀ S,vg zi 23 (tl (if i=2 then 1 else i) (t::pl.take 15)) S=some (.int .i64 ((t::pl.take 15).length:Nat),S):=fun S=>xw i1.dem
    have eqt:=fun S=>(ad8 t t S).1
    rw [decide_eq_true rfl] at eqt
    have hl16:=w4.len
    have wi:IntKind.i64.wrap ((pl.length:Int)+1)=(pl.length:Int)+1:=wrap_i64 (by omega) (by omega)
    have hmin:((((t::pl.take 15).length:Nat):Int)=(if (pl.length:Int)+1 < 16 then (pl.length:Int)+1 else 16))=True:=eq_true (by
     simp only [List.length_cons,List.length_take]
     split <;> omega)
    refine ⟨S6,?_⟩
    conv at hr =>
     rhs
     simp only [zSs,reduceIte,zk,zn,zo,zq]
     rw [hT2,hD,hF]
     simp only [zu.code,zu.rs,zSs,reduceIte,zk,zn,zo,zq,xH g5,a4,a5,ix,kG,xH g6,eqt,lnn,lnw,wi,aew,hmin,decide_true]
    rw [hTe] at hr
    exact zu.runs hr (.inr rfl)
   | false =>
    by_cases h16:Za pl t=16
    ·
     have e6:xg pl t=(91,pl):=by unfold xg;rw [hR,hD,if_pos h16];rfl
     simp only [e6] at a4 a5 i1
     have sm:=fun S=>zy.v i1.dem j1.dem (Zc i) (Zc j) (by have:=w4.len;omega) S
     rw [decide_eq_true rfl] at sm
     have hl16:((pl.length:Int)=16)=True:=eq_true (by have:=w4.len;have:=Qw pl t;omega)
     refine ⟨S6,?_⟩
     conv at hr =>
      rhs
      simp only [zSs,reduceIte,zk,zn,zo,zq]
      rw [hT2,hD,hF]
      simp only [zu.code,zu.rs,zSs,reduceIte,zk,zn,zo,zq,xH g5,a4,a5,lnw,hl16,aey,sm,decide_true]
     rw [hTe] at hr
     exact zu.runs hr (.inr rfl)
    ·
     have e6:xg pl t=(0,aaO pl t):=by unfold xg;rw [hR,hD,if_neg h16];rfl
     simp only [e6] at a4 a5 i1
     refine ⟨S6,?_⟩
     conv at hr =>
      rhs
      simp only [zSs,reduceIte,zk,zn,zo,zq]
      rw [hT2,hD,hF]
      simp only [zu.code,zu.rs,zSs,reduceIte,zk,zn,zo,zq,xH g5,a4,a5]
     rw [hTe] at hr
     exact zu.runs hr (.inr rfl)
theorem law (x:Args codes) (h:Args.Good codes x):∃ k,(qJ zi k 5 (Args.place codes x zx.empty).1 (Args.place codes x zx.empty).2).map (·.1)=some (.bool true):=by
 obtain ⟨a,b,u⟩:=x
 obtain ⟨h1,h2,_⟩:=h
 obtain ⟨k,l,p1,p2,p3,p4,p5⟩:=adM a h1
 obtain ⟨t,t1,_⟩:=aen b h2
 obtain ⟨S',e⟩:=run (t:=t) p1 p2 p4 zx.empty
 refine Qy adX (S':=S') ?_
 have e2:Args.ZW codes (a,b,u)=[tl k l,tv t]:=by
  show [kL false ((Ty.slc 16 tTx).ZW a),kL true (tTx.ZW b)]=_
  rw [p3,t1];rfl
 rw [e2]
 exact e
end mempoolBest
end Go.Proofs.Ytacbgjhmkhjpoaa
namespace Go.Proofs.Ytacbgjhmkhjpoaa.mempoolBest
open Go.ChangeShapes Go.WideShapes Go.ChangeAt Go.RowKit Go.Abs
theorem own:ownKnob zi.godebug=none:=by kernel_rfl
theorem laidOut:laidOutB zi=true:=by kernel_rfl
theorem mixes:zi.follows .mixedOrders=true:=by kernel_rfl
set_option maxRecDepth 100000 in
theorem lifted (os:Os) (started:os.Started) (H:Type) (enc:TypeId×Value→H) :
  ReturnsInHanded {} Try.checked os 5 .any (Rows.mempoolBestSpec.pre6 enc zi Try.f5 Rows.mempoolBestRow.domain false) (Rows.mempoolBestSpec.post enc zi Try.f5 false true false false):=by
 refine returnsInHanded_of_change_sized (C:=Try.checked) own started (by kernel_rfl) Try.func5
  (ChangeSpec.witness6 (enc:=enc) (C:=Try.checked) false ⟨#[],#[.slice none 0 0,.agg #[.int .i64 0,.int .i64 0]],[]⟩ 8 (by kernel_rfl) (by kernel_rfl) (by kernel_rfl) (by kernel_rfl)) ?_
 intro W base args ds gs before hval0 hW hcnd hsz0 _
 have hW':=hW
 obtain ⟨p,q,hA0,hV,rfl,hfz,hnd⟩:=hW
 obtain ⟨rfl,rfl⟩:=trodVars_none hV
 have hsz1:(DataW.weightsEach zi (Try.f5.params.toList++Rows.mempoolBestSpec.plain.varTypes zi) (ds++[])).all (·≤reachBytes)=true:=hsz0
 have hval:∀ (j:Nat) t v,Try.f5.params[j]?=some t→args[j]?=some v→Value.okWide zi W .any base t v:=hval0
 have hA1:DataW.TrodAll enc zi W 0 (fun _=>true) true Try.f5.params.toList args.toList ds p:=hA0
 rw [Try.params5] at hA1 hsz1 hval
 have hA:DataW.TrodAll enc zi W 0 (fun _=>true) true [23,30] args.toList ds p:=hA1
 have hsz:(DataW.weightsEach zi [23,30] ds).all (·≤reachBytes)=true:=by rw [List.append_nil ds] at hsz1;exact hsz1
 clear hA0 hA1 hval0 hsz0 hsz1
 have r:=hA
 obtain ⟨v0,vs0,d0,ds0,p0,q0,hargs0,rfl,hp0,h0,r0⟩:=trodAll_cons r
 obtain ⟨v1,vs1,d1,ds1,p1,q1,hargs1,rfl,hp1,h1,r1⟩:=trodAll_cons r0
 obtain ⟨_,rfl,_⟩:=trodAll_nil r1
 refine (V3 mixes coded law hA (fun j t v h1 h2=>hval j t v (by rw [List.getElem?_toArray];exact h1) h2) hsz).mono fun e W' ⟨he,bel⟩=>?_
 subst he
 exact ⟨_,rfl,_,_,_,[],_,[],hW',trodAll_mk1 (shut_bool (by kernel_rfl) _),abl laidOut bel _ _ _ _ (by kernel_rfl) hA,rfl,bel.frame _,fun h=>by cases h⟩
theorem over:Rows.mempoolBestRow.holds Try.pinned (OpenSpec.ofChange Rows.mempoolBestSpec) :=
 OpenClaim.holds_of_wide 5 Try.f5 rfl rfl rfl rfl rfl rfl rfl ⟨rfl,rfl,rfl,rfl,rfl⟩ rfl rfl rfl rfl rfl (by kernel_rfl) Try.func5 (by kernel_rfl)
  (of_decide_eq_true (by kernel_rfl)) (by unfold Func.isWrapper;first | (rw [if_pos (by decide +kernel)];kernel_rfl) | (rw [if_neg (by decide +kernel)];exact ⟨rfl,rfl⟩))
  (fun os started H enc _=>lifted os started H enc)
theorem proved:Rows.MempoolBestSaid:=over
end Go.Proofs.Ytacbgjhmkhjpoaa.mempoolBest
namespace Go.Proofs.Ytacbgjhmkhjpoaa
theorem mempoolBest_holds:Rows.MempoolBestSaid:=mempoolBest.proved
#print axioms mempoolBest_holds
end Go.Proofs.Ytacbgjhmkhjpoaa
