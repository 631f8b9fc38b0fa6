/-
The law JournalRuns returns true for every input, and leaves it as it was; no condition. Part 4 of 5 of the texts (put together by a program: own names are short, what isn't needed is left out).
-/
import Derived.Test.YtblpnklfimkfoaaZJournalRuns3
import Derived.Test.YtblpnklfimkfoaaChecked
import Derived.KernelRfl
set_option linter.unusedVariables false
set_option linter.unusedSimpArgs false
set_option maxRecDepth 100000
open Go renaming undef → zh
open Go.Proofs.Try renaming prog → zi
open Nat renaming reduceEqDiff → zk
open Int renaming reduceEq → zn
open Int renaming reduceLT → zo
open Int renaming reduceLE → zq
namespace Go.Proofs.Ytblpnklfimkfoaa
open Go.Abs
abbrev jf.id:FuncId:=29
noncomputable def jf.code:Code:=(.seq (.region 0 (reg Try.f29 0) false) (.seq (.region 1 (reg Try.f29 1) false) (.seq (.seq (.region 2 (reg Try.f29 2) false) (.cond (.tmp 16) (.seq (.region 3 (reg Try.f29 3) false) Code.ret) Code.skip)) (.seq (.region 4 (reg Try.f29 4) false) (.seq (.region 5 (reg Try.f29 5) false) (.seq (.seq (.region 6 (reg Try.f29 6) false) (.cond (.tmp 26) (.region 7 (reg Try.f29 7) true) Code.skip)) (.seq (.region 8 (reg Try.f29 8) true) Code.ret)))))))
theorem jf.body:Try.f29.body=some jf.code:=by kernel_rfl
variable (x0 x1 x2 x3 a x5 x6 x7 x8 x9 b c d f g i k l m n o p q r s t u w x y z A B C D E F G H I J K L M N P Q R U V W X Y:Value) (S:zx)
theorem jf.r0 :jF zi ⟨false,false,false⟩ (jm zi O) (reg Try.f29 0) (reg Try.f29 0).toList ([x0,x1,x2,x3,a,x5,x6,x7,x8,x9,b,c,d,f,g,i,k,l,m,n,o,p,q,r,s,t,u,w,x,y,z,A,B,C,D,E,F,G,H,I,J,K,L,M,N,P,Q,R,U,V,W,X,Y]) S =
  (zU (yS zi 28 S) (fun v0 Z=>some ([x0,x1,v0,Value.bool false,a,x5,x6,x7,x8,x9,b,c,d,f,g,i,k,l,m,n,o,p,q,r,s,t,u,w,x,y,z,A,B,C,D,E,F,G,H,I,J,K,L,M,N,P,Q,R,U,V,W,X,Y],Z)) ()):=by
 kernel_rfl
theorem jf.r1 :jF zi ⟨false,false,false⟩ (jm zi O) (reg Try.f29 1) (reg Try.f29 1).toList ([x0,x1,x2,x3,a,x5,x6,x7,x8,x9,b,c,d,f,g,i,k,l,m,n,o,p,q,r,s,t,u,w,x,y,z,A,B,C,D,E,F,G,H,I,J,K,L,M,N,P,Q,R,U,V,W,X,Y]) S =
  (zU ((jm zi O) 44 [(dem (dem x0)),(.int .i64 4)] S) (fun v1 Z=>zU (zW v1 0 Z) (fun v3 S2=>zU (zW (jd 0 v1) 1 S2) (fun v4 S3=>zU (zW (jd 1 (jd 0 v1)) 2 S3) (fun v5 S4=>some ([x0,x1,x2,x3,v3,v4,v5,x7,x8,jd 2 (jd 1 (jd 0 v1)),dem x0,dem v1,dem v3,dem v4,dem v5,i,k,l,m,n,o,p,q,r,s,t,u,w,x,y,z,A,B,C,D,E,F,G,H,I,J,K,L,M,N,P,Q,R,U,V,W,X,Y],S4)) ()) ()) ()) ()):=by
 kernel_rfl
theorem jf.r2 :jF zi ⟨false,false,false⟩ (jm zi O) (reg Try.f29 2) (reg Try.f29 2).toList ([x0,x1,x2,x3,a,x5,x6,x7,x8,x9,b,c,d,f,g,i,k,l,m,n,o,p,q,r,s,t,u,w,x,y,z,A,B,C,D,E,F,G,H,I,J,K,L,M,N,P,Q,R,U,V,W,X,Y]) S =
  (zU (wu zi BinOp.neq 29 (dem x6) (.int .i64 0) S) (fun v1 Z=>some ([x0,x1,x2,x3,a,x5,x6,x7,x8,x9,b,c,d,f,g,dem x6,v1,l,m,n,o,p,q,r,s,t,u,w,x,y,z,A,B,C,D,E,F,G,H,I,J,K,L,M,N,P,Q,R,U,V,W,X,Y],Z)) ()):=by
 kernel_rfl
theorem jf.r3 :jF zi ⟨false,false,false⟩ (jm zi O) (reg Try.f29 3) (reg Try.f29 3).toList ([x0,x1,x2,x3,a,x5,x6,x7,x8,x9,b,c,d,f,g,i,k,l,m,n,o,p,q,r,s,t,u,w,x,y,z,A,B,C,D,E,F,G,H,I,J,K,L,M,N,P,Q,R,U,V,W,X,Y]) S =
  (zU (yu zi 28 [] S) (fun v0 Z=>zU (wz zi 28 x2 (dem v0) Z) (fun v1 S2=>some ([x0,x1,x2,Value.bool false,a,x5,x6,x7,x8,x9,b,c,d,f,g,i,k,v0,m,n,o,p,q,r,s,t,u,w,x,y,z,A,B,C,D,E,F,G,H,I,J,K,L,M,N,P,Q,R,U,V,W,X,Y],S2)) ()) ()):=by
 kernel_rfl
theorem jf.r4 :jF zi ⟨false,false,false⟩ (jm zi O) (reg Try.f29 4) (reg Try.f29 4).toList ([x0,x1,x2,x3,a,x5,x6,x7,x8,x9,b,c,d,f,g,i,k,l,m,n,o,p,q,r,s,t,u,w,x,y,z,A,B,C,D,E,F,G,H,I,J,K,L,M,N,P,Q,R,U,V,W,X,Y]) S =
  (zU ((jm zi O) 28 [(dem (dem x5))] S) (fun v1 Z=>zU (zW v1 0 Z) (fun v3 S2=>zU (zW (jd 0 v1) 1 S2) (fun v4 S3=>zU (zW (jd 1 (jd 0 v1)) 2 S3) (fun v5 S4=>some ([x0,x1,x2,x3,a,v4,v5,v3,x8,x9,b,c,d,f,g,i,k,l,jd 2 (jd 1 (jd 0 v1)),dem x5,dem v1,dem v3,dem v4,dem v5,s,t,u,w,x,y,z,A,B,C,D,E,F,G,H,I,J,K,L,M,N,P,Q,R,U,V,W,X,Y],S4)) ()) ()) ()) ()):=by
 kernel_rfl
theorem jf.r5 :jF zi ⟨false,false,false⟩ (jm zi O) (reg Try.f29 5) (reg Try.f29 5).toList ([x0,x1,x2,x3,a,x5,x6,x7,x8,x9,b,c,d,f,g,i,k,l,m,n,o,p,q,r,s,t,u,w,x,y,z,A,B,C,D,E,F,G,H,I,J,K,L,M,N,P,Q,R,U,V,W,X,Y]) S =
  (zU (yu zi 28 [] S) (fun v0 Z=>zU (yS zi 28 Z) (fun v1 S2=>zU (wz zi 28 v1 (dem v0) S2) (fun v2 S3=>some ([x0,x1,x2,x3,a,x5,x6,x7,v1,x9,b,c,d,f,g,i,k,l,m,n,o,p,q,r,v0,t,u,w,x,y,z,A,B,C,D,E,F,G,H,I,J,K,L,M,N,P,Q,R,U,V,W,X,Y],S3)) ()) ()) ()):=by
 kernel_rfl
theorem jf.r6 :jF zi ⟨false,false,false⟩ (jm zi O) (reg Try.f29 6) (reg Try.f29 6).toList ([x0,x1,x2,x3,a,x5,x6,x7,x8,x9,b,c,d,f,g,i,k,l,m,n,o,p,q,r,s,t,u,w,x,y,z,A,B,C,D,E,F,G,H,I,J,K,L,M,N,P,Q,R,U,V,W,X,Y]) S =
  (zU (wu zi BinOp.eql 29 (dem x6) (.int .i64 0) S) (fun v1 Z=>some ([x0,x1,x2,x3,a,x5,x6,x7,x8,x9,b,c,d,f,g,i,k,l,m,n,o,p,q,r,s,dem x6,v1,w,x,y,z,A,B,C,D,E,F,G,H,I,J,K,L,M,N,P,Q,R,U,V,W,X,Y],Z)) ()):=by
 kernel_rfl
theorem jf.d7:qO zi (reg Try.f29 7)=true:=by kernel_rfl
theorem jf.ff7:fixed zi (reg Try.f29 7)=false:=by kernel_rfl
theorem jf.k7:checked zi (reg Try.f29 7)=[]:=by kernel_rfl
theorem jf.g7:again zi (reg Try.f29 7)=[]:=by kernel_rfl
theorem jf.r7 :zI zi O false (.region 7 (reg Try.f29 7) true) ([x0,x1,x2,x3,a,x5,x6,x7,x8,x9,b,c,d,f,g,i,k,l,m,n,o,p,q,r,s,t,u,w,x,y,z,A,B,C,D,E,F,G,H,I,J,K,L,M,N,P,Q,R,U,V,W,X,Y]) S =
  J4 (zU (jI zi 56 (dem a) (.int .i64 0) S) (fun v1 Z=>zU (jE zi false 3 v1 Z) (fun v2 S2=>zU (jI zi 56 (dem a) (.int .i64 1) S2) (fun v4 S3=>zU (jE zi false 3 v4 S3) (fun v5 S4=>zU (jI zi 56 (dem a) (.int .i64 2) S4) (fun v7 S5=>zU (jE zi false 3 v7 S5) (fun v8 S6=>zU (jI zi 56 (dem a) (.int .i64 3) S6) (fun a1 S7=>zU (jE zi false 3 a1 S7) (fun a0 S8=>zU (yu zi 28 [(0,(dem v2)),(1,(dem v5)),(2,(dem v8)),(3,(dem a0)),(4,(dem (dem x7)))] S8) (fun a3 S9=>zU (wz zi 28 x8 (dem a3) S9) (fun a4 a2=>some ([x0,x1,x2,x3,a,x5,x6,x7,x8,x9,b,c,d,f,g,i,k,l,m,n,o,p,q,r,s,t,u,dem a,v1,v2,dem a,v4,v5,dem a,v7,v8,dem a,a1,a0,dem x7,a3,K,L,M,N,P,Q,R,U,V,W,X,Y],a2)) ()) ()) ()) ()) ()) ()) ()) ()) ()) ()):=by
 rw [yO jf.d7 jf.ff7 jf.k7 jf.g7]
 refine congrArg J4 ?_
 refine tP Try.f29 7 0 (v:=a) ?_
 refine tD Try.f29 7 1 (fun v1 Z=>?_)
 refine tD Try.f29 7 2 (fun v2 S2=>?_)
 refine tP Try.f29 7 3 (v:=a) ?_
 refine tD Try.f29 7 4 (fun v4 S3=>?_)
 refine tD Try.f29 7 5 (fun v5 S4=>?_)
 refine tP Try.f29 7 6 (v:=a) ?_
 refine tD Try.f29 7 7 (fun v7 S5=>?_)
 refine tD Try.f29 7 8 (fun v8 S6=>?_)
 refine tP Try.f29 7 9 (v:=a) ?_
 refine tD Try.f29 7 10 (fun a1 S7=>?_)
 refine tD Try.f29 7 11 (fun a0 S8=>?_)
 refine tP Try.f29 7 12 (v:=x7) ?_
 refine tD Try.f29 7 13 (fun a3 S9=>?_)
 refine tD Try.f29 7 14 (fun a4 a2=>?_)
 kernel_rfl
theorem jf.d8:qO zi (reg Try.f29 8)=true:=by kernel_rfl
theorem jf.ff8:fixed zi (reg Try.f29 8)=false:=by kernel_rfl
theorem jf.k8:checked zi (reg Try.f29 8)=[0,11]:=by kernel_rfl
theorem jf.g8:again zi (reg Try.f29 8)=[(0,10)]:=by kernel_rfl
theorem jf.r8 :zI zi O false (.region 8 (reg Try.f29 8) true) ([x0,x1,x2,x3,a,x5,x6,x7,x8,x9,b,c,d,f,g,i,k,l,m,n,o,p,q,r,s,t,u,w,x,y,z,A,B,C,D,E,F,G,H,I,J,K,L,M,N,P,Q,R,U,V,W,X,Y]) S =
  J4 (zU (jE zi false 28 x8 S) (fun v0 Z=>okK v0 ( zU (wu zi BinOp.eql 29 (dem x6) (.int .i64 0) Z) (fun v2 S2=>gdK (dem v2) true (ret x5) S2 (fun v4 S3=>gdK (dem v2) true (ku zi 26 (dem v4)) S3 (fun v5 S4=>gdK (dem v2) true (wu zi BinOp.eql 3 v5 (.int .i64 0)) S4 (fun v6 S5=>zU (ql (dem v2) v6 (Value.bool false) S5) (fun v7 S6=>gdK (dem v7) true (jE zi false 28 x8) S6 (fun v9 S7=>gdK (dem v7) true ((jm zi O) 31 [(dem v9)]) S7 (fun a1 S8=>zU (ql (dem v7) a1 (Value.bool false) S8) (fun a0 S9=>okK a0 ( zU (wz zi 28 x2 (dem v0) S9) (fun a5 a2=>ckK (qM x8 S S8 && (true)) (some ([x0,x1,x2,a0,a,x5,x6,x7,x8,x9,b,c,d,f,g,i,k,l,m,n,o,p,q,r,s,t,u,w,x,y,z,A,B,C,D,E,F,G,H,I,J,v0,dem x6,v2,dem v2,dem v4,v5,v6,v7,dem v7,v9,a1,dem a0],a2)) ()) ()) ()) ()) ()) ()) ()) ()) ()) ()) ()) ()) ()):=by
 rw [yO jf.d8 jf.ff8 jf.k8 jf.g8]
 refine congrArg J4 ?_
 refine uDC Try.f29 8 0 (pe:=x8) (fun v0 Z=>?_)
 refine uP Try.f29 8 1 (v:=x6) (pe:=zh) ?_
 refine uD Try.f29 8 2 (pe:=zh) (fun v2 S2=>?_)
 refine uP Try.f29 8 3 (v:=v2) (pe:=zh) ?_
 refine uG Try.f29 8 4 (j:=3) (pe:=zh) (fun v4 S3=>?_)
 refine uG Try.f29 8 5 (j:=3) (pe:=zh) (fun v5 S4=>?_)
 refine uG Try.f29 8 6 (j:=3) (pe:=zh) (fun v6 S5=>?_)
 refine uD Try.f29 8 7 (pe:=zh) (fun v7 S6=>?_)
 refine uP Try.f29 8 8 (v:=v7) (pe:=zh) ?_
 refine uG Try.f29 8 9 (j:=8) (pe:=x8) (fun v9 S7=>?_)
 refine uG Try.f29 8 10 (j:=8) (pe:=zh) (fun a1 S8=>?_)
 refine uDC Try.f29 8 11 (pe:=zh) (fun a0 S9=>?_)
 refine uD Try.f29 8 12 (pe:=zh) (fun a5 a2=>?_)
 refine uP Try.f29 8 13 (v:=a0) (pe:=zh) ?_
 kernel_rfl
theorem jf.rs:type_of% (aij @jf.r0 (aij @jf.r1 (aij @jf.r2 (aij @jf.r3 (aij @jf.r4 (aij @jf.r5 (aij @jf.r6 (aij @jf.r7 (@jf.r8))))))))):=aij @jf.r0 (aij @jf.r1 (aij @jf.r2 (aij @jf.r3 (aij @jf.r4 (aij @jf.r5 (aij @jf.r6 (aij @jf.r7 (@jf.r8))))))))
theorem jf.runs {x0:Value} {S Z:zx} {e:AEx} {T:List Value} (h:zI zi O false jf.code ([x0,zh,zh,zh,zh,zh,zh,zh,zh,zh,zh,zh,zh,zh,zh,zh,zh,zh,zh,zh,zh,zh,zh,zh,zh,zh,zh,zh,zh,zh,zh,zh,zh,zh,zh,zh,zh,zh,zh,zh,zh,zh,zh,zh,zh,zh,zh,zh,zh,zh,zh,zh,zh]) zx.empty=some (e,T,Z)) (he:e=.normal∨e=.ret) {w0:Value} (c0:jE zi false 28 (T.getD 2 zh) Z=some (w0,Z)) (h0:jK (w0)=true) (h1:jK (T.getD 3 zh)=true) (hca:[x0].all (jD 16)=true) (hcv:jD 16 (Value.tuple #[w0,T.getD 3 zh])=true):jm zi O 29 [x0] S=some (Value.tuple #[w0,T.getD 3 zh],S) :=
 yL rfl rfl Try.func29 (by decide) jf.body (by exact h) he ((wR ((show zX zi T Z Try.f29.results.toList=zX zi T Z [(ResultVar.cell 2 28),(ResultVar.tmp 3)] from by kernel_rfl).trans (by simp only [zX,c0])) (by kernel_rfl) (by simp only [List.all_cons,List.all_nil,h0,h1,Bool.and_true])).trans rfl) hca hcv
end Go.Proofs.Ytblpnklfimkfoaa
namespace Go.Proofs.Ytblpnklfimkfoaa
open Go.Abs
abbrev zK.id:FuncId:=9
noncomputable def zK.jG:Code:=(.seq (.seq (.region 3 (reg Try.f9 3) false) (.cond (.tmp 14) Code.skip (.exit 0))) (.block 1 (.seq (.region 4 (reg Try.f9 4) false) (.seq (.seq (.region 5 (reg Try.f9 5) false) (.cond (.tmp 24) (.exit 0) Code.skip)) (.seq (.region 6 (reg Try.f9 6) false) (.seq (.seq (.region 7 (reg Try.f9 7) false) (.cond (.tmp 31) (.exit 0) Code.skip)) (.seq (.region 8 (reg Try.f9 8) false) (.region 9 (reg Try.f9 9) false))))))))
noncomputable def zK.code:Code:=(.seq (.region 0 (reg Try.f9 0) false) (.seq (.region 1 (reg Try.f9 1) false) (.seq (.region 2 (reg Try.f9 2) false) (.seq (.block 0 (.loop zK.jG)) (.seq (.region 10 (reg Try.f9 10) false) Code.ret)))))
theorem zK.body:Try.f9.body=some zK.code:=by kernel_rfl
theorem zK.eta {T:List Value} (h:T.length=43):T=[T.getD 0 zh,T.getD 1 zh,T.getD 2 zh,T.getD 3 zh,T.getD 4 zh,T.getD 5 zh,T.getD 6 zh,T.getD 7 zh,T.getD 8 zh,T.getD 9 zh,T.getD 10 zh,T.getD 11 zh,T.getD 12 zh,T.getD 13 zh,T.getD 14 zh,T.getD 15 zh,T.getD 16 zh,T.getD 17 zh,T.getD 18 zh,T.getD 19 zh,T.getD 20 zh,T.getD 21 zh,T.getD 22 zh,T.getD 23 zh,T.getD 24 zh,T.getD 25 zh,T.getD 26 zh,T.getD 27 zh,T.getD 28 zh,T.getD 29 zh,T.getD 30 zh,T.getD 31 zh,T.getD 32 zh,T.getD 33 zh,T.getD 34 zh,T.getD 35 zh,T.getD 36 zh,T.getD 37 zh,T.getD 38 zh,T.getD 39 zh,T.getD 40 zh,T.getD 41 zh,T.getD 42 zh]:=(yJ T 43 h).trans (by kernel_rfl)
variable (b Q U V L K M N P R a c d f g i j k l m n o p q r s t u v w x y z A B C D E F G H I J:Value) (S:zx)
theorem zK.r0 :jF zi ⟨false,false,false⟩ (jm zi O) (reg Try.f9 0) (reg Try.f9 0).toList ([b,Q,U,V,L,K,M,N,P,R,a,c,d,f,g,i,j,k,l,m,n,o,p,q,r,s,t,u,v,w,x,y,z,A,B,C,D,E,F,G,H,I,J]) S =
  ( some ([b,Q,Value.slice none 0 0,.int .i64 0,L,K,M,N,P,R,a,c,d,f,g,i,j,k,l,m,n,o,p,q,r,s,t,u,v,w,x,y,z,A,B,C,D,E,F,G,H,I,J],S)):=by
 kernel_rfl
theorem zK.r1 :jF zi ⟨false,false,false⟩ (jm zi O) (reg Try.f9 1) (reg Try.f9 1).toList ([b,Q,U,V,L,K,M,N,P,R,a,c,d,f,g,i,j,k,l,m,n,o,p,q,r,s,t,u,v,w,x,y,z,A,B,C,D,E,F,G,H,I,J]) S =
  ( some ([b,Q,U,V,Value.slice none 0 0,K,M,N,P,R,a,c,d,f,g,i,j,k,l,m,n,o,p,q,r,s,t,u,v,w,x,y,z,A,B,C,D,E,F,G,H,I,J],S)):=by
 kernel_rfl
theorem zK.r2 :jF zi ⟨false,false,false⟩ (jm zi O) (reg Try.f9 2) (reg Try.f9 2).toList ([b,Q,U,V,L,K,M,N,P,R,a,c,d,f,g,i,j,k,l,m,n,o,p,q,r,s,t,u,v,w,x,y,z,A,B,C,D,E,F,G,H,I,J]) S =
  ( some ([b,Q,U,V,L,.int .i64 0,M,N,P,R,a,c,d,f,g,i,j,k,l,m,n,o,p,q,r,s,t,u,v,w,x,y,z,A,B,C,D,E,F,G,H,I,J],S)):=by
 kernel_rfl
theorem zK.r3 :jF zi ⟨false,false,false⟩ (jm zi O) (reg Try.f9 3) (reg Try.f9 3).toList ([b,Q,U,V,L,K,M,N,P,R,a,c,d,f,g,i,j,k,l,m,n,o,p,q,r,s,t,u,v,w,x,y,z,A,B,C,D,E,F,G,H,I,J]) S =
  (zU (ku zi 26 (dem b) S) (fun v2 W=>zU (wu zi BinOp.lss 3 (dem K) v2 W) (fun X Z=>some ([b,Q,U,V,L,K,M,N,P,R,a,dem K,dem b,v2,X,i,j,k,l,m,n,o,p,q,r,s,t,u,v,w,x,y,z,A,B,C,D,E,F,G,H,I,J],Z)) ()) ()):=by
 kernel_rfl
theorem zK.r4 :jF zi ⟨false,false,false⟩ (jm zi O) (reg Try.f9 4) (reg Try.f9 4).toList ([b,Q,U,V,L,K,M,N,P,R,a,c,d,f,g,i,j,k,l,m,n,o,p,q,r,s,t,u,v,w,x,y,z,A,B,C,D,E,F,G,H,I,J]) S =
  (zU (yc zi false 26 (dem b) (some (dem K)) none S) (fun v2 W=>zU ((jm zi O) 28 [(dem v2)] W) (fun X Z=>zU (zW X 0 Z) (fun v5 S3=>zU (zW (jd 0 X) 1 S3) (fun v6 S4=>zU (zW (jd 1 (jd 0 X)) 2 S4) (fun v7 S5=>some ([b,Q,U,V,L,K,v5,v6,v7,R,a,c,d,f,g,jd 2 (jd 1 (jd 0 X)),dem b,dem K,v2,dem X,dem v5,dem v6,dem v7,q,r,s,t,u,v,w,x,y,z,A,B,C,D,E,F,G,H,I,J],S5)) ()) ()) ()) ()) ()):=by
 kernel_rfl
theorem zK.r5 :jF zi ⟨false,false,false⟩ (jm zi O) (reg Try.f9 5) (reg Try.f9 5).toList ([b,Q,U,V,L,K,M,N,P,R,a,c,d,f,g,i,j,k,l,m,n,o,p,q,r,s,t,u,v,w,x,y,z,A,B,C,D,E,F,G,H,I,J]) S =
  (zU (wu zi BinOp.neq 29 (dem P) (.int .i64 0) S) (fun Y W=>some ([b,Q,U,V,L,K,M,N,P,R,a,c,d,f,g,i,j,k,l,m,n,o,p,dem P,Y,s,t,u,v,w,x,y,z,A,B,C,D,E,F,G,H,I,J],W)) ()):=by
 kernel_rfl
theorem zK.r6 :jF zi ⟨false,false,false⟩ (jm zi O) (reg Try.f9 6) (reg Try.f9 6).toList ([b,Q,U,V,L,K,M,N,P,R,a,c,d,f,g,i,j,k,l,m,n,o,p,q,r,s,t,u,v,w,x,y,z,A,B,C,D,E,F,G,H,I,J]) S =
  (zU ((jm zi O) 29 [(dem (dem M))] S) (fun Y W=>zU (zW Y 0 W) (fun X Z=>zU (zW (jd 0 Y) 1 Z) (fun v4 S3=>zU (yS zi 28 S3) (fun v5 S4=>zU (wz zi 28 v5 (dem X) S4) (fun v6 S5=>some ([b,Q,U,V,L,K,M,N,P,v5,v4,c,d,f,g,i,j,k,l,m,n,o,p,q,r,jd 1 (jd 0 Y),dem M,dem Y,X,dem v4,x,y,z,A,B,C,D,E,F,G,H,I,J],S5)) ()) ()) ()) ()) ()):=by
 kernel_rfl
theorem zK.r7 :jF zi ⟨false,false,false⟩ (jm zi O) (reg Try.f9 7) (reg Try.f9 7).toList ([b,Q,U,V,L,K,M,N,P,R,a,c,d,f,g,i,j,k,l,m,n,o,p,q,r,s,t,u,v,w,x,y,z,A,B,C,D,E,F,G,H,I,J]) S =
  (zU (aUn zi UnOp.not (dem a) S) (fun Y W=>some ([b,Q,U,V,L,K,M,N,P,R,a,c,d,f,g,i,j,k,l,m,n,o,p,q,r,s,t,u,v,w,dem a,Y,z,A,B,C,D,E,F,G,H,I,J],W)) ()):=by
 kernel_rfl
theorem zK.r8 :jF zi ⟨false,false,false⟩ (jm zi O) (reg Try.f9 8) (reg Try.f9 8).toList ([b,Q,U,V,L,K,M,N,P,R,a,c,d,f,g,i,j,k,l,m,n,o,p,q,r,s,t,u,v,w,x,y,z,A,B,C,D,E,F,G,H,I,J]) S =
  (zU (jE zi false 28 R S) (fun Y W=>zU (jH zi 22 1 [(0,Y)] W) (fun v2 Z=>zU (jV zi 22 22 L v2 Z) (fun X S3=>some ([b,Q,U,V,X,K,M,N,P,R,a,c,d,f,g,i,j,k,l,m,n,o,p,q,r,s,t,u,v,w,x,y,dem L,Y,v2,dem X,D,E,F,G,H,I,J],S3)) ()) ()) ()):=by
 kernel_rfl
theorem zK.r9 :jF zi ⟨false,false,false⟩ (jm zi O) (reg Try.f9 9) (reg Try.f9 9).toList ([b,Q,U,V,L,K,M,N,P,R,a,c,d,f,g,i,j,k,l,m,n,o,p,q,r,s,t,u,v,w,x,y,z,A,B,C,D,E,F,G,H,I,J]) S =
  (zU (ku zi 26 (dem b) S) (fun Y W=>zU (ku zi 26 (dem N) W) (fun X Z=>zU (wu zi BinOp.sub 3 Y X Z) (fun v4 S3=>some ([b,Q,U,V,L,v4,M,N,P,R,a,c,d,f,g,i,j,k,l,m,n,o,p,q,r,s,t,u,v,w,x,y,z,A,B,C,dem b,Y,dem N,X,dem v4,I,J],S3)) ()) ()) ()):=by
 kernel_rfl
theorem zK.r10 :jF zi ⟨false,false,false⟩ (jm zi O) (reg Try.f9 10) (reg Try.f9 10).toList ([b,Q,U,V,L,K,M,N,P,R,a,c,d,f,g,i,j,k,l,m,n,o,p,q,r,s,t,u,v,w,x,y,z,A,B,C,D,E,F,G,H,I,J]) S =
  ( some ([b,Q,L,K,dem L,dem K,M,N,P,R,a,c,d,f,g,i,j,k,l,m,n,o,p,q,r,s,t,u,v,w,x,y,z,A,B,C,D,E,F,G,H,dem L,dem K],S)):=by
 kernel_rfl
theorem zK.rs:type_of% (aij @zK.r0 (aij @zK.r1 (aij @zK.r2 (aij @zK.r3 (aij @zK.r4 (aij @zK.r5 (aij @zK.r6 (aij @zK.r7 (aij @zK.r8 (aij @zK.r9 (@zK.r10))))))))))):=aij @zK.r0 (aij @zK.r1 (aij @zK.r2 (aij @zK.r3 (aij @zK.r4 (aij @zK.r5 (aij @zK.r6 (aij @zK.r7 (aij @zK.r8 (aij @zK.r9 (@zK.r10))))))))))
theorem zK.runs {b:Value} {S W:zx} {e:AEx} {T:List Value} (h:zI zi O false zK.code ([b,zh,zh,zh,zh,zh,zh,zh,zh,zh,zh,zh,zh,zh,zh,zh,zh,zh,zh,zh,zh,zh,zh,zh,zh,zh,zh,zh,zh,zh,zh,zh,zh,zh,zh,zh,zh,zh,zh,zh,zh,zh,zh]) zx.empty=some (e,T,W)) (he:e=.normal∨e=.ret)  (h0:jK (T.getD 2 zh)=true) (h1:jK (T.getD 3 zh)=true) (hca:[b].all (jD 16)=true) (hcv:jD 16 (Value.tuple #[T.getD 2 zh,T.getD 3 zh])=true):jm zi O 9 [b] S=some (Value.tuple #[T.getD 2 zh,T.getD 3 zh],S) :=
 yL rfl rfl Try.func9 (by decide) zK.body (by exact h) he ((wR ((show zX zi T W Try.f9.results.toList=zX zi T W [(ResultVar.tmp 2),(ResultVar.tmp 3)] from by kernel_rfl).trans (by simp only [zX])) (by kernel_rfl) (by simp only [List.all_cons,List.all_nil,h0,h1,Bool.and_true])).trans rfl) hca hcv
end Go.Proofs.Ytblpnklfimkfoaa
namespace Go.Proofs.Ytblpnklfimkfoaa
open Go.Abs
abbrev zL.id:FuncId:=31
noncomputable def zL.jG:Code:=(.seq (.region 2 (reg Try.f31 2) false) (.seq (.cond (.tmp 16) Code.skip (.exit 0)) (.seq (.block 1 (.seq (.region 3 (reg Try.f31 3) false) (.seq (.region 4 (reg Try.f31 4) false) (.cond (.tmp 24) (.seq (.region 5 (reg Try.f31 5) false) Code.ret) Code.skip)))) (.region 6 (reg Try.f31 6) false))))
noncomputable def zL.code:Code:=(.seq (.region 0 (reg Try.f31 0) false) (.seq (.seq (.region 1 (reg Try.f31 1) false) (.block 0 (.loop zL.jG))) (.seq (.region 7 (reg Try.f31 7) false) Code.ret)))
theorem zL.body:Try.f31.body=some zL.code:=by kernel_rfl
theorem zL.eta {T:List Value} (h:T.length=30):T=[T.getD 0 zh,T.getD 1 zh,T.getD 2 zh,T.getD 3 zh,T.getD 4 zh,T.getD 5 zh,T.getD 6 zh,T.getD 7 zh,T.getD 8 zh,T.getD 9 zh,T.getD 10 zh,T.getD 11 zh,T.getD 12 zh,T.getD 13 zh,T.getD 14 zh,T.getD 15 zh,T.getD 16 zh,T.getD 17 zh,T.getD 18 zh,T.getD 19 zh,T.getD 20 zh,T.getD 21 zh,T.getD 22 zh,T.getD 23 zh,T.getD 24 zh,T.getD 25 zh,T.getD 26 zh,T.getD 27 zh,T.getD 28 zh,T.getD 29 zh]:=(yJ T 30 h).trans (by kernel_rfl)
variable (z A L D B F G H I J f g i c d b k l m n o p q r s t u w x y:Value) (S:zx)
theorem zL.r0 :jF zi ⟨false,false,false⟩ (jm zi O) (reg Try.f31 0) (reg Try.f31 0).toList ([z,A,L,D,B,F,G,H,I,J,f,g,i,c,d,b,k,l,m,n,o,p,q,r,s,t,u,w,x,y]) S =
  (zU (JV (dem z) S) (fun K C=>some ([z,K,Value.bool false,D,B,F,G,H,I,J,f,g,i,c,d,b,k,l,m,n,o,p,q,r,s,t,u,w,x,y],C)) ()):=by
 kernel_rfl
theorem zL.r1 :jF zi ⟨false,false,false⟩ (jm zi O) (reg Try.f31 1) (reg Try.f31 1).toList ([z,A,L,D,B,F,G,H,I,J,f,g,i,c,d,b,k,l,m,n,o,p,q,r,s,t,u,w,x,y]) S =
  (zU (zS zi 28 A 0 S) (fun K C=>zU (jE zi false 3 K C) (fun E N=>zU (zS zi 28 A 1 N) (fun U P=>zU (jE zi false 3 U P) (fun M Q=>zU (zS zi 28 A 2 Q) (fun R S5=>zU (jE zi false 3 R S5) (fun V S6=>zU (zS zi 28 A 3 S6) (fun W S7=>zU (jE zi false 3 W S7) (fun X S8=>zU (jH zi 56 4 [(0,E),(1,M),(2,V),(3,X)] S8) (fun Y S9=>zU (ku zi 56 Y S9) (fun v9 Z=>some ([z,A,L,D,B,K,E,U,M,R,V,W,X,Y,v9,.int .i64 0,k,l,m,n,o,p,q,r,s,t,u,w,x,y],Z)) ()) ()) ()) ()) ()) ()) ()) ()) ()) ()):=by
 kernel_rfl
theorem zL.r2 :jF zi ⟨false,false,false⟩ (jm zi O) (reg Try.f31 2) (reg Try.f31 2).toList ([z,A,L,D,B,F,G,H,I,J,f,g,i,c,d,b,k,l,m,n,o,p,q,r,s,t,u,w,x,y]) S =
  (zU (wu zi BinOp.lss 3 b d S) (fun K C=>some ([z,A,L,D,B,F,G,H,I,J,f,g,i,c,d,b,K,l,m,n,o,p,q,r,s,t,u,w,x,y],C)) ()):=by
 kernel_rfl
theorem zL.r3 :jF zi ⟨false,false,false⟩ (jm zi O) (reg Try.f31 3) (reg Try.f31 3).toList ([z,A,L,D,B,F,G,H,I,J,f,g,i,c,d,b,k,l,m,n,o,p,q,r,s,t,u,w,x,y]) S =
  (zU (jI zi 56 c b S) (fun K C=>zU (jE zi false 3 K C) (fun E N=>some ([z,A,L,D,E,F,G,H,I,J,f,g,i,c,d,b,k,K,dem E,n,o,p,q,r,s,t,u,w,x,y],N)) ()) ()):=by
 kernel_rfl
theorem zL.r4 :jF zi ⟨false,false,false⟩ (jm zi O) (reg Try.f31 4) (reg Try.f31 4).toList ([z,A,L,D,B,F,G,H,I,J,f,g,i,c,d,b,k,l,m,n,o,p,q,r,s,t,u,w,x,y]) S =
  (zU (wu zi BinOp.lss 3 (dem B) (.int .i64 (-1)) S) (fun E C=>gdK (dem E) false (ret B) C (fun M N=>gdK (dem E) false (wu zi BinOp.gtr 3 (dem M) (.int .i64 1073741824)) N (fun R P=>zU (ql (dem E) (Value.bool true) R P) (fun V Q=>some ([z,A,L,D,B,F,G,H,I,J,f,g,i,c,d,b,k,l,m,dem B,E,dem E,dem M,R,V,t,u,w,x,y],Q)) ()) ()) ()) ()):=by
 refine sP Try.f31 4 0 (v:=B) ?_
 refine sD Try.f31 4 1 (fun E C=>?_)
 refine sP Try.f31 4 2 (v:=E) ?_
 refine sG Try.f31 4 3 (j:=2) (fun M N=>?_)
 refine sG Try.f31 4 4 (j:=2) (fun R P=>?_)
 refine sD Try.f31 4 5 (fun V Q=>?_)
 kernel_rfl
theorem zL.r5 :jF zi ⟨false,false,false⟩ (jm zi O) (reg Try.f31 5) (reg Try.f31 5).toList ([z,A,L,D,B,F,G,H,I,J,f,g,i,c,d,b,k,l,m,n,o,p,q,r,s,t,u,w,x,y]) S =
  ( some ([z,A,Value.bool false,D,B,F,G,H,I,J,f,g,i,c,d,b,k,l,m,n,o,p,q,r,s,t,u,w,x,y],S)):=by
 kernel_rfl
theorem zL.r6 :jF zi ⟨false,false,false⟩ (jm zi O) (reg Try.f31 6) (reg Try.f31 6).toList ([z,A,L,D,B,F,G,H,I,J,f,g,i,c,d,b,k,l,m,n,o,p,q,r,s,t,u,w,x,y]) S =
  (zU (wu zi BinOp.add 3 b (.int .i64 1) S) (fun K C=>some ([z,A,L,D,B,F,G,H,I,J,f,g,i,c,d,dem K,k,l,m,n,o,p,q,r,s,K,u,w,x,y],C)) ()):=by
 kernel_rfl
theorem zL.r7 :jF zi ⟨false,false,false⟩ (jm zi O) (reg Try.f31 7) (reg Try.f31 7).toList ([z,A,L,D,B,F,G,H,I,J,f,g,i,c,d,b,k,l,m,n,o,p,q,r,s,t,u,w,x,y]) S =
  (zU (zS zi 28 A 4 S) (fun K C=>zU (jE zi false 26 K C) (fun E N=>zU (ku zi 26 E N) (fun U P=>zU (wu zi BinOp.leq 3 U (.int .i64 1024) P) (fun M Q=>some ([z,A,M,D,B,F,G,H,I,J,f,g,i,c,d,b,k,l,m,n,o,p,q,r,s,t,K,E,U,dem M],Q)) ()) ()) ()) ()):=by
 kernel_rfl
theorem zL.rs:type_of% (aij @zL.r0 (aij @zL.r1 (aij @zL.r2 (aij @zL.r3 (aij @zL.r4 (aij @zL.r5 (aij @zL.r6 (@zL.r7)))))))):=aij @zL.r0 (aij @zL.r1 (aij @zL.r2 (aij @zL.r3 (aij @zL.r4 (aij @zL.r5 (aij @zL.r6 (@zL.r7)))))))
theorem zL.runs {z:Value} {S C:zx} {e:AEx} {T:List Value} (h:zI zi O false zL.code ([z,zh,zh,zh,zh,zh,zh,zh,zh,zh,zh,zh,zh,zh,zh,zh,zh,zh,zh,zh,zh,zh,zh,zh,zh,zh,zh,zh,zh,zh]) zx.empty=some (e,T,C)) (he:e=.normal∨e=.ret) (hca:[z].all (jD 16)=true) (hcv:jD 16 (T.getD 2 zh)=true):jm zi O 31 [z] S=some (T.getD 2 zh,S) :=
 yL rfl rfl Try.func31 (by decide) zL.body (by exact h) he (yD (a:=T.getD 2 zh) ((show zX zi T C Try.f31.results.toList=zX zi T C [(ResultVar.tmp 2)] from by kernel_rfl).trans (by simp only [zX])) (by kernel_rfl)) hca hcv
end Go.Proofs.Ytblpnklfimkfoaa
namespace Go.Proofs.Ytblpnklfimkfoaa
open Go.Abs
abbrev jy.id:FuncId:=34
noncomputable def jy.code:Code:=(.seq (.region 0 (reg Try.f34 0) false) (.seq (.region 1 (reg Try.f34 1) false) Code.ret))
theorem jy.body:Try.f34.body=some jy.code:=by kernel_rfl
variable (b f r i k l m n o:Value) (S:zx)
theorem jy.r0 :jF zi ⟨false,false,false⟩ (jm zi O) (reg Try.f34 0) (reg Try.f34 0).toList ([b,f,r,i,k,l,m,n,o]) S =
  ( some ([b,f,Value.bool false,i,k,l,m,n,o],S)):=by
 kernel_rfl
theorem jy.r1 :jF zi ⟨false,false,false⟩ (jm zi O) (reg Try.f34 1) (reg Try.f34 1).toList ([b,f,r,i,k,l,m,n,o]) S =
  (zU (wu zi BinOp.geq 3 (dem b) (.int .i64 (-1)) S) (fun c d=>gdK (dem c) true (ret b) d (fun p s=>gdK (dem c) true (wu zi BinOp.leq 3 (dem p) (.int .i64 1073741824)) s (fun q t=>zU (ql (dem c) q (Value.bool false) t) (fun g u=>some ([b,f,g,dem b,c,dem c,dem p,q,dem g],u)) ()) ()) ()) ()):=by
 refine sP Try.f34 1 0 (v:=b) ?_
 refine sD Try.f34 1 1 (fun c d=>?_)
 refine sP Try.f34 1 2 (v:=c) ?_
 refine sG Try.f34 1 3 (j:=2) (fun p s=>?_)
 refine sG Try.f34 1 4 (j:=2) (fun q t=>?_)
 refine sD Try.f34 1 5 (fun g u=>?_)
 refine sP Try.f34 1 6 (v:=g) ?_
 kernel_rfl
theorem jy.rs:type_of% (aij @jy.r0 (@jy.r1)):=aij @jy.r0 (@jy.r1)
theorem jy.runs {b:Value} {S d:zx} {e:AEx} {T:List Value} (h:zI zi O false jy.code ([b,zh,zh,zh,zh,zh,zh,zh,zh]) S=some (e,T,d)) (he:e=.normal∨e=.ret):jm zi O 34 [b] S=some (T.getD 2 zh,d) :=
 wo rfl rfl Try.func34 (by decide) jy.body (by exact h) he (yD (a:=T.getD 2 zh) ((show zX zi T d Try.f34.results.toList=zX zi T d [(ResultVar.tmp 2)] from by kernel_rfl).trans (by simp only [zX])) (by kernel_rfl))
end Go.Proofs.Ytblpnklfimkfoaa
namespace Go.Proofs.Ytblpnklfimkfoaa
open Go.Abs
abbrev ji.id:FuncId:=11
noncomputable def ji.code:Code:=(.seq (.region 0 (reg Try.f11 0) false) (.seq (.seq (.region 1 (reg Try.f11 1) false) (.cond (.tmp 12) (.seq (.region 2 (reg Try.f11 2) false) Code.ret) Code.skip)) (.seq (.region 3 (reg Try.f11 3) false) (.seq (.region 4 (reg Try.f11 4) false) (.seq (.region 5 (reg Try.f11 5) false) (.seq (.seq (.region 6 (reg Try.f11 6) false) (.cond (.tmp 40) (.seq (.region 7 (reg Try.f11 7) false) Code.ret) Code.skip)) (.seq (.region 8 (reg Try.f11 8) false) Code.ret)))))))
theorem ji.body:Try.f11.body=some ji.code:=by kernel_rfl
variable (I J U V K P L Q M N a b c d f g i j k l m n o p q r s t u v w x y z A B C D E F G H:Value) (S:zx)
theorem ji.r0 :jF zi ⟨false,false,false⟩ (jm zi O) (reg Try.f11 0) (reg Try.f11 0).toList ([I,J,U,V,K,P,L,Q,M,N,a,b,c,d,f,g,i,j,k,l,m,n,o,p,q,r,s,t,u,v,w,x,y,z,A,B,C,D,E,F,G,H]) S =
  (zU (JV (dem I) S) (fun X R=>some ([I,X,Value.slice none 0 0,.int .i64 0,K,P,L,Q,M,N,a,b,c,d,f,g,i,j,k,l,m,n,o,p,q,r,s,t,u,v,w,x,y,z,A,B,C,D,E,F,G,H],R)) ()):=by
 kernel_rfl
theorem ji.r1 :jF zi ⟨false,false,false⟩ (jm zi O) (reg Try.f11 1) (reg Try.f11 1).toList ([I,J,U,V,K,P,L,Q,M,N,a,b,c,d,f,g,i,j,k,l,m,n,o,p,q,r,s,t,u,v,w,x,y,z,A,B,C,D,E,F,G,H]) S =
  (zU (jE zi false 28 J S) (fun X R=>zU ((jm zi O) 31 [(dem X)] R) (fun Y S2=>zU (aUn zi UnOp.not Y S2) (fun W S3=>some ([I,J,U,V,K,P,L,Q,M,N,X,Y,W,d,f,g,i,j,k,l,m,n,o,p,q,r,s,t,u,v,w,x,y,z,A,B,C,D,E,F,G,H],S3)) ()) ()) ()):=by
 kernel_rfl
theorem ji.r2 :jF zi ⟨false,false,false⟩ (jm zi O) (reg Try.f11 2) (reg Try.f11 2).toList ([I,J,U,V,K,P,L,Q,M,N,a,b,c,d,f,g,i,j,k,l,m,n,o,p,q,r,s,t,u,v,w,x,y,z,A,B,C,D,E,F,G,H]) S =
  ( some ([I,J,Value.slice none 0 0,.int .i64 51,K,P,L,Q,M,N,a,b,c,d,f,g,i,j,k,l,m,n,o,p,q,r,s,t,u,v,w,x,y,z,A,B,C,D,E,F,G,H],S)):=by
 kernel_rfl
theorem ji.r3 :jF zi ⟨false,false,false⟩ (jm zi O) (reg Try.f11 3) (reg Try.f11 3).toList ([I,J,U,V,K,P,L,Q,M,N,a,b,c,d,f,g,i,j,k,l,m,n,o,p,q,r,s,t,u,v,w,x,y,z,A,B,C,D,E,F,G,H]) S =
  (zU (zS zi 28 J 0 S) (fun X R=>zU (jE zi false 3 X R) (fun Y S2=>zU (zS zi 28 J 1 S2) (fun W S3=>zU (jE zi false 3 W S3) (fun v3 S4=>zU (zS zi 28 J 2 S4) (fun v4 S5=>zU (jE zi false 3 v4 S5) (fun Z S6=>zU (zS zi 28 J 3 S6) (fun v6 S7=>zU (jE zi false 3 v6 S7) (fun v7 S8=>zU (jH zi 56 4 [(0,Y),(1,v3),(2,Z),(3,v7)] S8) (fun v8 S9=>zU ((jm zi O) 32 [(dem v8)] S9) (fun v9 a2=>zU (zW v9 0 a2) (fun a0 a3=>zU (zW (jd 0 v9) 1 a3) (fun a1 a4=>some ([I,J,U,V,a0,a1,L,Q,M,N,a,b,c,jd 1 (jd 0 v9),X,Y,W,v3,v4,Z,v6,v7,v8,dem v9,dem a0,dem a1,s,t,u,v,w,x,y,z,A,B,C,D,E,F,G,H],a4)) ()) ()) ()) ()) ()) ()) ()) ()) ()) ()) ()) ()):=by
 kernel_rfl
theorem ji.r4 :jF zi ⟨false,false,false⟩ (jm zi O) (reg Try.f11 4) (reg Try.f11 4).toList ([I,J,U,V,K,P,L,Q,M,N,a,b,c,d,f,g,i,j,k,l,m,n,o,p,q,r,s,t,u,v,w,x,y,z,A,B,C,D,E,F,G,H]) S =
  (zU (zS zi 28 J 4 S) (fun X R=>zU (jE zi false 26 X R) (fun Y S2=>zU ((jm zi O) 33 [(dem Y)] S2) (fun W S3=>zU (zW W 0 S3) (fun v4 S4=>zU (zW (jd 0 W) 1 S4) (fun Z S5=>some ([I,J,U,V,K,P,v4,Z,M,N,a,b,c,d,f,g,i,j,k,l,m,n,o,p,q,r,jd 1 (jd 0 W),X,Y,dem W,dem v4,dem Z,y,z,A,B,C,D,E,F,G,H],S5)) ()) ()) ()) ()) ()):=by
 kernel_rfl
theorem ji.r5 :jF zi ⟨false,false,false⟩ (jm zi O) (reg Try.f11 5) (reg Try.f11 5).toList ([I,J,U,V,K,P,L,Q,M,N,a,b,c,d,f,g,i,j,k,l,m,n,o,p,q,r,s,t,u,v,w,x,y,z,A,B,C,D,E,F,G,H]) S =
  (zU (jV zi 26 26 K (dem L) S) (fun W R=>zU ((jm zi O) 33 [(dem W)] R) (fun v3 S2=>zU (zW v3 0 S2) (fun Z S3=>zU (zW (jd 0 v3) 1 S3) (fun v6 S4=>some ([I,J,U,V,dem K,P,L,Q,Z,v6,a,b,c,d,f,g,i,j,k,l,m,n,o,p,q,r,s,t,u,v,w,x,jd 1 (jd 0 v3),dem K,dem L,W,dem v3,dem Z,dem v6,F,G,H],S4)) ()) ()) ()) ()):=by
 kernel_rfl
theorem ji.r6 :jF zi ⟨false,false,false⟩ (jm zi O) (reg Try.f11 6) (reg Try.f11 6).toList ([I,J,U,V,K,P,L,Q,M,N,a,b,c,d,f,g,i,j,k,l,m,n,o,p,q,r,s,t,u,v,w,x,y,z,A,B,C,D,E,F,G,H]) S =
  (zU (wu zi BinOp.neq 29 (dem N) (.int .i64 0) S) (fun Y R=>some ([I,J,U,V,K,P,L,Q,M,N,a,b,c,d,f,g,i,j,k,l,m,n,o,p,q,r,s,t,u,v,w,x,y,z,A,B,C,D,E,dem N,Y,H],R)) ()):=by
 kernel_rfl
theorem ji.r7 :jF zi ⟨false,false,false⟩ (jm zi O) (reg Try.f11 7) (reg Try.f11 7).toList ([I,J,U,V,K,P,L,Q,M,N,a,b,c,d,f,g,i,j,k,l,m,n,o,p,q,r,s,t,u,v,w,x,y,z,A,B,C,D,E,F,G,H]) S =
  ( some ([I,J,Value.slice none 0 0,.int .i64 51,K,P,L,Q,M,N,a,b,c,d,f,g,i,j,k,l,m,n,o,p,q,r,s,t,u,v,w,x,y,z,A,B,C,D,E,F,G,H],S)):=by
 kernel_rfl
theorem ji.r8 :jF zi ⟨false,false,false⟩ (jm zi O) (reg Try.f11 8) (reg Try.f11 8).toList ([I,J,U,V,K,P,L,Q,M,N,a,b,c,d,f,g,i,j,k,l,m,n,o,p,q,r,s,t,u,v,w,x,y,z,A,B,C,D,E,F,G,H]) S =
  ( some ([I,J,M,.int .i64 0,K,P,L,Q,dem M,N,a,b,c,d,f,g,i,j,k,l,m,n,o,p,q,r,s,t,u,v,w,x,y,z,A,B,C,D,E,F,G,dem M],S)):=by
 kernel_rfl
theorem ji.rs:type_of% (aij @ji.r0 (aij @ji.r1 (aij @ji.r2 (aij @ji.r3 (aij @ji.r4 (aij @ji.r5 (aij @ji.r6 (aij @ji.r7 (@ji.r8))))))))):=aij @ji.r0 (aij @ji.r1 (aij @ji.r2 (aij @ji.r3 (aij @ji.r4 (aij @ji.r5 (aij @ji.r6 (aij @ji.r7 (@ji.r8))))))))
theorem ji.runs {I:Value} {S R:zx} {e:AEx} {T:List Value} (h:zI zi O false ji.code ([I,zh,zh,zh,zh,zh,zh,zh,zh,zh,zh,zh,zh,zh,zh,zh,zh,zh,zh,zh,zh,zh,zh,zh,zh,zh,zh,zh,zh,zh,zh,zh,zh,zh,zh,zh,zh,zh,zh,zh,zh,zh]) zx.empty=some (e,T,R)) (he:e=.normal∨e=.ret)  (h0:jK (T.getD 2 zh)=true) (h1:jK (T.getD 3 zh)=true) (hca:[I].all (jD 16)=true) (hcv:jD 16 (Value.tuple #[T.getD 2 zh,T.getD 3 zh])=true):jm zi O 11 [I] S=some (Value.tuple #[T.getD 2 zh,T.getD 3 zh],S) :=
 yL rfl rfl Try.func11 (by decide) ji.body (by exact h) he ((wR ((show zX zi T R Try.f11.results.toList=zX zi T R [(ResultVar.tmp 2),(ResultVar.tmp 3)] from by kernel_rfl).trans (by simp only [zX])) (by kernel_rfl) (by simp only [List.all_cons,List.all_nil,h0,h1,Bool.and_true])).trans rfl) hca hcv
end Go.Proofs.Ytblpnklfimkfoaa
namespace Go.Proofs.Ytblpnklfimkfoaa
open Go.Abs
abbrev zN.id:FuncId:=12
noncomputable def zN.code:Code:=(.seq (.region 0 (reg Try.f12 0) false) (.seq (.seq (.region 1 (reg Try.f12 1) false) (.cond (.tmp 37) (.seq (.region 2 (reg Try.f12 2) false) Code.ret) Code.skip)) (.seq (.region 3 (reg Try.f12 3) false) (.seq (.region 4 (reg Try.f12 4) false) (.seq (.region 5 (reg Try.f12 5) false) (.seq (.region 6 (reg Try.f12 6) false) Code.ret))))))
theorem zN.body:Try.f12.body=some zN.code:=by kernel_rfl
variable (x0 a x2 x3 x4 x5 x6 x7 x8 x9 b c d f g i k l m n o p q r s t u w x y z A B C D E F G H I J K L M N P Q R U V W X Y Z a0 a1 a2 a3 a4 a5 a6 a7 a8 a9 b0:Value) (S:zx)
theorem zN.r0 :jF zi ⟨false,false,false⟩ (jm zi O) (reg Try.f12 0) (reg Try.f12 0).toList ([x0,a,x2,x3,x4,x5,x6,x7,x8,x9,b,c,d,f,g,i,k,l,m,n,o,p,q,r,s,t,u,w,x,y,z,A,B,C,D,E,F,G,H,I,J,K,L,M,N,P,Q,R,U,V,W,X,Y,Z,a0,a1,a2,a3,a4,a5,a6,a7,a8,a9,b0]) S =
  (zU (JV (dem x0) S) (fun v0 S1=>some ([x0,v0,Value.slice none 0 0,.int .i64 0,x4,x5,x6,x7,x8,x9,b,c,d,f,g,i,k,l,m,n,o,p,q,r,s,t,u,w,x,y,z,A,B,C,D,E,F,G,H,I,J,K,L,M,N,P,Q,R,U,V,W,X,Y,Z,a0,a1,a2,a3,a4,a5,a6,a7,a8,a9,b0],S1)) ()):=by
 kernel_rfl
theorem zN.r1 :jF zi ⟨false,false,false⟩ (jm zi O) (reg Try.f12 1) (reg Try.f12 1).toList ([x0,a,x2,x3,x4,x5,x6,x7,x8,x9,b,c,d,f,g,i,k,l,m,n,o,p,q,r,s,t,u,w,x,y,z,A,B,C,D,E,F,G,H,I,J,K,L,M,N,P,Q,R,U,V,W,X,Y,Z,a0,a1,a2,a3,a4,a5,a6,a7,a8,a9,b0]) S =
  (zU (zS zi 28 a 0 S) (fun v0 S1=>zU (jE zi false 3 v0 S1) (fun v1 S2=>zU ((jm zi O) 34 [(dem v1)] S2) (fun v2 S3=>zU (aUn zi UnOp.not v2 S3) (fun v3 S4=>gdK (dem v3) false (zS zi 28 a 1) S4 (fun v5 S5=>gdK (dem v3) false (jE zi false 3 v5) S5 (fun v6 S6=>gdK (dem v3) false ((jm zi O) 34 [(dem v6)]) S6 (fun v7 S7=>gdK (dem v3) false (aUn zi UnOp.not v7) S7 (fun v8 S8=>zU (ql (dem v3) (Value.bool true) v8 S8) (fun v9 S9=>gdK (dem v9) false (zS zi 28 a 2) S9 (fun b3 b5=>gdK (dem v9) false (jE zi false 3 b3) b5 (fun b4 b6=>gdK (dem v9) false ((jm zi O) 34 [(dem b4)]) b6 (fun b8 b7=>gdK (dem v9) false (aUn zi UnOp.not b8) b7 (fun b9 c8=>zU (ql (dem v9) (Value.bool true) b9 c8) (fun b1 c9=>gdK (dem b1) false (zS zi 28 a 3) c9 (fun c0 d0=>gdK (dem b1) false (jE zi false 3 c0) d0 (fun c1 d1=>gdK (dem b1) false ((jm zi O) 34 [(dem c1)]) d1 (fun c2 d2=>gdK (dem b1) false (aUn zi UnOp.not c2) d2 (fun c3 d3=>zU (ql (dem b1) (Value.bool true) c3 d3) (fun b2 d4=>gdK (dem b2) false (zS zi 28 a 4) d4 (fun c4 d5=>gdK (dem b2) false (jE zi false 26 c4) d5 (fun c5 d6=>gdK (dem b2) false (ku zi 26 c5) d6 (fun c6 d7=>gdK (dem b2) false (wu zi BinOp.gtr 3 c6 (.int .i64 1024)) d7 (fun c7 d8=>zU (ql (dem b2) (Value.bool true) c7 d8) (fun d9 f0=>some ([x0,a,x2,x3,x4,x5,x6,x7,x8,x9,v0,v1,v2,v3,dem v3,v5,v6,v7,v8,v9,dem v9,b3,b4,b8,b9,b1,dem b1,c0,c1,c2,c3,b2,dem b2,c4,c5,c6,c7,d9,H,I,J,K,L,M,N,P,Q,R,U,V,W,X,Y,Z,a0,a1,a2,a3,a4,a5,a6,a7,a8,a9,b0],f0)) ()) ()) ()) ()) ()) ()) ()) ()) ()) ()) ()) ()) ()) ()) ()) ()) ()) ()) ()) ()) ()) ()) ()) ()):=by
 refine sD Try.f12 1 0 (fun v0 S1=>?_)
 refine sD Try.f12 1 1 (fun v1 S2=>?_)
 refine sD Try.f12 1 2 (fun v2 S3=>?_)
 refine sD Try.f12 1 3 (fun v3 S4=>?_)
 refine sP Try.f12 1 4 (v:=v3) ?_
 refine sG Try.f12 1 5 (j:=4) (fun v5 S5=>?_)
 refine sG Try.f12 1 6 (j:=4) (fun v6 S6=>?_)
 refine sG Try.f12 1 7 (j:=4) (fun v7 S7=>?_)
 refine sG Try.f12 1 8 (j:=4) (fun v8 S8=>?_)
 refine sD Try.f12 1 9 (fun v9 S9=>?_)
 refine sP Try.f12 1 10 (v:=v9) ?_
 refine sG Try.f12 1 11 (j:=10) (fun b3 b5=>?_)
 refine sG Try.f12 1 12 (j:=10) (fun b4 b6=>?_)
 refine sG Try.f12 1 13 (j:=10) (fun b8 b7=>?_)
 refine sG Try.f12 1 14 (j:=10) (fun b9 c8=>?_)
 refine sD Try.f12 1 15 (fun b1 c9=>?_)
 refine sP Try.f12 1 16 (v:=b1) ?_
 refine sG Try.f12 1 17 (j:=16) (fun c0 d0=>?_)
 refine sG Try.f12 1 18 (j:=16) (fun c1 d1=>?_)
 refine sG Try.f12 1 19 (j:=16) (fun c2 d2=>?_)
 refine sG Try.f12 1 20 (j:=16) (fun c3 d3=>?_)
 refine sD Try.f12 1 21 (fun b2 d4=>?_)
 refine sP Try.f12 1 22 (v:=b2) ?_
 refine sG Try.f12 1 23 (j:=22) (fun c4 d5=>?_)
 refine sG Try.f12 1 24 (j:=22) (fun c5 d6=>?_)
 refine sG Try.f12 1 25 (j:=22) (fun c6 d7=>?_)
 refine sG Try.f12 1 26 (j:=22) (fun c7 d8=>?_)
 refine sD Try.f12 1 27 (fun d9 f0=>?_)
 kernel_rfl
theorem zN.r2 :jF zi ⟨false,false,false⟩ (jm zi O) (reg Try.f12 2) (reg Try.f12 2).toList ([x0,a,x2,x3,x4,x5,x6,x7,x8,x9,b,c,d,f,g,i,k,l,m,n,o,p,q,r,s,t,u,w,x,y,z,A,B,C,D,E,F,G,H,I,J,K,L,M,N,P,Q,R,U,V,W,X,Y,Z,a0,a1,a2,a3,a4,a5,a6,a7,a8,a9,b0]) S =
  ( some ([x0,a,Value.slice none 0 0,.int .i64 51,x4,x5,x6,x7,x8,x9,b,c,d,f,g,i,k,l,m,n,o,p,q,r,s,t,u,w,x,y,z,A,B,C,D,E,F,G,H,I,J,K,L,M,N,P,Q,R,U,V,W,X,Y,Z,a0,a1,a2,a3,a4,a5,a6,a7,a8,a9,b0],S)):=by
 kernel_rfl
theorem zN.r3 :jF zi ⟨false,false,false⟩ (jm zi O) (reg Try.f12 3) (reg Try.f12 3).toList ([x0,a,x2,x3,x4,x5,x6,x7,x8,x9,b,c,d,f,g,i,k,l,m,n,o,p,q,r,s,t,u,w,x,y,z,A,B,C,D,E,F,G,H,I,J,K,L,M,N,P,Q,R,U,V,W,X,Y,Z,a0,a1,a2,a3,a4,a5,a6,a7,a8,a9,b0]) S =
  (zU (zS zi 28 a 0 S) (fun v0 S1=>zU (jE zi false 3 v0 S1) (fun v1 S2=>zU (zS zi 28 a 1 S2) (fun v2 S3=>zU (jE zi false 3 v2 S3) (fun v3 S4=>zU (zS zi 28 a 2 S4) (fun v4 S5=>zU (jE zi false 3 v4 S5) (fun v5 S6=>zU (zS zi 28 a 3 S6) (fun v6 S7=>zU (jE zi false 3 v6 S7) (fun v7 S8=>zU (jH zi 56 4 [(0,v1),(1,v3),(2,v5),(3,v7)] S8) (fun v8 S9=>zU ((jm zi O) 35 [(dem v8)] S9) (fun v9 b5=>zU (zW v9 0 b5) (fun b3 b6=>zU (zW (jd 0 v9) 1 b6) (fun b4 b7=>some ([x0,a,x2,x3,b3,b4,x6,x7,x8,x9,b,c,d,f,g,i,k,l,m,n,o,p,q,r,s,t,u,w,x,y,z,A,B,C,D,E,F,G,jd 1 (jd 0 v9),v0,v1,v2,v3,v4,v5,v6,v7,v8,dem v9,dem b3,dem b4,X,Y,Z,a0,a1,a2,a3,a4,a5,a6,a7,a8,a9,b0],b7)) ()) ()) ()) ()) ()) ()) ()) ()) ()) ()) ()) ()):=by
 kernel_rfl
theorem zN.r4 :jF zi ⟨false,false,false⟩ (jm zi O) (reg Try.f12 4) (reg Try.f12 4).toList ([x0,a,x2,x3,x4,x5,x6,x7,x8,x9,b,c,d,f,g,i,k,l,m,n,o,p,q,r,s,t,u,w,x,y,z,A,B,C,D,E,F,G,H,I,J,K,L,M,N,P,Q,R,U,V,W,X,Y,Z,a0,a1,a2,a3,a4,a5,a6,a7,a8,a9,b0]) S =
  (zU (zS zi 28 a 4 S) (fun v0 S1=>zU (jE zi false 26 v0 S1) (fun v1 S2=>zU ((jm zi O) 36 [(dem v1)] S2) (fun v2 S3=>zU (zW v2 0 S3) (fun v4 S4=>zU (zW (jd 0 v2) 1 S4) (fun v5 S5=>some ([x0,a,x2,x3,x4,x5,v4,v5,x8,x9,b,c,d,f,g,i,k,l,m,n,o,p,q,r,s,t,u,w,x,y,z,A,B,C,D,E,F,G,H,I,J,K,L,M,N,P,Q,R,U,V,W,jd 1 (jd 0 v2),v0,v1,dem v2,dem v4,dem v5,a3,a4,a5,a6,a7,a8,a9,b0],S5)) ()) ()) ()) ()) ()):=by
 kernel_rfl
theorem zN.r5 :jF zi ⟨false,false,false⟩ (jm zi O) (reg Try.f12 5) (reg Try.f12 5).toList ([x0,a,x2,x3,x4,x5,x6,x7,x8,x9,b,c,d,f,g,i,k,l,m,n,o,p,q,r,s,t,u,w,x,y,z,A,B,C,D,E,F,G,H,I,J,K,L,M,N,P,Q,R,U,V,W,X,Y,Z,a0,a1,a2,a3,a4,a5,a6,a7,a8,a9,b0]) S =
  (zU (jV zi 26 26 x4 (dem x6) S) (fun v2 S1=>zU ((jm zi O) 36 [(dem v2)] S1) (fun v3 S2=>zU (zW v3 0 S2) (fun v5 S3=>zU (zW (jd 0 v3) 1 S3) (fun v6 S4=>some ([x0,a,x2,x3,dem x4,x5,x6,x7,v5,v6,b,c,d,f,g,i,k,l,m,n,o,p,q,r,s,t,u,w,x,y,z,A,B,C,D,E,F,G,H,I,J,K,L,M,N,P,Q,R,U,V,W,X,Y,Z,a0,a1,a2,jd 1 (jd 0 v3),dem x4,dem x6,v2,dem v3,dem v5,dem v6,b0],S4)) ()) ()) ()) ()):=by
 kernel_rfl
theorem zN.r6 :jF zi ⟨false,false,false⟩ (jm zi O) (reg Try.f12 6) (reg Try.f12 6).toList ([x0,a,x2,x3,x4,x5,x6,x7,x8,x9,b,c,d,f,g,i,k,l,m,n,o,p,q,r,s,t,u,w,x,y,z,A,B,C,D,E,F,G,H,I,J,K,L,M,N,P,Q,R,U,V,W,X,Y,Z,a0,a1,a2,a3,a4,a5,a6,a7,a8,a9,b0]) S =
  ( some ([x0,a,x8,.int .i64 0,x4,x5,x6,x7,dem x8,x9,b,c,d,f,g,i,k,l,m,n,o,p,q,r,s,t,u,w,x,y,z,A,B,C,D,E,F,G,H,I,J,K,L,M,N,P,Q,R,U,V,W,X,Y,Z,a0,a1,a2,a3,a4,a5,a6,a7,a8,a9,dem x8],S)):=by
 kernel_rfl
theorem zN.rs:type_of% (aij @zN.r0 (aij @zN.r1 (aij @zN.r2 (aij @zN.r3 (aij @zN.r4 (aij @zN.r5 (@zN.r6))))))):=aij @zN.r0 (aij @zN.r1 (aij @zN.r2 (aij @zN.r3 (aij @zN.r4 (aij @zN.r5 (@zN.r6))))))
theorem zN.runs {x0:Value} {S S1:zx} {e:AEx} {T:List Value} (h:zI zi O false zN.code ([x0,zh,zh,zh,zh,zh,zh,zh,zh,zh,zh,zh,zh,zh,zh,zh,zh,zh,zh,zh,zh,zh,zh,zh,zh,zh,zh,zh,zh,zh,zh,zh,zh,zh,zh,zh,zh,zh,zh,zh,zh,zh,zh,zh,zh,zh,zh,zh,zh,zh,zh,zh,zh,zh,zh,zh,zh,zh,zh,zh,zh,zh,zh,zh,zh]) zx.empty=some (e,T,S1)) (he:e=.normal∨e=.ret)  (h0:jK (T.getD 2 zh)=true) (h1:jK (T.getD 3 zh)=true) (hca:[x0].all (jD 16)=true) (hcv:jD 16 (Value.tuple #[T.getD 2 zh,T.getD 3 zh])=true):jm zi O 12 [x0] S=some (Value.tuple #[T.getD 2 zh,T.getD 3 zh],S) :=
 yL rfl rfl Try.func12 (by decide) zN.body (by exact h) he ((wR ((show zX zi T S1 Try.f12.results.toList=zX zi T S1 [(ResultVar.tmp 2),(ResultVar.tmp 3)] from by kernel_rfl).trans (by simp only [zX])) (by kernel_rfl) (by simp only [List.all_cons,List.all_nil,h0,h1,Bool.and_true])).trans rfl) hca hcv
end Go.Proofs.Ytblpnklfimkfoaa
namespace Go.Proofs.Ytblpnklfimkfoaa
open Go.Abs
abbrev wE.id:FuncId:=33
noncomputable def wE.code:Code:=(.seq (.region 0 (reg Try.f33 0) false) (.seq (.seq (.region 1 (reg Try.f33 1) false) (.cond (.tmp 6) (.seq (.region 2 (reg Try.f33 2) false) Code.ret) Code.skip)) (.seq (.region 3 (reg Try.f33 3) false) Code.ret)))
theorem wE.body:Try.f33.body=some wE.code:=by kernel_rfl
variable (a f o p i j k l m n b c d:Value) (S:zx)
theorem wE.r0 :jF zi ⟨false,false,false⟩ (jm zi O) (reg Try.f33 0) (reg Try.f33 0).toList ([a,f,o,p,i,j,k,l,m,n,b,c,d]) S =
  ( some ([a,f,Value.slice none 0 0,.int .i64 0,i,j,k,l,m,n,b,c,d],S)):=by
 kernel_rfl
theorem wE.r1 :jF zi ⟨false,false,false⟩ (jm zi O) (reg Try.f33 1) (reg Try.f33 1).toList ([a,f,o,p,i,j,k,l,m,n,b,c,d]) S =
  (zU (ku zi 26 (dem a) S) (fun q g=>zU (wu zi BinOp.gtr 3 q (.int .i64 4096) g) (fun r s=>some ([a,f,o,p,dem a,q,r,l,m,n,b,c,d],s)) ()) ()):=by
 kernel_rfl
theorem wE.r2 :jF zi ⟨false,false,false⟩ (jm zi O) (reg Try.f33 2) (reg Try.f33 2).toList ([a,f,o,p,i,j,k,l,m,n,b,c,d]) S =
  ( some ([a,f,Value.slice none 0 0,.int .i64 11,i,j,k,l,m,n,b,c,d],S)):=by
 kernel_rfl
theorem wE.r3 :jF zi ⟨false,false,false⟩ (jm zi O) (reg Try.f33 3) (reg Try.f33 3).toList ([a,f,o,p,i,j,k,l,m,n,b,c,d]) S =
  (zU (ku zi 26 (dem a) S) (fun q g=>zU (wP zi false false 3 75 q g) (fun r s=>zU ((jm zi O) 45 [(dem r)] s) (fun t v=>zU (jV zi 26 26 t (dem a) v) (fun u w=>some ([a,f,u,.int .i64 0,i,j,k,dem a,q,r,dem t,dem a,dem u],w)) ()) ()) ()) ()):=by
 kernel_rfl
theorem wE.runs {a:Value} {S g:zx} {e:AEx} {T:List Value} (h:zI zi O false wE.code ([a,zh,zh,zh,zh,zh,zh,zh,zh,zh,zh,zh,zh]) S=some (e,T,g)) (he:e=.normal∨e=.ret)  (h0:jK (T.getD 2 zh)=true) (h1:jK (T.getD 3 zh)=true):jm zi O 33 [a] S=some (Value.tuple #[T.getD 2 zh,T.getD 3 zh],g) :=
 wo rfl rfl Try.func33 (by decide) wE.body (by exact h) he ((wR ((show zX zi T g Try.f33.results.toList=zX zi T g [(ResultVar.tmp 2),(ResultVar.tmp 3)] from by kernel_rfl).trans (by simp only [zX])) (by kernel_rfl) (by simp only [List.all_cons,List.all_nil,h0,h1,Bool.and_true])).trans rfl)
end Go.Proofs.Ytblpnklfimkfoaa
namespace Go.Proofs.Ytblpnklfimkfoaa
open Go.Abs
abbrev jv.id:FuncId:=36
noncomputable def jv.code:Code:=(.seq (.region 0 (reg Try.f36 0) false) (.seq (.seq (.region 1 (reg Try.f36 1) false) (.cond (.tmp 6) (.seq (.region 2 (reg Try.f36 2) false) Code.ret) Code.skip)) (.seq (.region 3 (reg Try.f36 3) false) Code.ret)))
theorem jv.body:Try.f36.body=some jv.code:=by kernel_rfl
variable (a f o p i j k l m n b c d:Value) (S:zx)
theorem jv.r0 :jF zi ⟨false,false,false⟩ (jm zi O) (reg Try.f36 0) (reg Try.f36 0).toList ([a,f,o,p,i,j,k,l,m,n,b,c,d]) S =
  ( some ([a,f,Value.slice none 0 0,.int .i64 0,i,j,k,l,m,n,b,c,d],S)):=by
 kernel_rfl
theorem jv.r1 :jF zi ⟨false,false,false⟩ (jm zi O) (reg Try.f36 1) (reg Try.f36 1).toList ([a,f,o,p,i,j,k,l,m,n,b,c,d]) S =
  (zU (ku zi 26 (dem a) S) (fun q g=>zU (wu zi BinOp.gtr 3 q (.int .i64 4096) g) (fun r s=>some ([a,f,o,p,dem a,q,r,l,m,n,b,c,d],s)) ()) ()):=by
 kernel_rfl
theorem jv.r2 :jF zi ⟨false,false,false⟩ (jm zi O) (reg Try.f36 2) (reg Try.f36 2).toList ([a,f,o,p,i,j,k,l,m,n,b,c,d]) S =
  ( some ([a,f,Value.slice none 0 0,.int .i64 11,i,j,k,l,m,n,b,c,d],S)):=by
 kernel_rfl
theorem jv.r3 :jF zi ⟨false,false,false⟩ (jm zi O) (reg Try.f36 3) (reg Try.f36 3).toList ([a,f,o,p,i,j,k,l,m,n,b,c,d]) S =
  (zU (ku zi 26 (dem a) S) (fun q g=>zU (wP zi false false 3 75 q g) (fun r s=>zU ((jm zi O) 46 [(dem r)] s) (fun t v=>zU (jV zi 26 26 t (dem a) v) (fun u w=>some ([a,f,u,.int .i64 0,i,j,k,dem a,q,r,dem t,dem a,dem u],w)) ()) ()) ()) ()):=by
 kernel_rfl
theorem jv.runs {a:Value} {S g:zx} {e:AEx} {T:List Value} (h:zI zi O false jv.code ([a,zh,zh,zh,zh,zh,zh,zh,zh,zh,zh,zh,zh]) S=some (e,T,g)) (he:e=.normal∨e=.ret)  (h0:jK (T.getD 2 zh)=true) (h1:jK (T.getD 3 zh)=true):jm zi O 36 [a] S=some (Value.tuple #[T.getD 2 zh,T.getD 3 zh],g) :=
 wo rfl rfl Try.func36 (by decide) jv.body (by exact h) he ((wR ((show zX zi T g Try.f36.results.toList=zX zi T g [(ResultVar.tmp 2),(ResultVar.tmp 3)] from by kernel_rfl).trans (by simp only [zX])) (by kernel_rfl) (by simp only [List.all_cons,List.all_nil,h0,h1,Bool.and_true])).trans rfl)
end Go.Proofs.Ytblpnklfimkfoaa
namespace Go.Proofs.Ytblpnklfimkfoaa
open Go.Abs
abbrev jq.id:FuncId:=28
noncomputable def jq.code:Code:=(.seq (.region 0 (reg Try.f28 0) false) (.seq (.region 1 (reg Try.f28 1) false) (.seq (.seq (.region 2 (reg Try.f28 2) false) (.cond (.tmp 26) (.seq (.region 3 (reg Try.f28 3) false) Code.ret) Code.skip)) (.seq (.region 4 (reg Try.f28 4) true) Code.ret))))
theorem jq.body:Try.f28.body=some jq.code:=by kernel_rfl
variable (c L Q R U a b I M N d f g i k l m n o p q r s t u w x y z A B C D E F:Value) (S:zx)
theorem jq.r0 :jF zi ⟨false,false,false⟩ (jm zi O) (reg Try.f28 0) (reg Try.f28 0).toList ([c,L,Q,R,U,a,b,I,M,N,d,f,g,i,k,l,m,n,o,p,q,r,s,t,u,w,x,y,z,A,B,C,D,E,F]) S =
  ( some ([c,L,Value.slice none 0 0,Value.slice none 0 0,.int .i64 0,a,b,I,M,N,d,f,g,i,k,l,m,n,o,p,q,r,s,t,u,w,x,y,z,A,B,C,D,E,F],S)):=by
 kernel_rfl
theorem jq.r1 :jF zi ⟨false,false,false⟩ (jm zi O) (reg Try.f28 1) (reg Try.f28 1).toList ([c,L,Q,R,U,a,b,I,M,N,d,f,g,i,k,l,m,n,o,p,q,r,s,t,u,w,x,y,z,A,B,C,D,E,F]) S =
  (zU ((jm zi O) 42 [(dem (dem c))] S) (fun G J=>zU (zW G 0 J) (fun K V=>zU (zW (jd 0 G) 1 V) (fun Y W=>zU (zW (jd 1 (jd 0 G)) 2 W) (fun H X=>some ([c,L,Q,R,U,K,Y,H,jd 2 (jd 1 (jd 0 G)),dem c,dem G,dem K,dem Y,dem H,k,l,m,n,o,p,q,r,s,t,u,w,x,y,z,A,B,C,D,E,F],X)) ()) ()) ()) ()):=by
 kernel_rfl
theorem jq.r2 :jF zi ⟨false,false,false⟩ (jm zi O) (reg Try.f28 2) (reg Try.f28 2).toList ([c,L,Q,R,U,a,b,I,M,N,d,f,g,i,k,l,m,n,o,p,q,r,s,t,u,w,x,y,z,A,B,C,D,E,F]) S =
  (zU (wu zi BinOp.neq 29 (dem I) (.int .i64 0) S) (fun G J=>gdK (dem G) false (ret a) J (fun K V=>gdK (dem G) false (wu zi BinOp.gtr 75 (dem K) (Value.int IntKind.u64 4096)) V (fun Y W=>zU (ql (dem G) (Value.bool true) Y W) (fun H X=>gdK (dem H) false (ret a) X (fun P S5=>gdK (dem H) false (ret b) S5 (fun v8 S6=>gdK (dem H) false (ku zi 26 (dem v8)) S6 (fun v9 S7=>gdK (dem H) false (wP zi false false 3 75 v9) S7 (fun Z S8=>gdK (dem H) false (wu zi BinOp.gtr 75 (dem P) Z) S8 (fun a0 S9=>zU (ql (dem H) (Value.bool true) a0 S9) (fun a1 a2=>some ([c,L,Q,R,U,a,b,I,M,N,d,f,g,i,dem I,G,dem G,dem K,Y,H,dem H,dem P,dem v8,v9,Z,a0,a1,y,z,A,B,C,D,E,F],a2)) ()) ()) ()) ()) ()) ()) ()) ()) ()) ()):=by
 refine sP Try.f28 2 0 (v:=I) ?_
 refine sD Try.f28 2 1 (fun G J=>?_)
 refine sP Try.f28 2 2 (v:=G) ?_
 refine sG Try.f28 2 3 (j:=2) (fun K V=>?_)
 refine sG Try.f28 2 4 (j:=2) (fun Y W=>?_)
 refine sD Try.f28 2 5 (fun H X=>?_)
 refine sP Try.f28 2 6 (v:=H) ?_
 refine sG Try.f28 2 7 (j:=6) (fun P S5=>?_)
 refine sG Try.f28 2 8 (j:=6) (fun v8 S6=>?_)
 refine sG Try.f28 2 9 (j:=6) (fun v9 S7=>?_)
 refine sG Try.f28 2 10 (j:=6) (fun Z S8=>?_)
 refine sG Try.f28 2 11 (j:=6) (fun a0 S9=>?_)
 refine sD Try.f28 2 12 (fun a1 a2=>?_)
 kernel_rfl
theorem jq.r3 :jF zi ⟨false,false,false⟩ (jm zi O) (reg Try.f28 3) (reg Try.f28 3).toList ([c,L,Q,R,U,a,b,I,M,N,d,f,g,i,k,l,m,n,o,p,q,r,s,t,u,w,x,y,z,A,B,C,D,E,F]) S =
  ( some ([c,L,Value.slice none 0 0,Value.slice none 0 0,.int .i64 11,a,b,I,M,N,d,f,g,i,k,l,m,n,o,p,q,r,s,t,u,w,x,y,z,A,B,C,D,E,F],S)):=by
 kernel_rfl
theorem jq.d4:qO zi (reg Try.f28 4)=true:=by kernel_rfl
theorem jq.ff4:fixed zi (reg Try.f28 4)=false:=by kernel_rfl
theorem jq.k4:checked zi (reg Try.f28 4)=[4,5,6]:=by kernel_rfl
theorem jq.g4:again zi (reg Try.f28 4)=[]:=by kernel_rfl
theorem jq.r4 :zI zi O false (.region 4 (reg Try.f28 4) true) ([c,L,Q,R,U,a,b,I,M,N,d,f,g,i,k,l,m,n,o,p,q,r,s,t,u,w,x,y,z,A,B,C,D,E,F]) S =
  J4 (zU (yc zi true 26 (dem b) none (some (dem a)) S) (fun v2 J=>zU ((jm zi O) 43 [(dem v2)] J) (fun K V=>okK b ( okK a ( zU (yc zi true 26 (dem b) (some (dem a)) none V) (fun v6 W=>okK v6 ( zU ((jm zi O) 43 [(dem v6)] W) (fun P X=>some ([c,L,K,P,.int .i64 0,a,b,I,M,N,d,f,g,i,k,l,m,n,o,p,q,r,s,t,u,w,x,dem b,dem a,v2,dem K,dem b,dem a,v6,dem P],X)) ()) ()) ()) ()) ()) ()) ()):=by
 rw [yO jq.d4 jq.ff4 jq.k4 jq.g4]
 refine congrArg J4 ?_
 refine tP Try.f28 4 0 (v:=b) ?_
 refine tP Try.f28 4 1 (v:=a) ?_
 refine tD Try.f28 4 2 (fun v2 J=>?_)
 refine tD Try.f28 4 3 (fun K V=>?_)
 refine tPC Try.f28 4 4 (v:=b) ?_
 refine tPC Try.f28 4 5 (v:=a) ?_
 refine tDC Try.f28 4 6 (fun v6 W=>?_)
 refine tD Try.f28 4 7 (fun P X=>?_)
 refine tP Try.f28 4 8 (v:=K) ?_
 refine tP Try.f28 4 9 (v:=P) ?_
 refine tP Try.f28 4 10 (v:=(.int .i64 0)) ?_
 kernel_rfl
theorem jq.runs {c:Value} {S J:zx} {e:AEx} {T:List Value} (h:zI zi O false jq.code ([c,zh,zh,zh,zh,zh,zh,zh,zh,zh,zh,zh,zh,zh,zh,zh,zh,zh,zh,zh,zh,zh,zh,zh,zh,zh,zh,zh,zh,zh,zh,zh,zh,zh,zh]) S=some (e,T,J)) (he:e=.normal∨e=.ret)  (h0:jK (T.getD 2 zh)=true) (h1:jK (T.getD 3 zh)=true) (h2:jK (T.getD 4 zh)=true):jm zi O 28 [c] S=some (Value.tuple #[T.getD 2 zh,T.getD 3 zh,T.getD 4 zh],J) :=
 wo rfl rfl Try.func28 (by decide) jq.body (by exact h) he ((wR ((show zX zi T J Try.f28.results.toList=zX zi T J [(ResultVar.tmp 2),(ResultVar.tmp 3),(ResultVar.tmp 4)] from by kernel_rfl).trans (by simp only [zX])) (by kernel_rfl) (by simp only [List.all_cons,List.all_nil,h0,h1,h2,Bool.and_true])).trans rfl)
end Go.Proofs.Ytblpnklfimkfoaa
namespace Go.Proofs.Ytblpnklfimkfoaa
open Go.Abs
abbrev zJ.id:FuncId:=47
noncomputable def zJ.code:Code:=(.seq (.region 0 (reg Try.f47 0) false) (.seq (.region 1 (reg Try.f47 1) false) (.seq (.seq (.region 2 (reg Try.f47 2) false) (.cond (.tmp 26) (.seq (.region 3 (reg Try.f47 3) false) Code.ret) Code.skip)) (.seq (.region 4 (reg Try.f47 4) true) Code.ret))))
theorem zJ.body:Try.f47.body=some zJ.code:=by kernel_rfl
variable (d I L M N b c G J K f g i k l m n o p q r s t u w x y z A B C D E:Value) (S:zx)
theorem zJ.r0 :jF zi ⟨false,false,false⟩ (jm zi O) (reg Try.f47 0) (reg Try.f47 0).toList ([d,I,L,M,N,b,c,G,J,K,f,g,i,k,l,m,n,o,p,q,r,s,t,u,w,x,y,z,A,B,C,D,E]) S =
  ( some ([d,I,Value.slice none 0 0,Value.slice none 0 0,.int .i64 0,b,c,G,J,K,f,g,i,k,l,m,n,o,p,q,r,s,t,u,w,x,y,z,A,B,C,D,E],S)):=by
 kernel_rfl
theorem zJ.r1 :jF zi ⟨false,false,false⟩ (jm zi O) (reg Try.f47 1) (reg Try.f47 1).toList ([d,I,L,M,N,b,c,G,J,K,f,g,i,k,l,m,n,o,p,q,r,s,t,u,w,x,y,z,A,B,C,D,E]) S =
  (zU ((jm zi O) 49 [(dem (dem d))] S) (fun F H=>zU (zW F 0 H) (fun Q P=>zU (zW (jd 0 F) 1 P) (fun R W=>zU (zW (jd 1 (jd 0 F)) 2 W) (fun a X=>some ([d,I,L,M,N,Q,R,a,jd 2 (jd 1 (jd 0 F)),dem d,dem F,dem Q,dem R,dem a,l,m,n,o,p,q,r,s,t,u,w,x,y,z,A,B,C,D,E],X)) ()) ()) ()) ()):=by
 kernel_rfl
theorem zJ.r2 :jF zi ⟨false,false,false⟩ (jm zi O) (reg Try.f47 2) (reg Try.f47 2).toList ([d,I,L,M,N,b,c,G,J,K,f,g,i,k,l,m,n,o,p,q,r,s,t,u,w,x,y,z,A,B,C,D,E]) S =
  (zU (wu zi BinOp.neq 3 (dem G) (.int .i64 0) S) (fun F H=>gdK (dem F) false (ret b) H (fun Q P=>gdK (dem F) false (wu zi BinOp.gtr 75 (dem Q) (Value.int IntKind.u64 4096)) P (fun R W=>zU (ql (dem F) (Value.bool true) R W) (fun a X=>gdK (dem a) false (ret b) X (fun v7 S5=>gdK (dem a) false (wP zi false false 75 3 (dem v7)) S5 (fun v8 S6=>gdK (dem a) false (ret c) S6 (fun v9 S7=>gdK (dem a) false (ku zi 26 (dem v9)) S7 (fun U S8=>gdK (dem a) false (wu zi BinOp.gtr 3 v8 U) S8 (fun V S9=>zU (ql (dem a) (Value.bool true) V S9) (fun Z a0=>some ([d,I,L,M,N,b,c,G,J,K,f,g,i,k,dem G,F,dem F,dem Q,R,a,dem a,dem v7,v8,dem v9,U,V,Z,z,A,B,C,D,E],a0)) ()) ()) ()) ()) ()) ()) ()) ()) ()) ()):=by
 refine sP Try.f47 2 0 (v:=G) ?_
 refine sD Try.f47 2 1 (fun F H=>?_)
 refine sP Try.f47 2 2 (v:=F) ?_
 refine sG Try.f47 2 3 (j:=2) (fun Q P=>?_)
 refine sG Try.f47 2 4 (j:=2) (fun R W=>?_)
 refine sD Try.f47 2 5 (fun a X=>?_)
 refine sP Try.f47 2 6 (v:=a) ?_
 refine sG Try.f47 2 7 (j:=6) (fun v7 S5=>?_)
 refine sG Try.f47 2 8 (j:=6) (fun v8 S6=>?_)
 refine sG Try.f47 2 9 (j:=6) (fun v9 S7=>?_)
 refine sG Try.f47 2 10 (j:=6) (fun U S8=>?_)
 refine sG Try.f47 2 11 (j:=6) (fun V S9=>?_)
 refine sD Try.f47 2 12 (fun Z a0=>?_)
 kernel_rfl
theorem zJ.r3 :jF zi ⟨false,false,false⟩ (jm zi O) (reg Try.f47 3) (reg Try.f47 3).toList ([d,I,L,M,N,b,c,G,J,K,f,g,i,k,l,m,n,o,p,q,r,s,t,u,w,x,y,z,A,B,C,D,E]) S =
  ( some ([d,I,Value.slice none 0 0,Value.slice none 0 0,.int .i64 11,b,c,G,J,K,f,g,i,k,l,m,n,o,p,q,r,s,t,u,w,x,y,z,A,B,C,D,E],S)):=by
 kernel_rfl
theorem zJ.d4:qO zi (reg Try.f47 4)=true:=by kernel_rfl
theorem zJ.ff4:fixed zi (reg Try.f47 4)=false:=by kernel_rfl
theorem zJ.k4:checked zi (reg Try.f47 4)=[]:=by kernel_rfl
theorem zJ.g4:again zi (reg Try.f47 4)=[]:=by kernel_rfl
theorem zJ.r4 :zI zi O false (.region 4 (reg Try.f47 4) true) ([d,I,L,M,N,b,c,G,J,K,f,g,i,k,l,m,n,o,p,q,r,s,t,u,w,x,y,z,A,B,C,D,E]) S =
  J4 (zU (yc zi false 26 (dem c) none (some (dem b)) S) (fun Y H=>zU (yc zi false 26 (dem c) (some (dem b)) none H) (fun a P=>some ([d,I,Y,a,.int .i64 0,b,c,G,J,K,f,g,i,k,l,m,n,o,p,q,r,s,t,u,w,x,y,dem c,dem b,dem Y,dem c,dem b,dem a],P)) ()) ()):=by
 rw [yO zJ.d4 zJ.ff4 zJ.k4 zJ.g4]
 refine congrArg J4 ?_
 refine tP Try.f47 4 0 (v:=c) ?_
 refine tP Try.f47 4 1 (v:=b) ?_
 refine tD Try.f47 4 2 (fun Y H=>?_)
 refine tP Try.f47 4 3 (v:=c) ?_
 refine tP Try.f47 4 4 (v:=b) ?_
 refine tD Try.f47 4 5 (fun a P=>?_)
 refine tP Try.f47 4 6 (v:=Y) ?_
 refine tP Try.f47 4 7 (v:=a) ?_
 refine tP Try.f47 4 8 (v:=(.int .i64 0)) ?_
 kernel_rfl
theorem zJ.runs {d:Value} {S H:zx} {e:AEx} {T:List Value} (h:zI zi O false zJ.code ([d,zh,zh,zh,zh,zh,zh,zh,zh,zh,zh,zh,zh,zh,zh,zh,zh,zh,zh,zh,zh,zh,zh,zh,zh,zh,zh,zh,zh,zh,zh,zh,zh]) S=some (e,T,H)) (he:e=.normal∨e=.ret)  (h0:jK (T.getD 2 zh)=true) (h1:jK (T.getD 3 zh)=true) (h2:jK (T.getD 4 zh)=true):jm zi O 47 [d] S=some (Value.tuple #[T.getD 2 zh,T.getD 3 zh,T.getD 4 zh],H) :=
 wo rfl rfl Try.func47 (by decide) zJ.body (by exact h) he ((wR ((show zX zi T H Try.f47.results.toList=zX zi T H [(ResultVar.tmp 2),(ResultVar.tmp 3),(ResultVar.tmp 4)] from by kernel_rfl).trans (by simp only [zX])) (by kernel_rfl) (by simp only [List.all_cons,List.all_nil,h0,h1,h2,Bool.and_true])).trans rfl)
end Go.Proofs.Ytblpnklfimkfoaa
namespace Go.Proofs.Ytblpnklfimkfoaa
open Go.Abs
abbrev zB.id:FuncId:=49
noncomputable def zB.jG:Code:=(.seq (.seq (.region 4 (reg Try.f49 4) false) (.cond (.tmp 17) Code.skip (.exit 0))) (.seq (.block 1 (.seq (.region 6 (reg Try.f49 6) false) (.seq (.seq (.region 7 (reg Try.f49 7) false) (.cond (.tmp 31) (.seq (.region 8 (reg Try.f49 8) false) Code.ret) Code.skip)) (.seq (.region 9 (reg Try.f49 9) false) (.seq (.region 10 (reg Try.f49 10) false) (.seq (.region 11 (reg Try.f49 11) false) (.cond (.tmp 43) (.seq (.region 12 (reg Try.f49 12) false) (.seq (.seq (.region 13 (reg Try.f49 13) false) (.cond (.tmp 50) (.seq (.region 14 (reg Try.f49 14) false) Code.ret) Code.skip)) (.seq (.region 15 (reg Try.f49 15) false) Code.ret))) Code.skip))))))) (.region 5 (reg Try.f49 5) false)))
noncomputable def zB.code:Code:=(.seq (.region 0 (reg Try.f49 0) false) (.seq (.region 1 (reg Try.f49 1) false) (.seq (.region 2 (reg Try.f49 2) false) (.seq (.seq (.region 3 (reg Try.f49 3) false) (.block 0 (.loop zB.jG))) (.seq (.region 16 (reg Try.f49 16) false) Code.ret)))))
theorem zB.body:Try.f49.body=some zB.code:=by kernel_rfl
theorem zB.eta {T:List Value} (h:T.length=58):T=[T.getD 0 zh,T.getD 1 zh,T.getD 2 zh,T.getD 3 zh,T.getD 4 zh,T.getD 5 zh,T.getD 6 zh,T.getD 7 zh,T.getD 8 zh,T.getD 9 zh,T.getD 10 zh,T.getD 11 zh,T.getD 12 zh,T.getD 13 zh,T.getD 14 zh,T.getD 15 zh,T.getD 16 zh,T.getD 17 zh,T.getD 18 zh,T.getD 19 zh,T.getD 20 zh,T.getD 21 zh,T.getD 22 zh,T.getD 23 zh,T.getD 24 zh,T.getD 25 zh,T.getD 26 zh,T.getD 27 zh,T.getD 28 zh,T.getD 29 zh,T.getD 30 zh,T.getD 31 zh,T.getD 32 zh,T.getD 33 zh,T.getD 34 zh,T.getD 35 zh,T.getD 36 zh,T.getD 37 zh,T.getD 38 zh,T.getD 39 zh,T.getD 40 zh,T.getD 41 zh,T.getD 42 zh,T.getD 43 zh,T.getD 44 zh,T.getD 45 zh,T.getD 46 zh,T.getD 47 zh,T.getD 48 zh,T.getD 49 zh,T.getD 50 zh,T.getD 51 zh,T.getD 52 zh,T.getD 53 zh,T.getD 54 zh,T.getD 55 zh,T.getD 56 zh,T.getD 57 zh]:=(yJ T 58 h).trans (by kernel_rfl)
theorem zB.list {T:List Value} (h:T.length=58):∃ x0 x1 x2 x3 x4 x5 x6 x7 x8 x9 a b c d f g i k l m n o p q r s t u w x y z A B C D E F G H I J K L M N P Q R U V W X Y Z a0 a1 a2,T=[x0,x1,x2,x3,x4,x5,x6,x7,x8,x9,a,b,c,d,f,g,i,k,l,m,n,o,p,q,r,s,t,u,w,x,y,z,A,B,C,D,E,F,G,H,I,J,K,L,M,N,P,Q,R,U,V,W,X,Y,Z,a0,a1,a2]:=⟨_,_,_,_,_,_,_,_,_,_,_,_,_,_,_,_,_,_,_,_,_,_,_,_,_,_,_,_,_,_,_,_,_,_,_,_,_,_,_,_,_,_,_,_,_,_,_,_,_,_,_,_,_,_,_,_,_,_,zB.eta h⟩
variable (x0 x1 x2 x3 x4 x5 x6 x7 x8 x9 a b c d f g i k l m n o p q r s t u w x y z A B C D E F G H I J K L M N P Q R U V W X Y Z a0 a1 a2:Value) (S:zx)
theorem zB.r0 :jF zi ⟨false,false,false⟩ (jm zi O) (reg Try.f49 0) (reg Try.f49 0).toList ([x0,x1,x2,x3,x4,x5,x6,x7,x8,x9,a,b,c,d,f,g,i,k,l,m,n,o,p,q,r,s,t,u,w,x,y,z,A,B,C,D,E,F,G,H,I,J,K,L,M,N,P,Q,R,U,V,W,X,Y,Z,a0,a1,a2]) S =
  ( some ([x0,x1,Value.int IntKind.u64 0,Value.slice none 0 0,.int .i64 0,x5,x6,x7,x8,x9,a,b,c,d,f,g,i,k,l,m,n,o,p,q,r,s,t,u,w,x,y,z,A,B,C,D,E,F,G,H,I,J,K,L,M,N,P,Q,R,U,V,W,X,Y,Z,a0,a1,a2],S)):=by
 kernel_rfl
theorem zB.r1 :jF zi ⟨false,false,false⟩ (jm zi O) (reg Try.f49 1) (reg Try.f49 1).toList ([x0,x1,x2,x3,x4,x5,x6,x7,x8,x9,a,b,c,d,f,g,i,k,l,m,n,o,p,q,r,s,t,u,w,x,y,z,A,B,C,D,E,F,G,H,I,J,K,L,M,N,P,Q,R,U,V,W,X,Y,Z,a0,a1,a2]) S =
  ( some ([x0,x1,x2,x3,x4,Value.int IntKind.u64 0,x6,x7,x8,x9,a,b,c,d,f,g,i,k,l,m,n,o,p,q,r,s,t,u,w,x,y,z,A,B,C,D,E,F,G,H,I,J,K,L,M,N,P,Q,R,U,V,W,X,Y,Z,a0,a1,a2],S)):=by
 kernel_rfl
theorem zB.r2 :jF zi ⟨false,false,false⟩ (jm zi O) (reg Try.f49 2) (reg Try.f49 2).toList ([x0,x1,x2,x3,x4,x5,x6,x7,x8,x9,a,b,c,d,f,g,i,k,l,m,n,o,p,q,r,s,t,u,w,x,y,z,A,B,C,D,E,F,G,H,I,J,K,L,M,N,P,Q,R,U,V,W,X,Y,Z,a0,a1,a2]) S =
  ( some ([x0,x1,x2,x3,x4,x5,Value.int IntKind.u64 1,x7,x8,x9,a,b,c,d,f,g,i,k,l,m,n,o,p,q,r,s,t,u,w,x,y,z,A,B,C,D,E,F,G,H,I,J,K,L,M,N,P,Q,R,U,V,W,X,Y,Z,a0,a1,a2],S)):=by
 kernel_rfl
theorem zB.r3 :jF zi ⟨false,false,false⟩ (jm zi O) (reg Try.f49 3) (reg Try.f49 3).toList ([x0,x1,x2,x3,x4,x5,x6,x7,x8,x9,a,b,c,d,f,g,i,k,l,m,n,o,p,q,r,s,t,u,w,x,y,z,A,B,C,D,E,F,G,H,I,J,K,L,M,N,P,Q,R,U,V,W,X,Y,Z,a0,a1,a2]) S =
  ( some ([x0,x1,x2,x3,x4,x5,x6,.int .i64 0,x8,x9,a,b,c,d,f,g,i,k,l,m,n,o,p,q,r,s,t,u,w,x,y,z,A,B,C,D,E,F,G,H,I,J,K,L,M,N,P,Q,R,U,V,W,X,Y,Z,a0,a1,a2],S)):=by
 kernel_rfl
theorem zB.r4 :jF zi ⟨false,false,false⟩ (jm zi O) (reg Try.f49 4) (reg Try.f49 4).toList ([x0,x1,x2,x3,x4,x5,x6,x7,x8,x9,a,b,c,d,f,g,i,k,l,m,n,o,p,q,r,s,t,u,w,x,y,z,A,B,C,D,E,F,G,H,I,J,K,L,M,N,P,Q,R,U,V,W,X,Y,Z,a0,a1,a2]) S =
  (zU (ku zi 26 (dem x0) S) (fun v2 S1=>zU (wu zi BinOp.lss 3 (dem x7) v2 S1) (fun v3 S2=>gdK (dem v3) true (ret x7) S2 (fun v5 S3=>gdK (dem v3) true (wu zi BinOp.lss 3 (dem v5) (.int .i64 10)) S3 (fun v6 S4=>zU (ql (dem v3) v6 (Value.bool false) S4) (fun v7 S5=>some ([x0,x1,x2,x3,x4,x5,x6,x7,x8,x9,dem x7,dem x0,v2,v3,dem v3,dem v5,v6,v7,l,m,n,o,p,q,r,s,t,u,w,x,y,z,A,B,C,D,E,F,G,H,I,J,K,L,M,N,P,Q,R,U,V,W,X,Y,Z,a0,a1,a2],S5)) ()) ()) ()) ()) ()):=by
 refine sP Try.f49 4 0 (v:=x7) ?_
 refine sP Try.f49 4 1 (v:=x0) ?_
 refine sD Try.f49 4 2 (fun v2 S1=>?_)
 refine sD Try.f49 4 3 (fun v3 S2=>?_)
 refine sP Try.f49 4 4 (v:=v3) ?_
 refine sG Try.f49 4 5 (j:=4) (fun v5 S3=>?_)
 refine sG Try.f49 4 6 (j:=4) (fun v6 S4=>?_)
 refine sD Try.f49 4 7 (fun v7 S5=>?_)
 kernel_rfl
theorem zB.r6 :jF zi ⟨false,false,false⟩ (jm zi O) (reg Try.f49 6) (reg Try.f49 6).toList ([x0,x1,x2,x3,x4,x5,x6,x7,x8,x9,a,b,c,d,f,g,i,k,l,m,n,o,p,q,r,s,t,u,w,x,y,z,A,B,C,D,E,F,G,H,I,J,K,L,M,N,P,Q,R,U,V,W,X,Y,Z,a0,a1,a2]) S =
  (zU (jI zi 26 (dem x0) (dem x7) S) (fun v2 S1=>zU (jE zi false 5 v2 S1) (fun v3 S2=>zU (wu zi BinOp.rem 5 v3 (Value.int IntKind.u8 128) S2) (fun v4 S3=>zU (wP zi false false 5 75 v4 S3) (fun v5 S4=>some ([x0,x1,x2,x3,x4,x5,x6,x7,v5,x9,a,b,c,d,f,g,i,k,l,m,dem x0,dem x7,v2,v3,v4,dem v5,t,u,w,x,y,z,A,B,C,D,E,F,G,H,I,J,K,L,M,N,P,Q,R,U,V,W,X,Y,Z,a0,a1,a2],S4)) ()) ()) ()) ()):=by
 kernel_rfl
theorem zB.r7 :jF zi ⟨false,false,false⟩ (jm zi O) (reg Try.f49 7) (reg Try.f49 7).toList ([x0,x1,x2,x3,x4,x5,x6,x7,x8,x9,a,b,c,d,f,g,i,k,l,m,n,o,p,q,r,s,t,u,w,x,y,z,A,B,C,D,E,F,G,H,I,J,K,L,M,N,P,Q,R,U,V,W,X,Y,Z,a0,a1,a2]) S =
  (zU (wu zi BinOp.eql 3 (dem x7) (.int .i64 9) S) (fun v1 S1=>gdK (dem v1) true (ret x8) S1 (fun v3 S2=>gdK (dem v1) true (wu zi BinOp.gtr 75 (dem v3) (Value.int IntKind.u64 1)) S2 (fun v4 S3=>zU (ql (dem v1) v4 (Value.bool false) S3) (fun v5 S4=>some ([x0,x1,x2,x3,x4,x5,x6,x7,x8,x9,a,b,c,d,f,g,i,k,l,m,n,o,p,q,r,s,dem x7,v1,dem v1,dem v3,v4,v5,A,B,C,D,E,F,G,H,I,J,K,L,M,N,P,Q,R,U,V,W,X,Y,Z,a0,a1,a2],S4)) ()) ()) ()) ()):=by
 refine sP Try.f49 7 0 (v:=x7) ?_
 refine sD Try.f49 7 1 (fun v1 S1=>?_)
 refine sP Try.f49 7 2 (v:=v1) ?_
 refine sG Try.f49 7 3 (j:=2) (fun v3 S2=>?_)
 refine sG Try.f49 7 4 (j:=2) (fun v4 S3=>?_)
 refine sD Try.f49 7 5 (fun v5 S4=>?_)
 kernel_rfl
theorem zB.r8 :jF zi ⟨false,false,false⟩ (jm zi O) (reg Try.f49 8) (reg Try.f49 8).toList ([x0,x1,x2,x3,x4,x5,x6,x7,x8,x9,a,b,c,d,f,g,i,k,l,m,n,o,p,q,r,s,t,u,w,x,y,z,A,B,C,D,E,F,G,H,I,J,K,L,M,N,P,Q,R,U,V,W,X,Y,Z,a0,a1,a2]) S =
  ( some ([x0,x1,Value.int IntKind.u64 0,Value.slice none 0 0,.int .i64 11,x5,x6,x7,x8,x9,a,b,c,d,f,g,i,k,l,m,n,o,p,q,r,s,t,u,w,x,y,z,A,B,C,D,E,F,G,H,I,J,K,L,M,N,P,Q,R,U,V,W,X,Y,Z,a0,a1,a2],S)):=by
 kernel_rfl
theorem zB.r9 :jF zi ⟨false,false,false⟩ (jm zi O) (reg Try.f49 9) (reg Try.f49 9).toList ([x0,x1,x2,x3,x4,x5,x6,x7,x8,x9,a,b,c,d,f,g,i,k,l,m,n,o,p,q,r,s,t,u,w,x,y,z,A,B,C,D,E,F,G,H,I,J,K,L,M,N,P,Q,R,U,V,W,X,Y,Z,a0,a1,a2]) S =
  (zU (wu zi BinOp.mul 75 (dem x8) (dem x6) S) (fun v3 S1=>zU (wu zi BinOp.add 75 (dem x5) v3 S1) (fun v4 S2=>some ([x0,x1,x2,x3,x4,v4,x6,x7,x8,x9,a,b,c,d,f,g,i,k,l,m,n,o,p,q,r,s,t,u,w,x,y,z,dem x5,dem x8,dem x6,v3,dem v4,F,G,H,I,J,K,L,M,N,P,Q,R,U,V,W,X,Y,Z,a0,a1,a2],S2)) ()) ()):=by
 kernel_rfl
theorem zB.r10 :jF zi ⟨false,false,false⟩ (jm zi O) (reg Try.f49 10) (reg Try.f49 10).toList ([x0,x1,x2,x3,x4,x5,x6,x7,x8,x9,a,b,c,d,f,g,i,k,l,m,n,o,p,q,r,s,t,u,w,x,y,z,A,B,C,D,E,F,G,H,I,J,K,L,M,N,P,Q,R,U,V,W,X,Y,Z,a0,a1,a2]) S =
  (zU (wu zi BinOp.mul 75 (dem x6) (Value.int IntKind.u64 128) S) (fun v1 S1=>some ([x0,x1,x2,x3,x4,x5,v1,x7,x8,x9,a,b,c,d,f,g,i,k,l,m,n,o,p,q,r,s,t,u,w,x,y,z,A,B,C,D,E,dem x6,dem v1,H,I,J,K,L,M,N,P,Q,R,U,V,W,X,Y,Z,a0,a1,a2],S1)) ()):=by
 kernel_rfl
theorem zB.r11 :jF zi ⟨false,false,false⟩ (jm zi O) (reg Try.f49 11) (reg Try.f49 11).toList ([x0,x1,x2,x3,x4,x5,x6,x7,x8,x9,a,b,c,d,f,g,i,k,l,m,n,o,p,q,r,s,t,u,w,x,y,z,A,B,C,D,E,F,G,H,I,J,K,L,M,N,P,Q,R,U,V,W,X,Y,Z,a0,a1,a2]) S =
  (zU (jI zi 26 (dem x0) (dem x7) S) (fun v2 S1=>zU (jE zi false 5 v2 S1) (fun v3 S2=>zU (wu zi BinOp.lss 5 v3 (Value.int IntKind.u8 128) S2) (fun v4 S3=>some ([x0,x1,x2,x3,x4,x5,x6,x7,x8,x9,a,b,c,d,f,g,i,k,l,m,n,o,p,q,r,s,t,u,w,x,y,z,A,B,C,D,E,F,G,dem x0,dem x7,v2,v3,v4,M,N,P,Q,R,U,V,W,X,Y,Z,a0,a1,a2],S3)) ()) ()) ()):=by
 kernel_rfl
theorem zB.r12 :jF zi ⟨false,false,false⟩ (jm zi O) (reg Try.f49 12) (reg Try.f49 12).toList ([x0,x1,x2,x3,x4,x5,x6,x7,x8,x9,a,b,c,d,f,g,i,k,l,m,n,o,p,q,r,s,t,u,w,x,y,z,A,B,C,D,E,F,G,H,I,J,K,L,M,N,P,Q,R,U,V,W,X,Y,Z,a0,a1,a2]) S =
  (zU ((jm zi O) 46 [(dem (dem x5))] S) (fun v1 S1=>some ([x0,x1,x2,x3,x4,x5,x6,x7,x8,v1,a,b,c,d,f,g,i,k,l,m,n,o,p,q,r,s,t,u,w,x,y,z,A,B,C,D,E,F,G,H,I,J,K,L,dem x5,dem v1,P,Q,R,U,V,W,X,Y,Z,a0,a1,a2],S1)) ()):=by
 kernel_rfl
theorem zB.r13 :jF zi ⟨false,false,false⟩ (jm zi O) (reg Try.f49 13) (reg Try.f49 13).toList ([x0,x1,x2,x3,x4,x5,x6,x7,x8,x9,a,b,c,d,f,g,i,k,l,m,n,o,p,q,r,s,t,u,w,x,y,z,A,B,C,D,E,F,G,H,I,J,K,L,M,N,P,Q,R,U,V,W,X,Y,Z,a0,a1,a2]) S =
  (zU (ku zi 26 (dem x9) S) (fun v1 S1=>zU (wu zi BinOp.add 3 (dem x7) (.int .i64 1) S1) (fun v3 S2=>zU (wu zi BinOp.neq 3 v1 v3 S2) (fun v4 S3=>some ([x0,x1,x2,x3,x4,x5,x6,x7,x8,x9,a,b,c,d,f,g,i,k,l,m,n,o,p,q,r,s,t,u,w,x,y,z,A,B,C,D,E,F,G,H,I,J,K,L,M,N,dem x9,v1,dem x7,v3,v4,W,X,Y,Z,a0,a1,a2],S3)) ()) ()) ()):=by
 kernel_rfl
theorem zB.r14 :jF zi ⟨false,false,false⟩ (jm zi O) (reg Try.f49 14) (reg Try.f49 14).toList ([x0,x1,x2,x3,x4,x5,x6,x7,x8,x9,a,b,c,d,f,g,i,k,l,m,n,o,p,q,r,s,t,u,w,x,y,z,A,B,C,D,E,F,G,H,I,J,K,L,M,N,P,Q,R,U,V,W,X,Y,Z,a0,a1,a2]) S =
  ( some ([x0,x1,Value.int IntKind.u64 0,Value.slice none 0 0,.int .i64 11,x5,x6,x7,x8,x9,a,b,c,d,f,g,i,k,l,m,n,o,p,q,r,s,t,u,w,x,y,z,A,B,C,D,E,F,G,H,I,J,K,L,M,N,P,Q,R,U,V,W,X,Y,Z,a0,a1,a2],S)):=by
 kernel_rfl
theorem zB.r15 :jF zi ⟨false,false,false⟩ (jm zi O) (reg Try.f49 15) (reg Try.f49 15).toList ([x0,x1,x2,x3,x4,x5,x6,x7,x8,x9,a,b,c,d,f,g,i,k,l,m,n,o,p,q,r,s,t,u,w,x,y,z,A,B,C,D,E,F,G,H,I,J,K,L,M,N,P,Q,R,U,V,W,X,Y,Z,a0,a1,a2]) S =
  (zU (jH zi 26 0 [] S) (fun v1 S1=>zU (wu zi BinOp.add 3 (dem x7) (.int .i64 1) S1) (fun v4 S2=>zU (yc zi false 26 (dem x0) (some v4) none S2) (fun v5 S3=>zU (jV zi 26 26 v1 v5 S3) (fun v6 S4=>some ([x0,x1,x5,v6,.int .i64 0,dem x5,x6,x7,x8,x9,a,b,c,d,f,g,i,k,l,m,n,o,p,q,r,s,t,u,w,x,y,z,A,B,C,D,E,F,G,H,I,J,K,L,M,N,P,Q,R,U,V,dem x5,dem v1,dem x0,dem x7,v4,v5,dem v6],S4)) ()) ()) ()) ()):=by
 kernel_rfl
theorem zB.r5 :jF zi ⟨false,false,false⟩ (jm zi O) (reg Try.f49 5) (reg Try.f49 5).toList ([x0,x1,x2,x3,x4,x5,x6,x7,x8,x9,a,b,c,d,f,g,i,k,l,m,n,o,p,q,r,s,t,u,w,x,y,z,A,B,C,D,E,F,G,H,I,J,K,L,M,N,P,Q,R,U,V,W,X,Y,Z,a0,a1,a2]) S =
  (zU (wu zi BinOp.add 3 (dem x7) (.int .i64 1) S) (fun v1 S1=>some ([x0,x1,x2,x3,x4,x5,x6,v1,x8,x9,a,b,c,d,f,g,i,k,dem x7,dem v1,n,o,p,q,r,s,t,u,w,x,y,z,A,B,C,D,E,F,G,H,I,J,K,L,M,N,P,Q,R,U,V,W,X,Y,Z,a0,a1,a2],S1)) ()):=by
 kernel_rfl
theorem zB.r16 :jF zi ⟨false,false,false⟩ (jm zi O) (reg Try.f49 16) (reg Try.f49 16).toList ([x0,x1,x2,x3,x4,x5,x6,x7,x8,x9,a,b,c,d,f,g,i,k,l,m,n,o,p,q,r,s,t,u,w,x,y,z,A,B,C,D,E,F,G,H,I,J,K,L,M,N,P,Q,R,U,V,W,X,Y,Z,a0,a1,a2]) S =
  ( some ([x0,x1,Value.int IntKind.u64 0,Value.slice none 0 0,.int .i64 11,x5,x6,x7,x8,x9,a,b,c,d,f,g,i,k,l,m,n,o,p,q,r,s,t,u,w,x,y,z,A,B,C,D,E,F,G,H,I,J,K,L,M,N,P,Q,R,U,V,W,X,Y,Z,a0,a1,a2],S)):=by
 kernel_rfl
theorem zB.runs {x0:Value} {S S1:zx} {e:AEx} {T:List Value} (h:zI zi O false zB.code ([x0,zh,zh,zh,zh,zh,zh,zh,zh,zh,zh,zh,zh,zh,zh,zh,zh,zh,zh,zh,zh,zh,zh,zh,zh,zh,zh,zh,zh,zh,zh,zh,zh,zh,zh,zh,zh,zh,zh,zh,zh,zh,zh,zh,zh,zh,zh,zh,zh,zh,zh,zh,zh,zh,zh,zh,zh,zh]) S=some (e,T,S1)) (he:e=.normal∨e=.ret)  (h0:jK (T.getD 2 zh)=true) (h1:jK (T.getD 3 zh)=true) (h2:jK (T.getD 4 zh)=true):jm zi O 49 [x0] S=some (Value.tuple #[T.getD 2 zh,T.getD 3 zh,T.getD 4 zh],S1) :=
 wo rfl rfl Try.func49 (by decide) zB.body (by exact h) he ((wR ((show zX zi T S1 Try.f49.results.toList=zX zi T S1 [(ResultVar.tmp 2),(ResultVar.tmp 3),(ResultVar.tmp 4)] from by kernel_rfl).trans (by simp only [zX])) (by kernel_rfl) (by simp only [List.all_cons,List.all_nil,h0,h1,h2,Bool.and_true])).trans rfl)
end Go.Proofs.Ytblpnklfimkfoaa
namespace Go.Proofs.Ytblpnklfimkfoaa
open Go.Abs
abbrev slices_Clone.id:FuncId:=43
noncomputable def slices_Clone.code:Code:=(.seq (.region 0 (reg Try.f43 0) false) (.seq (.seq (.region 1 (reg Try.f43 1) false) (.cond (.tmp 4) (.seq (.region 2 (reg Try.f43 2) false) Code.ret) Code.skip)) (.seq (.region 3 (reg Try.f43 3) false) Code.ret)))
theorem slices_Clone.body:Try.f43.body=some slices_Clone.code:=by kernel_rfl
variable (b c l f g i j k:Value) (S:zx)
theorem slices_Clone.r0 :jF zi ⟨false,false,false⟩ (jm zi O) (reg Try.f43 0) (reg Try.f43 0).toList ([b,c,l,f,g,i,j,k]) S =
  ( some ([b,c,Value.slice none 0 0,f,g,i,j,k],S)):=by
 kernel_rfl
theorem slices_Clone.r1 :jF zi ⟨false,false,false⟩ (jm zi O) (reg Try.f43 1) (reg Try.f43 1).toList ([b,c,l,f,g,i,j,k]) S =
  (zU (wu zi BinOp.eql 26 (dem b) (Value.slice none 0 0) S) (fun o d=>some ([b,c,l,dem b,o,i,j,k],d)) ()):=by
 kernel_rfl
theorem slices_Clone.r2 :jF zi ⟨false,false,false⟩ (jm zi O) (reg Try.f43 2) (reg Try.f43 2).toList ([b,c,l,f,g,i,j,k]) S =
  ( some ([b,c,Value.slice none 0 0,f,g,i,j,k],S)):=by
 kernel_rfl
theorem slices_Clone.r3 :jF zi ⟨false,false,false⟩ (jm zi O) (reg Try.f43 3) (reg Try.f43 3).toList ([b,c,l,f,g,i,j,k]) S =
  (zU (jH zi 26 0 [] S) (fun m d=>zU (jV zi 26 26 m (dem b) d) (fun n p=>some ([b,c,n,f,g,dem m,dem b,dem n],p)) ()) ()):=by
 kernel_rfl
theorem slices_Clone.runs {b:Value} {S d:zx} {e:AEx} {T:List Value} (h:zI zi O false slices_Clone.code ([b,zh,zh,zh,zh,zh,zh,zh]) S=some (e,T,d)) (he:e=.normal∨e=.ret):jm zi O 43 [b] S=some (T.getD 2 zh,d) :=
 wo rfl rfl Try.func43 (by decide) slices_Clone.body (by exact h) he (yD (a:=T.getD 2 zh) ((show zX zi T d Try.f43.results.toList=zX zi T d [(ResultVar.tmp 2)] from by kernel_rfl).trans (by simp only [zX])) (by kernel_rfl))
end Go.Proofs.Ytblpnklfimkfoaa
namespace Go.Proofs.Ytblpnklfimkfoaa
open Go.Abs
abbrev jc.id:FuncId:=42
noncomputable def jc.jG:Code:=(.seq (.region 3 (reg Try.f42 3) false) (.seq (.cond (.tmp 11) Code.skip (.exit 0)) (.seq (.block 1 (.seq (.region 4 (reg Try.f42 4) false) (.seq (.seq (.region 5 (reg Try.f42 5) false) (.cond (.tmp 28) (.exit 0) Code.skip)) (.seq (.region 6 (reg Try.f42 6) false) (.seq (.region 7 (reg Try.f42 7) false) (.cond (.tmp 38) (.seq (.region 8 (reg Try.f42 8) false) Code.ret) Code.skip)))))) (.region 9 (reg Try.f42 9) false))))
noncomputable def jc.code:Code:=(.seq (.region 0 (reg Try.f42 0) false) (.seq (.region 1 (reg Try.f42 1) false) (.seq (.seq (.region 2 (reg Try.f42 2) false) (.block 0 (.loop jc.jG))) (.seq (.region 10 (reg Try.f42 10) false) Code.ret))))
theorem jc.body:Try.f42.body=some jc.code:=by kernel_rfl
theorem jc.eta {T:List Value} (h:T.length=46):T=[T.getD 0 zh,T.getD 1 zh,T.getD 2 zh,T.getD 3 zh,T.getD 4 zh,T.getD 5 zh,T.getD 6 zh,T.getD 7 zh,T.getD 8 zh,T.getD 9 zh,T.getD 10 zh,T.getD 11 zh,T.getD 12 zh,T.getD 13 zh,T.getD 14 zh,T.getD 15 zh,T.getD 16 zh,T.getD 17 zh,T.getD 18 zh,T.getD 19 zh,T.getD 20 zh,T.getD 21 zh,T.getD 22 zh,T.getD 23 zh,T.getD 24 zh,T.getD 25 zh,T.getD 26 zh,T.getD 27 zh,T.getD 28 zh,T.getD 29 zh,T.getD 30 zh,T.getD 31 zh,T.getD 32 zh,T.getD 33 zh,T.getD 34 zh,T.getD 35 zh,T.getD 36 zh,T.getD 37 zh,T.getD 38 zh,T.getD 39 zh,T.getD 40 zh,T.getD 41 zh,T.getD 42 zh,T.getD 43 zh,T.getD 44 zh,T.getD 45 zh]:=(yJ T 46 h).trans (by kernel_rfl)
theorem jc.list {T:List Value} (h:T.length=46):∃ P V Y Z x4 U Q R W X a b c d f g i k l m n o p q r s t u w x y z A B C D E F G H I J K L M N,T=[P,V,Y,Z,x4,U,Q,R,W,X,a,b,c,d,f,g,i,k,l,m,n,o,p,q,r,s,t,u,w,x,y,z,A,B,C,D,E,F,G,H,I,J,K,L,M,N]:=⟨_,_,_,_,_,_,_,_,_,_,_,_,_,_,_,_,_,_,_,_,_,_,_,_,_,_,_,_,_,_,_,_,_,_,_,_,_,_,_,_,_,_,_,_,_,_,jc.eta h⟩
variable (P V Y Z x4 U Q R W X a b c d f g i k l m n o p q r s t u w x y z A B C D E F G H I J K L M N:Value) (S:zx)
theorem jc.r0 :jF zi ⟨false,false,false⟩ (jm zi O) (reg Try.f42 0) (reg Try.f42 0).toList ([P,V,Y,Z,x4,U,Q,R,W,X,a,b,c,d,f,g,i,k,l,m,n,o,p,q,r,s,t,u,w,x,y,z,A,B,C,D,E,F,G,H,I,J,K,L,M,N]) S =
  ( some ([P,V,Value.int IntKind.u64 0,Value.slice none 0 0,.int .i64 0,U,Q,R,W,X,a,b,c,d,f,g,i,k,l,m,n,o,p,q,r,s,t,u,w,x,y,z,A,B,C,D,E,F,G,H,I,J,K,L,M,N],S)):=by
 kernel_rfl
theorem jc.r1 :jF zi ⟨false,false,false⟩ (jm zi O) (reg Try.f42 1) (reg Try.f42 1).toList ([P,V,Y,Z,x4,U,Q,R,W,X,a,b,c,d,f,g,i,k,l,m,n,o,p,q,r,s,t,u,w,x,y,z,A,B,C,D,E,F,G,H,I,J,K,L,M,N]) S =
  ( some ([P,V,Y,Z,x4,Value.int IntKind.u64 0,Q,R,W,X,a,b,c,d,f,g,i,k,l,m,n,o,p,q,r,s,t,u,w,x,y,z,A,B,C,D,E,F,G,H,I,J,K,L,M,N],S)):=by
 kernel_rfl
theorem jc.r2 :jF zi ⟨false,false,false⟩ (jm zi O) (reg Try.f42 2) (reg Try.f42 2).toList ([P,V,Y,Z,x4,U,Q,R,W,X,a,b,c,d,f,g,i,k,l,m,n,o,p,q,r,s,t,u,w,x,y,z,A,B,C,D,E,F,G,H,I,J,K,L,M,N]) S =
  (zU (ku zi 26 (dem P) S) (fun v1 S1=>some ([P,V,Y,Z,x4,U,Q,R,dem P,v1,.int .i64 0,b,c,d,f,g,i,k,l,m,n,o,p,q,r,s,t,u,w,x,y,z,A,B,C,D,E,F,G,H,I,J,K,L,M,N],S1)) ()):=by
 kernel_rfl
theorem jc.r3 :jF zi ⟨false,false,false⟩ (jm zi O) (reg Try.f42 3) (reg Try.f42 3).toList ([P,V,Y,Z,x4,U,Q,R,W,X,a,b,c,d,f,g,i,k,l,m,n,o,p,q,r,s,t,u,w,x,y,z,A,B,C,D,E,F,G,H,I,J,K,L,M,N]) S =
  (zU (wu zi BinOp.lss 3 a X S) (fun v0 S1=>some ([P,V,Y,Z,x4,U,Q,R,W,X,a,v0,c,d,f,g,i,k,l,m,n,o,p,q,r,s,t,u,w,x,y,z,A,B,C,D,E,F,G,H,I,J,K,L,M,N],S1)) ()):=by
 kernel_rfl
theorem jc.r4 :jF zi ⟨false,false,false⟩ (jm zi O) (reg Try.f42 4) (reg Try.f42 4).toList ([P,V,Y,Z,x4,U,Q,R,W,X,a,b,c,d,f,g,i,k,l,m,n,o,p,q,r,s,t,u,w,x,y,z,A,B,C,D,E,F,G,H,I,J,K,L,M,N]) S =
  (zU (jI zi 26 W (dem a) S) (fun v1 S1=>zU (jE zi false 5 v1 S1) (fun v2 S2=>some ([P,V,Y,Z,x4,U,a,v2,W,X,dem a,b,dem a,v1,dem v2,g,i,k,l,m,n,o,p,q,r,s,t,u,w,x,y,z,A,B,C,D,E,F,G,H,I,J,K,L,M,N],S2)) ()) ()):=by
 kernel_rfl
theorem jc.r5 :jF zi ⟨false,false,false⟩ (jm zi O) (reg Try.f42 5) (reg Try.f42 5).toList ([P,V,Y,Z,x4,U,Q,R,W,X,a,b,c,d,f,g,i,k,l,m,n,o,p,q,r,s,t,u,w,x,y,z,A,B,C,D,E,F,G,H,I,J,K,L,M,N]) S =
  (zU (wu zi BinOp.eql 3 (dem Q) (.int .i64 9) S) (fun v1 S1=>gdK (dem v1) true (ret R) S1 (fun v3 S2=>gdK (dem v1) true (wu zi BinOp.gtr 5 (dem v3) (Value.int IntKind.u8 1)) S2 (fun v4 S3=>zU (ql (dem v1) v4 (Value.bool false) S3) (fun v5 S4=>gdK (dem v5) false (ret Q) S4 (fun v7 S5=>gdK (dem v5) false (wu zi BinOp.gtr 3 (dem v7) (.int .i64 0)) S5 (fun v8 S6=>gdK (dem v5) false (ret v8) S6 (fun v9 S7=>gdK (dem v9) true (ret R) S7 (fun a0 S8=>gdK (dem v9) true (wu zi BinOp.eql 5 (dem a0) (Value.int IntKind.u8 0)) S8 (fun a1 S9=>gdK (dem v5) false (ql (dem v9) a1 (Value.bool false)) S9 (fun a2 a3=>zU (ql (dem v5) (Value.bool true) a2 a3) (fun a4 a5=>some ([P,V,Y,Z,x4,U,Q,R,W,X,a,b,c,d,f,dem Q,v1,dem v1,dem v3,v4,v5,dem v5,dem v7,v8,dem v9,dem a0,a1,a2,a4,x,y,z,A,B,C,D,E,F,G,H,I,J,K,L,M,N],a5)) ()) ()) ()) ()) ()) ()) ()) ()) ()) ()) ()):=by
 refine sP Try.f42 5 0 (v:=Q) ?_
 refine sD Try.f42 5 1 (fun v1 S1=>?_)
 refine sP Try.f42 5 2 (v:=v1) ?_
 refine sG Try.f42 5 3 (j:=2) (fun v3 S2=>?_)
 refine sG Try.f42 5 4 (j:=2) (fun v4 S3=>?_)
 refine sD Try.f42 5 5 (fun v5 S4=>?_)
 refine sP Try.f42 5 6 (v:=v5) ?_
 refine sG Try.f42 5 7 (j:=6) (fun v7 S5=>?_)
 refine sG Try.f42 5 8 (j:=6) (fun v8 S6=>?_)
 refine sG Try.f42 5 9 (j:=6) (fun v9 S7=>?_)
 refine sG Try.f42 5 10 (j:=9) (fun a0 S8=>?_)
 refine sG Try.f42 5 11 (j:=9) (fun a1 S9=>?_)
 refine sG Try.f42 5 12 (j:=6) (fun a2 a3=>?_)
 refine sD Try.f42 5 13 (fun a4 a5=>?_)
 kernel_rfl
theorem jc.r6 :jF zi ⟨false,false,false⟩ (jm zi O) (reg Try.f42 6) (reg Try.f42 6).toList ([P,V,Y,Z,x4,U,Q,R,W,X,a,b,c,d,f,g,i,k,l,m,n,o,p,q,r,s,t,u,w,x,y,z,A,B,C,D,E,F,G,H,I,J,K,L,M,N]) S =
  (zU (wu zi BinOp.and 5 (dem R) (Value.int IntKind.u8 127) S) (fun v2 S1=>zU (wP zi false false 5 75 v2 S1) (fun v3 S2=>zU (wu zi BinOp.mul 3 (.int .i64 7) (dem Q) S2) (fun v5 S3=>zU (wu zi BinOp.shl 75 v3 v5 S3) (fun v6 S4=>zU (wu zi BinOp.or 75 (dem U) v6 S4) (fun v7 S5=>some ([P,V,Y,Z,x4,v7,Q,R,W,X,a,b,c,d,f,g,i,k,l,m,n,o,p,q,r,s,t,u,w,dem U,dem R,v2,v3,dem Q,v5,v6,dem v7,F,G,H,I,J,K,L,M,N],S5)) ()) ()) ()) ()) ()):=by
 kernel_rfl
theorem jc.r7 :jF zi ⟨false,false,false⟩ (jm zi O) (reg Try.f42 7) (reg Try.f42 7).toList ([P,V,Y,Z,x4,U,Q,R,W,X,a,b,c,d,f,g,i,k,l,m,n,o,p,q,r,s,t,u,w,x,y,z,A,B,C,D,E,F,G,H,I,J,K,L,M,N]) S =
  (zU (wu zi BinOp.lss 5 (dem R) (Value.int IntKind.u8 128) S) (fun v1 S1=>some ([P,V,Y,Z,x4,U,Q,R,W,X,a,b,c,d,f,g,i,k,l,m,n,o,p,q,r,s,t,u,w,x,y,z,A,B,C,D,E,dem R,v1,H,I,J,K,L,M,N],S1)) ()):=by
 kernel_rfl
theorem jc.r8 :jF zi ⟨false,false,false⟩ (jm zi O) (reg Try.f42 8) (reg Try.f42 8).toList ([P,V,Y,Z,x4,U,Q,R,W,X,a,b,c,d,f,g,i,k,l,m,n,o,p,q,r,s,t,u,w,x,y,z,A,B,C,D,E,F,G,H,I,J,K,L,M,N]) S =
  (zU (wu zi BinOp.add 3 (dem Q) (.int .i64 1) S) (fun v3 S1=>zU (yc zi false 26 (dem P) (some v3) none S1) (fun v4 S2=>zU ((jm zi O) 43 [(dem v4)] S2) (fun v5 S3=>some ([P,V,U,v5,.int .i64 0,dem U,Q,R,W,X,a,b,c,d,f,g,i,k,l,m,n,o,p,q,r,s,t,u,w,x,y,z,A,B,C,D,E,F,G,dem U,dem P,dem Q,v3,v4,dem v5,N],S3)) ()) ()) ()):=by
 kernel_rfl
theorem jc.r9 :jF zi ⟨false,false,false⟩ (jm zi O) (reg Try.f42 9) (reg Try.f42 9).toList ([P,V,Y,Z,x4,U,Q,R,W,X,a,b,c,d,f,g,i,k,l,m,n,o,p,q,r,s,t,u,w,x,y,z,A,B,C,D,E,F,G,H,I,J,K,L,M,N]) S =
  (zU (wu zi BinOp.add 3 a (.int .i64 1) S) (fun v0 S1=>some ([P,V,Y,Z,x4,U,Q,R,W,X,dem v0,b,c,d,f,g,i,k,l,m,n,o,p,q,r,s,t,u,w,x,y,z,A,B,C,D,E,F,G,H,I,J,K,L,M,v0],S1)) ()):=by
 kernel_rfl
theorem jc.r10 :jF zi ⟨false,false,false⟩ (jm zi O) (reg Try.f42 10) (reg Try.f42 10).toList ([P,V,Y,Z,x4,U,Q,R,W,X,a,b,c,d,f,g,i,k,l,m,n,o,p,q,r,s,t,u,w,x,y,z,A,B,C,D,E,F,G,H,I,J,K,L,M,N]) S =
  ( some ([P,V,Value.int IntKind.u64 0,Value.slice none 0 0,.int .i64 11,U,Q,R,W,X,a,b,c,d,f,g,i,k,l,m,n,o,p,q,r,s,t,u,w,x,y,z,A,B,C,D,E,F,G,H,I,J,K,L,M,N],S)):=by
 kernel_rfl
theorem jc.runs {P:Value} {S S1:zx} {e:AEx} {T:List Value} (h:zI zi O false jc.code ([P,zh,zh,zh,zh,zh,zh,zh,zh,zh,zh,zh,zh,zh,zh,zh,zh,zh,zh,zh,zh,zh,zh,zh,zh,zh,zh,zh,zh,zh,zh,zh,zh,zh,zh,zh,zh,zh,zh,zh,zh,zh,zh,zh,zh,zh]) S=some (e,T,S1)) (he:e=.normal∨e=.ret)  (h0:jK (T.getD 2 zh)=true) (h1:jK (T.getD 3 zh)=true) (h2:jK (T.getD 4 zh)=true):jm zi O 42 [P] S=some (Value.tuple #[T.getD 2 zh,T.getD 3 zh,T.getD 4 zh],S1) :=
 wo rfl rfl Try.func42 (by decide) jc.body (by exact h) he ((wR ((show zX zi T S1 Try.f42.results.toList=zX zi T S1 [(ResultVar.tmp 2),(ResultVar.tmp 3),(ResultVar.tmp 4)] from by kernel_rfl).trans (by simp only [zX])) (by kernel_rfl) (by simp only [List.all_cons,List.all_nil,h0,h1,h2,Bool.and_true])).trans rfl)
end Go.Proofs.Ytblpnklfimkfoaa
namespace Go.Proofs.Ytblpnklfimkfoaa
open Go.Abs
abbrev jT.id:FuncId:=45
noncomputable def jT.jG:Code:=(.seq (.seq (.region 2 (reg Try.f45 2) false) (.cond (.tmp 5) Code.skip (.exit 0))) (.block 1 (.seq (.region 3 (reg Try.f45 3) false) (.region 4 (reg Try.f45 4) false))))
noncomputable def jT.code:Code:=(.seq (.region 0 (reg Try.f45 0) false) (.seq (.region 1 (reg Try.f45 1) false) (.seq (.block 0 (.loop jT.jG)) (.seq (.region 5 (reg Try.f45 5) false) Code.ret))))
theorem jT.body:Try.f45.body=some jT.code:=by kernel_rfl
theorem jT.eta {T:List Value} (h:T.length=19):T=[T.getD 0 zh,T.getD 1 zh,T.getD 2 zh,T.getD 3 zh,T.getD 4 zh,T.getD 5 zh,T.getD 6 zh,T.getD 7 zh,T.getD 8 zh,T.getD 9 zh,T.getD 10 zh,T.getD 11 zh,T.getD 12 zh,T.getD 13 zh,T.getD 14 zh,T.getD 15 zh,T.getD 16 zh,T.getD 17 zh,T.getD 18 zh]:=(yJ T 19 h).trans (by kernel_rfl)
theorem jT.list {T:List Value} (h:T.length=19):∃ b o v n p q r s t u c d f g i j k l m,T=[b,o,v,n,p,q,r,s,t,u,c,d,f,g,i,j,k,l,m]:=⟨_,_,_,_,_,_,_,_,_,_,_,_,_,_,_,_,_,_,_,jT.eta h⟩
variable (b o v n p q r s t u c d f g i j k l m:Value) (S:zx)
theorem jT.r0 :jF zi ⟨false,false,false⟩ (jm zi O) (reg Try.f45 0) (reg Try.f45 0).toList ([b,o,v,n,p,q,r,s,t,u,c,d,f,g,i,j,k,l,m]) S =
  ( some ([b,o,Value.slice none 0 0,n,p,q,r,s,t,u,c,d,f,g,i,j,k,l,m],S)):=by
 kernel_rfl
theorem jT.r1 :jF zi ⟨false,false,false⟩ (jm zi O) (reg Try.f45 1) (reg Try.f45 1).toList ([b,o,v,n,p,q,r,s,t,u,c,d,f,g,i,j,k,l,m]) S =
  ( some ([b,o,v,Value.slice none 0 0,p,q,r,s,t,u,c,d,f,g,i,j,k,l,m],S)):=by
 kernel_rfl
theorem jT.r2 :jF zi ⟨false,false,false⟩ (jm zi O) (reg Try.f45 2) (reg Try.f45 2).toList ([b,o,v,n,p,q,r,s,t,u,c,d,f,g,i,j,k,l,m]) S =
  (zU (wu zi BinOp.geq 75 (dem b) (Value.int IntKind.u64 128) S) (fun A w=>some ([b,o,v,n,dem b,A,r,s,t,u,c,d,f,g,i,j,k,l,m],w)) ()):=by
 kernel_rfl
theorem jT.r3 :jF zi ⟨false,false,false⟩ (jm zi O) (reg Try.f45 3) (reg Try.f45 3).toList ([b,o,v,n,p,q,r,s,t,u,c,d,f,g,i,j,k,l,m]) S =
  (zU (wP zi false false 75 5 (dem b) S) (fun x w=>zU (wu zi BinOp.or 5 x (Value.int IntKind.u8 128) w) (fun y B=>zU (jH zi 26 1 [(0,y)] B) (fun z C=>zU (jV zi 26 26 n z C) (fun D E=>some ([b,o,v,D,p,q,dem n,dem b,x,y,z,dem D,f,g,i,j,k,l,m],E)) ()) ()) ()) ()):=by
 kernel_rfl
theorem jT.r4 :jF zi ⟨false,false,false⟩ (jm zi O) (reg Try.f45 4) (reg Try.f45 4).toList ([b,o,v,n,p,q,r,s,t,u,c,d,f,g,i,j,k,l,m]) S =
  (zU (wu zi BinOp.shr 75 (dem b) (Value.int IntKind.u64 7) S) (fun A w=>some ([A,o,v,n,p,q,r,s,t,u,c,d,dem b,dem A,i,j,k,l,m],w)) ()):=by
 kernel_rfl
theorem jT.r5 :jF zi ⟨false,false,false⟩ (jm zi O) (reg Try.f45 5) (reg Try.f45 5).toList ([b,o,v,n,p,q,r,s,t,u,c,d,f,g,i,j,k,l,m]) S =
  (zU (wP zi false false 75 5 (dem b) S) (fun x w=>zU (jH zi 26 1 [(0,x)] w) (fun y B=>zU (jV zi 26 26 n y B) (fun z C=>some ([b,o,z,dem n,p,q,r,s,t,u,c,d,f,g,dem n,dem b,x,y,dem z],C)) ()) ()) ()):=by
 kernel_rfl
theorem jT.runs {b:Value} {S w:zx} {e:AEx} {T:List Value} (h:zI zi O false jT.code ([b,zh,zh,zh,zh,zh,zh,zh,zh,zh,zh,zh,zh,zh,zh,zh,zh,zh,zh]) S=some (e,T,w)) (he:e=.normal∨e=.ret):jm zi O 45 [b] S=some (T.getD 2 zh,w) :=
 wo rfl rfl Try.func45 (by decide) jT.body (by exact h) he (yD (a:=T.getD 2 zh) ((show zX zi T w Try.f45.results.toList=zX zi T w [(ResultVar.tmp 2)] from by kernel_rfl).trans (by simp only [zX])) (by kernel_rfl))
end Go.Proofs.Ytblpnklfimkfoaa
namespace Go.Proofs.Ytblpnklfimkfoaa
open Go.Abs
abbrev zV.id:FuncId:=46
noncomputable def zV.jG:Code:=(.block 1 (.seq (.region 2 (reg Try.f46 2) false) (.seq (.region 3 (reg Try.f46 3) false) (.seq (.seq (.region 4 (reg Try.f46 4) false) (.cond (.tmp 12) (.seq (.region 5 (reg Try.f46 5) false) Code.ret) Code.skip)) (.region 6 (reg Try.f46 6) false)))))
noncomputable def zV.code:Code:=(.seq (.region 0 (reg Try.f46 0) false) (.seq (.region 1 (reg Try.f46 1) false) (.block 0 (.loop zV.jG))))
theorem zV.body:Try.f46.body=some zV.code:=by kernel_rfl
theorem zV.eta {T:List Value} (h:T.length=22):T=[T.getD 0 zh,T.getD 1 zh,T.getD 2 zh,T.getD 3 zh,T.getD 4 zh,T.getD 5 zh,T.getD 6 zh,T.getD 7 zh,T.getD 8 zh,T.getD 9 zh,T.getD 10 zh,T.getD 11 zh,T.getD 12 zh,T.getD 13 zh,T.getD 14 zh,T.getD 15 zh,T.getD 16 zh,T.getD 17 zh,T.getD 18 zh,T.getD 19 zh,T.getD 20 zh,T.getD 21 zh]:=(yJ T 22 h).trans (by kernel_rfl)
theorem zV.list {T:List Value} (h:T.length=22):∃ b s z r q u v w x y c d f g i j k l m n o p,T=[b,s,z,r,q,u,v,w,x,y,c,d,f,g,i,j,k,l,m,n,o,p]:=⟨_,_,_,_,_,_,_,_,_,_,_,_,_,_,_,_,_,_,_,_,_,_,zV.eta h⟩
variable (b s z r q u v w x y c d f g i j k l m n o p:Value) (S:zx)
theorem zV.r0 :jF zi ⟨false,false,false⟩ (jm zi O) (reg Try.f46 0) (reg Try.f46 0).toList ([b,s,z,r,q,u,v,w,x,y,c,d,f,g,i,j,k,l,m,n,o,p]) S =
  ( some ([b,s,Value.slice none 0 0,r,q,u,v,w,x,y,c,d,f,g,i,j,k,l,m,n,o,p],S)):=by
 kernel_rfl
theorem zV.r1 :jF zi ⟨false,false,false⟩ (jm zi O) (reg Try.f46 1) (reg Try.f46 1).toList ([b,s,z,r,q,u,v,w,x,y,c,d,f,g,i,j,k,l,m,n,o,p]) S =
  (zU (jH zi 26 0 [] S) (fun E t=>some ([b,s,z,E,q,dem E,v,w,x,y,c,d,f,g,i,j,k,l,m,n,o,p],t)) ()):=by
 kernel_rfl
theorem zV.r2 :jF zi ⟨false,false,false⟩ (jm zi O) (reg Try.f46 2) (reg Try.f46 2).toList ([b,s,z,r,q,u,v,w,x,y,c,d,f,g,i,j,k,l,m,n,o,p]) S =
  (zU (wu zi BinOp.rem 75 (dem b) (Value.int IntKind.u64 128) S) (fun B t=>zU (wP zi false false 75 5 B t) (fun A C=>some ([b,s,z,r,A,u,dem b,B,dem A,y,c,d,f,g,i,j,k,l,m,n,o,p],C)) ()) ()):=by
 kernel_rfl
theorem zV.r3 :jF zi ⟨false,false,false⟩ (jm zi O) (reg Try.f46 3) (reg Try.f46 3).toList ([b,s,z,r,q,u,v,w,x,y,c,d,f,g,i,j,k,l,m,n,o,p]) S =
  (zU (wu zi BinOp.quo 75 (dem b) (Value.int IntKind.u64 128) S) (fun B t=>some ([B,s,z,r,q,u,v,w,x,dem b,dem B,d,f,g,i,j,k,l,m,n,o,p],t)) ()):=by
 kernel_rfl
theorem zV.r4 :jF zi ⟨false,false,false⟩ (jm zi O) (reg Try.f46 4) (reg Try.f46 4).toList ([b,s,z,r,q,u,v,w,x,y,c,d,f,g,i,j,k,l,m,n,o,p]) S =
  (zU (wu zi BinOp.eql 75 (dem b) (Value.int IntKind.u64 0) S) (fun B t=>some ([b,s,z,r,q,u,v,w,x,y,c,dem b,B,g,i,j,k,l,m,n,o,p],t)) ()):=by
 kernel_rfl
theorem zV.r5 :jF zi ⟨false,false,false⟩ (jm zi O) (reg Try.f46 5) (reg Try.f46 5).toList ([b,s,z,r,q,u,v,w,x,y,c,d,f,g,i,j,k,l,m,n,o,p]) S =
  (zU (jH zi 26 1 [(0,(dem q))] S) (fun A t=>zU (jV zi 26 26 r A t) (fun D C=>some ([b,s,D,dem r,q,u,v,w,x,y,c,d,f,dem r,dem q,A,dem D,l,m,n,o,p],C)) ()) ()):=by
 kernel_rfl
theorem zV.r6 :jF zi ⟨false,false,false⟩ (jm zi O) (reg Try.f46 6) (reg Try.f46 6).toList ([b,s,z,r,q,u,v,w,x,y,c,d,f,g,i,j,k,l,m,n,o,p]) S =
  (zU (wu zi BinOp.add 5 (dem q) (Value.int IntKind.u8 128) S) (fun A t=>zU (jH zi 26 1 [(0,A)] t) (fun D C=>zU (jV zi 26 26 r D C) (fun F G=>some ([b,s,z,F,q,u,v,w,x,y,c,d,f,g,i,j,k,dem r,dem q,A,D,dem F],G)) ()) ()) ()):=by
 kernel_rfl
theorem zV.runs {b:Value} {S t:zx} {e:AEx} {T:List Value} (h:zI zi O false zV.code ([b,zh,zh,zh,zh,zh,zh,zh,zh,zh,zh,zh,zh,zh,zh,zh,zh,zh,zh,zh,zh,zh]) S=some (e,T,t)) (he:e=.normal∨e=.ret):jm zi O 46 [b] S=some (T.getD 2 zh,t) :=
 wo rfl rfl Try.func46 (by decide) zV.body (by exact h) he (yD (a:=T.getD 2 zh) ((show zX zi T t Try.f46.results.toList=zX zi T t [(ResultVar.tmp 2)] from by kernel_rfl).trans (by simp only [zX])) (by kernel_rfl))
end Go.Proofs.Ytblpnklfimkfoaa
namespace Go.Proofs.Ytblpnklfimkfoaa
open Go.Abs
def enc (n:Nat):List UInt8:=if n < 128 then [UInt8.ofNat n] else UInt8.ofNat (n % 128+128)::enc (n / 128)
termination_by n
decreasing_by omega
theorem kF {n:Nat} (h:n < 128):enc n=[UInt8.ofNat n]:=by rw [enc,if_pos h]
theorem Jo {n:Nat} (h:¬ n < 128):enc n=UInt8.ofNat (n % 128+128)::enc (n / 128):=by rw [enc,if_neg h]
theorem wrap_u8 (n:Nat):IntKind.u8.wrap (n:Int)=((n % 256:Nat):Int):=by
 simp [IntKind.wrap,IntKind.bits,IntKind.signed]
theorem wrap_u64 (n:Nat):IntKind.u64.wrap (n:Int)=((n % 2 ^ 64:Nat):Int):=by
 simp [IntKind.wrap,IntKind.bits,IntKind.signed]
theorem ahL:∀ m:Fin 256,orI .u8 (m.val:Int) 128=((m.val % 128+128:Nat):Int):=by decide +kernel
theorem af2 (n:Nat):orI .u8 (IntKind.u8.wrap (n:Int)) 128=((UInt8.ofNat (n % 128+128)).toNat:Int):=by
 rw [wrap_u8,ahL ⟨n % 256,by omega⟩]
 simp only [UInt8.toNat_ofNat']
 omega
theorem VA {n:Nat}:IntKind.u8.wrap (n:Int)=((UInt8.ofNat n).toNat:Int):=by
 rw [wrap_u8]
 simp
theorem aia (n:Nat):(n:Int).fdiv (2 ^ min (Int.toNat 7) (IntKind.bits .u64))=((n / 128:Nat):Int):=by
 have:(2:Int) ^ min (Int.toNat 7) (IntKind.bits .u64)=128:=by decide
 rw [this,Int.fdiv_eq_ediv_of_nonneg _ (by omega)]
 omega
theorem adK (k:Nat):∀ n,n < 128 ^ (k+1)→(enc n).length≤k+1:=by
 induction k with
 | zero=>intro n h;rw [kF (by omega)];simp
 | succ k ih =>
  intro n h
  by_cases hn:n < 128
  ·
   rw [kF hn];simp
  ·
   rw [Jo hn]
   have:=ih (n / 128) (by rw [Nat.div_lt_iff_lt_mul (by omega)];exact h)
   simp only [List.length_cons];omega
theorem vw {n:Nat} (h:n < 2 ^ 64):(enc n).length≤10:=adK 9 n (Nat.lt_of_lt_of_le h (by decide))
theorem abT (n:Nat):(n:Int).tmod 128=((n % 128:Nat):Int):=by
 rw [Int.tmod_eq_emod_of_nonneg (by omega)];omega
theorem agx (n:Nat) (h:n < 2 ^ 64):IntKind.u64.wrap ((n:Int).tdiv 128)=((n / 128:Nat):Int):=by
 rw [Int.tdiv_eq_ediv_of_nonneg (by omega),show (n:Int) / 128=((n / 128:Nat):Int) by omega,wrap_u64]
 omega
theorem ahN (n:Nat):IntKind.u8.wrap ((n % 128:Nat):Int)=((UInt8.ofNat (n % 128)).toNat:Int):=VA
theorem af8 (n:Nat):IntKind.u8.wrap (((UInt8.ofNat (n % 128)).toNat:Int)+128)=((UInt8.ofNat (n % 128+128)).toNat:Int):=by
 have:((UInt8.ofNat (n % 128)).toNat:Int)+128=((n % 128+128:Nat):Int):=by simp only [UInt8.toNat_ofNat'];omega
 rw [this];exact VA
theorem adW:sv 2 1 0 []=by_ 2 []:=rfl
theorem aeA (x:UInt8):sv 2 1 1 [.int .u8 x.toNat]=by_ 2 [x]:=rfl
theorem Vs {k:Nat} {l:List UInt8} {x:UInt8} {S:zx} (h:Okl k l) (hk:k≠1) (hl:l.length≤140737488355000):jV zi 26 26 (by_ k l) (by_ 2 [x]) S=some (by_ 2 (l++[x]),S):=by
 rw [y9 h hk Okl.own (by simp;omega),if_neg (fun h=>by have:=h.2;simp at this)]
theorem jT.round:∀ (n:Nat) (l:List UInt8) (k:Nat) {T:List Value} {S:zx} {r:St},yQ (zI zi O false jT.jG) T S=r→T.length=19→T.getD 0 zh=.int .u64 n→T.getD 3 zh=by_ k l →
  Okl k l→k≠1→n * 2 ^ l.length < 2 ^ 64→∃ T' l' k' n',r=some (.exit 0,T',S)∧T'.length=19∧T'.getD 0 zh=.int .u64 (n':Nat)∧T'.getD 3 zh=by_ k' l' ∧
   Okl k' l'∧k'≠1∧n' < 128∧l'++[UInt8.ofNat n']=l++enc n:=by
 intro n
 induction n using Nat.strongRecOn with
 | _ n ih =>
  intro l k T S r hL hT h0 h3 hs hk hl
  obtain ⟨x0,x1,x2,x3,x4,x5,x6,x7,x8,x9,x10,x11,x12,x13,x14,x15,x16,x17,x18,hTe⟩:=jT.list hT
  rw [hTe] at h0 h3
  simp only [List.getD_cons_succ,List.getD_cons_zero] at h0 h3
  subst h0 h3
  have hr:zI zi O false jT.jG T S=zI zi O false jT.jG T S:=rfl
  by_cases hlt:n < 128
  ·
   have hd:decide ((128:Int)≤(n:Int))=false:=by simp;omega
   conv at hr =>
    rhs
    rw [hTe]
    simp only [jT.jG,zSs,reduceIte,zk,zn,zo,zq,jT.r2,hd]
   exact ⟨_,l,k,n,hL.symm.trans (jM hr (by simp)),rfl,rfl,rfl,hs,hk,hlt,by rw [kF hlt]⟩
  ·
   have hd:decide ((128:Int)≤(n:Int))=true:=by simp;omega
   have hll:l.length < 64:=by
    have:2 ^ l.length < 2 ^ 64:=Nat.lt_of_le_of_lt (Nat.le_mul_of_pos_left _ (by omega)) hl
    exact (Nat.pow_lt_pow_iff_right (by omega)).1 this
   have e1:∀ x S,jV zi 26 26 (by_ k l) (by_ 2 [x]) S=some (by_ 2 (l++[x]),S):=fun x S=>Vs hs hk (by omega)
   conv at hr =>
    rhs
    rw [hTe]
    simp only [jT.jG,zSs,reduceIte,zk,zn,zo,zq,jT.r2,hd,jT.r3,xZ,acD,af2,xE,aeA,e1,jT.r4,aec _ _ _ _ (show (0:Int)≤7 by omega),aia]
   have hmul:n / 128 * 2 ^ (l.length+1) < 2 ^ 64:=by
    refine Nat.lt_of_le_of_lt ?_ hl
    rw [Nat.pow_succ,Nat.mul_comm (2 ^ l.length) 2,← Nat.mul_assoc]
    exact Nat.mul_le_mul_right _ (by omega)
   obtain ⟨T',l',k',n',g1,g2,g3,g4,g5,g6,g7,g8⟩:=ih (n / 128) (by omega) _ 2 ((wL hr).symm.trans hL) rfl rfl rfl Okl.own (by decide) (by simpa using hmul)
   refine ⟨T',l',k',n',g1,g2,g3,g4,g5,g6,g7,?_⟩
   rw [g8,Jo hlt,List.append_assoc];rfl
theorem jT.v (n:Nat) (hn:n < 2 ^ 64) (S:zx):jm zi O jT.id [.int .u64 n] S=some (by_ 2 (enc n),S):=by
 obtain ⟨T,hTe⟩:∃ T,T=(.int .u64 n::zh::zh::zh::zh::zh::zh::zh::zh::zh::zh::zh::zh::zh::zh::zh::zh::zh::zh::[]):=⟨_,rfl⟩
 have hr:zI zi O false jT.code T S=zI zi O false jT.code T S:=rfl
 conv at hr =>
  rhs
  rw [hTe]
  simp only [jT.code,zSs,reduceIte,zk,zn,zo,zq,jT.r0,jT.r1]
 generalize hL:yQ (zI zi O false jT.jG) _ _=r at hr
 obtain ⟨T',l',k',n',rfl,g2,g3,g4,g5,g6,g7,g8⟩:=jT.round n [] 0 hL rfl rfl rfl Okl.none (by decide) (by simpa using hn)
 obtain ⟨x0,x1,x2,x3,x4,x5,x6,x7,x8,x9,x10,x11,x12,x13,x14,x15,x16,x17,x18,hT'⟩:=jT.list g2
 rw [hT'] at g3 g4
 simp only [List.getD_cons_succ,List.getD_cons_zero] at g3 g4
 subst g3 g4
 have hlen:l'.length+1=(enc n).length:=by simpa using congrArg List.length g8
 have h10:=vw hn
 have e1:∀ x S,jV zi 26 26 (by_ k' l') (by_ 2 [x]) S=some (by_ 2 (l'++[x]),S):=fun x S=>Vs g5 g6 (by omega)
 conv at hr =>
  rhs
  rw [hT']
  simp only [zSs,reduceIte,zk,zn,zo,zq,jT.r5,xZ,VA,xE,aeA,e1]
 rw [hTe] at hr
 have:=jT.runs hr (.inr rfl)
 rw [List.nil_append] at g8
 rw [← g8]
 exact this
theorem zV.round:∀ (n:Nat) (l:List UInt8) {T:List Value} {S:zx} {r:St},yQ (zI zi O false zV.jG) T S=r→T.length=22→T.getD 0 zh=.int .u64 n→T.getD 3 zh=by_ 2 l →
  n * 2 ^ l.length < 2 ^ 64→l.length < 64→∃ T',r=some (.ret,T',S)∧T'.getD 2 zh=by_ 2 (l++enc n):=by
 intro n
 induction n using Nat.strongRecOn with
 | _ n ih =>
  intro l T S r hL hT h0 h3 hl hll
  obtain ⟨x0,x1,x2,x3,x4,x5,x6,x7,x8,x9,x10,x11,x12,x13,x14,x15,x16,x17,x18,x19,x20,x21,hTe⟩:=zV.list hT
  rw [hTe] at h0 h3
  simp only [List.getD_cons_succ,List.getD_cons_zero] at h0 h3
  subst h0 h3
  have hn:n < 2 ^ 64:=Nat.lt_of_le_of_lt (Nat.le_mul_of_pos_right _ (by exact Nat.two_pow_pos _)) hl
  have e1:∀ x S,jV zi 26 26 (by_ 2 l) (by_ 2 [x]) S=some (by_ 2 (l++[x]),S):=fun x S=>Vs Okl.own (by decide) (by omega)
  have hr:zI zi O false zV.jG T S=zI zi O false zV.jG T S:=rfl
  conv at hr =>
   rhs
   rw [hTe]
   simp only [zV.jG,zSs,reduceIte,zk,zn,zo,zq,zV.r2,zV.r3,zV.r4,aaj _ _ _ (show (128:Int)≠0 by omega),afb _ _ _ (show (128:Int)≠0 by omega),abT,agx n hn,xZ,ahN]
  by_cases hz:n / 128=0
  ·
   have hd:decide (((n / 128:Nat):Int)=0)=true:=by simp;omega
   conv at hr =>
    rhs
    simp only [hd,zSs,reduceIte,zk,zn,zo,zq,zV.r5,xE,aeA,e1]
   refine ⟨_,hL.symm.trans (jM hr (by simp)),?_⟩
   rw [kF (by omega)]
   simp only [List.getD_cons_succ,List.getD_cons_zero]
   rw [show n % 128=n by omega]
  ·
   have hd:decide (((n / 128:Nat):Int)=0)=false:=by simp;omega
   conv at hr =>
    rhs
    simp only [hd,zSs,reduceIte,zk,zn,zo,zq,zV.r6,af8,xE,aeA,e1]
   have hmul:n / 128 * 2 ^ (l.length+1) < 2 ^ 64:=by
    refine Nat.lt_of_le_of_lt ?_ hl
    rw [Nat.pow_succ,Nat.mul_comm (2 ^ l.length) 2,← Nat.mul_assoc]
    exact Nat.mul_le_mul_right _ (by omega)
   have hl2:l.length+1 < 64:=by
    have:2 ^ (l.length+1) < 2 ^ 64:=Nat.lt_of_le_of_lt (Nat.le_mul_of_pos_left _ (by omega)) hmul
    exact (Nat.pow_lt_pow_iff_right (by omega)).1 this
   obtain ⟨T',g1,g2⟩:=ih (n / 128) (by omega) _ ((wL hr).symm.trans hL) rfl rfl rfl (by simpa using hmul) (by simpa using hl2)
   refine ⟨T',g1,?_⟩
   rw [g2,Jo (n:=n) (by omega),List.append_assoc]
   rfl
theorem zV.v (n:Nat) (hn:n < 2 ^ 64) (S:zx):jm zi O zV.id [.int .u64 n] S=some (by_ 2 (enc n),S):=by
 obtain ⟨T,hTe⟩:∃ T,T=(.int .u64 n::zh::zh::zh::zh::zh::zh::zh::zh::zh::zh::zh::zh::zh::zh::zh::zh::zh::zh::zh::zh::zh::[]):=⟨_,rfl⟩
 have hr:zI zi O false zV.code T S=zI zi O false zV.code T S:=rfl
 conv at hr =>
  rhs
  rw [hTe]
  simp only [zV.code,zSs,reduceIte,zk,zn,zo,zq,zV.r0,zV.r1,kC,adW]
 generalize hL:yQ (zI zi O false zV.jG) _ _=r at hr
 obtain ⟨T',rfl,g2⟩:=zV.round n [] hL rfl rfl rfl (by simpa using hn) (by simp)
 conv at hr =>
  rhs
  simp only [zSs,reduceIte,zk,zn,zo,zq]
 rw [hTe] at hr
 have hrun:=zV.runs hr (.inr rfl)
 rw [g2] at hrun
 exact hrun
end Go.Proofs.Ytblpnklfimkfoaa
namespace Go.Proofs.Ytblpnklfimkfoaa
open Go.Abs
theorem slices_Clone.v {k:Nat} {l:List UInt8} (h:Okl k l) (hk:k≠2) (hl:l.length≤140737488355328) (S:zx):jm zi O slices_Clone.id [by_ k l] S=some (by_ (if k=0 then 0 else 2) l,S):=by
 obtain ⟨T,hTe⟩:∃ T,T=(by_ k l::zh::zh::zh::zh::zh::zh::zh::[]):=⟨_,rfl⟩
 have hr:zI zi O false slices_Clone.code T S=zI zi O false slices_Clone.code T S:=rfl
 conv at hr =>
  rhs
  rw [hTe]
  simp only [slices_Clone.code,zSs,reduceIte,zk,zn,zo,zq,slices_Clone.r0,slices_Clone.r1,if_neg hk,aeP h]
 by_cases h0:k=0
 ·
  have hl0:=h.nil h0
  subst h0 hl0
  conv at hr =>
   rhs
   simp only [decide_true,zSs,reduceIte,zk,zn,zo,zq,slices_Clone.r2]
  rw [hTe] at hr
  exact slices_Clone.runs hr (.inr rfl)
 ·
  have e1:∀ S,jV zi 26 26 (by_ 2 []) (by_ k l) S=some (by_ 2 l,S):=fun S=>by
   rw [y9 Okl.own (by decide) h (by simpa using hl)];rfl
  conv at hr =>
   rhs
   simp only [h0,decide_false,zSs,reduceIte,zk,zn,zo,zq,slices_Clone.r3,kC,adW,if_neg hk,e1]
  rw [hTe] at hr
  rw [if_neg h0]
  exact slices_Clone.runs hr (.inr rfl)
def scan:Nat→Nat→List UInt8→Option (Nat×List UInt8)
 | _,_,[]=>none
 | i,acc,x::r=>if (i=9∧1 < x.toNat)∨(0 < i∧x.toNat=0) then none else if x.toNat < 128 then some (acc+x.toNat * 128 ^ i,r) else scan (i+1) (acc+(x.toNat - 128) * 128 ^ i) r
def WJ (l:List UInt8):Value :=
 match scan 0 0 l with
 | none=>.tuple #[.int .u64 0,.slice none 0 0,.int .i64 11]
 | some (m,rest)=>.tuple #[.int .u64 (m:Nat),by_ 2 rest,.int .i64 0]
theorem jc.stop (x0 x1 x2 x3 x4 x5 x6 x7 x8 x9 x10 x11 x12 x13 x14 x15 x16 x17 x18 x19 x20 x21 x22 x23 x24 x25 x26 x27 x28 x29 x30 x31 x32 x33 x34 x35 x36 x37 x38 x39 x40 x41 x42 x43 x44 x45:Value) (i x:Int) (S:zx) (h6:x6=.int .i64 i) (h7:x7=.int .u8 x):∃ y15 y16 y17 y18 y19 y20 y21 y22 y23 y24 y25 y26 y27,jF zi ⟨false,false,false⟩ (jm zi O) (reg Try.f42 5) (reg Try.f42 5).toList (x0::x1::x2::x3::x4::x5::x6::x7::x8::x9::x10::x11::x12::x13::x14::x15::x16::x17::x18::x19::x20::x21::x22::x23::x24::x25::x26::x27::x28::x29::x30::x31::x32::x33::x34::x35::x36::x37::x38::x39::x40::x41::x42::x43::x44::x45::[]) S =
  some ((x0::x1::x2::x3::x4::x5::x6::x7::x8::x9::x10::x11::x12::x13::x14::y15::y16::y17::y18::y19::y20::y21::y22::y23::y24::y25::y26::y27::.bool (decide ((i=9∧1 < x)∨(0 < i∧x=0)))::x29::x30::x31::x32::x33::x34::x35::x36::x37::x38::x39::x40::x41::x42::x43::x44::x45::[]),S):=by
 subst h6 h7
 rw [jc.r5]
 simp only [zSs,reduceIte,zk,zn,zo,zq]
 rcases Bool.eq_false_or_eq_true (decide (i=9)) with d1 | d1 <;> rcases Bool.eq_false_or_eq_true (decide (1 < x)) with d2 | d2 <;> rcases Bool.eq_false_or_eq_true (decide (0 < i)) with d3 | d3 <;> rcases Bool.eq_false_or_eq_true (decide (x=0)) with d4 | d4 <;>
  simp only [d1,d2,d3,d4,zSs,reduceIte,zk,zn,zo,zq] <;> simp only [decide_eq_true_eq,decide_eq_false_iff_not] at d1 d2 d3 d4 <;>
  simp only [d1,d2,d3,d4,true_and,false_and,and_true,and_false,or_true,true_or,or_false,false_or,decide_true,decide_false,not_true,not_false_iff,zo,zn,and_self,or_self] <;> first | exact ⟨_,_,_,_,_,_,_,_,_,_,_,_,_,rfl⟩ | omega
theorem ahq:∀ m:Fin 256,ahI .u8 (m.val:Int) 127=((m.val % 128:Nat):Int):=by decide +kernel
theorem aeH (x:UInt8):ahI .u8 (x.toNat:Int) 127=((x.toNat % 128:Nat):Int):=ahq ⟨x.toNat,x.toNat_lt⟩
theorem qB {n:Nat} (h:n < 2 ^ 64):IntKind.u64.wrap (n:Int)=(n:Int):=by
 rw [wrap_u64,Nat.mod_eq_of_lt h]
theorem afZ {a c i:Nat} (ha:a < 2 ^ i) (h:c * 2 ^ i < 2 ^ 64) (h2:a < 2 ^ 64):orI .u64 (a:Int) ((c * 2 ^ i:Nat):Int)=((a+c * 2 ^ i:Nat):Int):=by
 have hor:a ||| c * 2 ^ i=a+c * 2 ^ i:=by
  have:=Nat.shiftLeft_add_eq_or_of_lt ha c
  rw [Nat.shiftLeft_eq] at this
  rw [Nat.or_comm,← this,Nat.add_comm]
 have hlt:a ||| c * 2 ^ i < 2 ^ 64:=Nat.or_lt_two_pow h2 h
 unfold orI
 rw [BitVec.ofInt_natCast,BitVec.ofInt_natCast,BitVec.toNat_or,BitVec.toNat_ofNat,BitVec.toNat_ofNat]
 rw [show IntKind.bits .u64=64 from rfl,Nat.mod_eq_of_lt h2,Nat.mod_eq_of_lt h,qB hlt,hor]
theorem aii {c i:Nat} (hi:i≤9) (h:c * 128 ^ i < 2 ^ 64):IntKind.u64.wrap ((c:Int) * 2 ^ (min (Int.toNat (7 * (i:Int))) (IntKind.bits .u64)))=((c * 2 ^ (7 * i):Nat):Int):=by
 have e1:min (Int.toNat (7 * (i:Int))) (IntKind.bits .u64)=7 * i:=by
  rw [show IntKind.bits .u64=64 from rfl];omega
 have e2:(128:Nat) ^ i=2 ^ (7 * i):=by rw [Nat.pow_mul]
 rw [e1,show (c:Int) * 2 ^ (7 * i)=((c * 2 ^ (7 * i):Nat):Int) by simp,qB (by rw [← e2];exact h)]
theorem V6 {l pre suf:List UInt8} {x:UInt8} (hl:l=pre++x::suf):(l.drop ((pre.length:Int)+1).toNat).take ((l.length:Int).toNat - ((pre.length:Int)+1).toNat)=suf:=by
 rw [show ((pre.length:Int)+1).toNat=pre.length+1 by omega,show (l.length:Int).toNat=l.length by omega,hl]
 rw [show pre++x::suf=(pre++[x])++suf by simp,show pre.length+1=(pre++[x]).length by simp,List.drop_left]
 rw [List.take_of_length_le];simp;omega
theorem jc.round {k:Nat} {l:List UInt8} (hv:Okl k l) (hk:k≠2) (hlen:l.length≤140737488355328) {S:zx}:∀ (suf pre:List UInt8) (acc:Nat) {T:List Value} {r:St},yQ (zI zi O false jc.jG) T S=r→T.length=46 →
  T.getD 0 zh=by_ k l→T.getD 8 zh=by_ k l→T.getD 9 zh=.int .i64 l.length→T.getD 10 zh=.int .i64 pre.length→T.getD 5 zh=.int .u64 acc→l=pre++suf→acc < 128 ^ pre.length→pre.length≤9 →
  ∃ e T',r=some (e,T',S)∧match scan pre.length acc suf with
   | none=>e=.exit 0∧T'.length=46
   | some (m,rest)=>e=.ret∧m < 2 ^ 64∧T'.getD 2 zh=.int .u64 m∧T'.getD 3 zh=by_ 2 rest∧T'.getD 4 zh=.int .i64 0:=by
 intro suf
 induction suf with
 | nil =>
  intro pre acc T r hL hT h0 h8 h9 h10 h5 hl hacc hpre
  obtain ⟨x0,x1,x2,x3,x4,x5,x6,x7,x8,x9,x10,x11,x12,x13,x14,x15,x16,x17,x18,x19,x20,x21,x22,x23,x24,x25,x26,x27,x28,x29,x30,x31,x32,x33,x34,x35,x36,x37,x38,x39,x40,x41,x42,x43,x44,x45,hTe⟩:=jc.list hT
  rw [hTe] at h0 h8 h9 h10 h5
  simp only [List.getD_cons_succ,List.getD_cons_zero] at h0 h8 h9 h10 h5
  subst h0 h8 h9 h10 h5
  have hr:zI zi O false jc.jG T S=zI zi O false jc.jG T S:=rfl
  have hd:decide ((pre.length:Int) < (l.length:Int))=false:=by rw [hl];simp
  conv at hr =>
   rhs
   rw [hTe]
   simp only [jc.jG,zSs,reduceIte,zk,zn,zo,zq,jc.r3,hd]
  exact ⟨_,_,hL.symm.trans (jM hr (by simp)),rfl,rfl⟩
 | cons x suf ih =>
  intro pre acc T r hL hT h0 h8 h9 h10 h5 hl hacc hpre
  obtain ⟨x0,x1,x2,x3,x4,x5,x6,x7,x8,x9,x10,x11,x12,x13,x14,x15,x16,x17,x18,x19,x20,x21,x22,x23,x24,x25,x26,x27,x28,x29,x30,x31,x32,x33,x34,x35,x36,x37,x38,x39,x40,x41,x42,x43,x44,x45,hTe⟩:=jc.list hT
  rw [hTe] at h0 h8 h9 h10 h5
  simp only [List.getD_cons_succ,List.getD_cons_zero] at h0 h8 h9 h10 h5
  subst h0 h8 h9 h10 h5
  have hr:zI zi O false jc.jG T S=zI zi O false jc.jG T S:=rfl
  have hlt:(pre.length:Int) < (l.length:Int):=by rw [hl];simp;omega
  have hd:decide ((pre.length:Int) < (l.length:Int))=true:=by simpa using hlt
  have k0:k≠0:=fun h=>by have:=hv.nil h;rw [this] at hl;simp at hl
  have e1:∀ S,jI zi 26 (by_ k l) (.int .i64 pre.length) S=some (EP [.int .u8 x.toNat],S):=fun S=>by
   rw [agA hv (by omega) hlt];rw [aam hl]
  obtain ⟨y15,y16,y17,y18,y19,y20,y21,y22,y23,y24,y25,y26,y27,e3⟩:=jc.stop (by_ k l) x1 x2 x3 x4 (.int .u64 acc) (.int .i64 pre.length) (.int .u8 x.toNat) (by_ k l) (.int .i64 l.length) (.int .i64 pre.length) (.bool true) (.int .i64 pre.length) (EP [.int .u8 x.toNat]) (.int .u8 x.toNat) x15 x16 x17 x18 x19 x20 x21 x22 x23 x24 x25 x26 x27 x28 x29 x30 x31 x32 x33 x34 x35 x36 x37 x38 x39 x40 x41 x42 x43 x44 x45 (pre.length:Int) (x.toNat:Int) S rfl rfl
  conv at hr =>
   rhs
   rw [hTe]
   simp only [jc.jG,zSs,reduceIte,zk,zn,zo,zq,jc.r3,hd,jc.r4,e1,KH,if_neg hk,e3]
  have hst:((pre.length:Int)=9∧1 < (x.toNat:Int)∨0 < (pre.length:Int)∧(x.toNat:Int)=0) ↔ ((pre.length=9∧1 < x.toNat)∨(0 < pre.length∧x.toNat=0)):=by omega
  by_cases hs:(pre.length=9∧1 < x.toNat)∨(0 < pre.length∧x.toNat=0)
  ·
   have hs2:=decide_eq_true (hst.2 hs)
   conv at hr =>
    rhs
    simp only [hs2,zSs,reduceIte,zk,zn,zo,zq]
   refine ⟨_,_,hL.symm.trans (jM hr (by simp)),?_⟩
   rw [scan,if_pos hs]
   exact ⟨rfl,rfl⟩
  ·
   have hs2:=decide_eq_false (fun h=>hs (hst.1 h))
   have hx256:=x.toNat_lt
   have hpw:128 ^ pre.length≤128 ^ 9:=Nat.pow_le_pow_right (by omega) hpre
   have hc64:x.toNat % 128 * 128 ^ pre.length < 2 ^ 64:=by
    by_cases h9:pre.length=9
    ·
     rw [h9];have:x.toNat % 128≤1:=by omega
     exact Nat.lt_of_le_of_lt (Nat.mul_le_mul_right _ this) (by decide)
    ·
     have h8:128 ^ pre.length≤128 ^ 8:=Nat.pow_le_pow_right (by omega) (by omega)
     exact Nat.lt_of_le_of_lt (Nat.mul_le_mul (by omega:x.toNat % 128≤127) h8) (by decide)
   have hm:IntKind.i64.wrap (7 * (pre.length:Int))=7 * (pre.length:Int):=wrap_i64 (by omega) (by omega)
   have e128:(128:Nat) ^ pre.length=2 ^ (7 * pre.length):=by rw [Nat.pow_mul]
   have hor:=afZ (a:=acc) (c:=x.toNat % 128) (i:=7 * pre.length) (by rw [← e128];exact hacc) (by rw [← e128];exact hc64) (Nat.lt_of_lt_of_le hacc (Nat.le_trans hpw (by decide)))
   conv at hr =>
    rhs
    simp only [hs2,zSs,reduceIte,zk,zn,zo,zq,jc.r6,aex,aeH,ZA,qB (show x.toNat % 128 < 2 ^ 64 by omega),hm,ae7 _ _ _ _ (show (0:Int)≤7 * (pre.length:Int) by omega),aii hpre hc64,acD,hor,jc.r7]
   rw [← e128] at hr
   have hadd:acc+x.toNat % 128 * 128 ^ pre.length < 128 ^ (pre.length+1):=by
    rw [Nat.pow_succ]
    have:x.toNat % 128 * 128 ^ pre.length≤127 * 128 ^ pre.length:=Nat.mul_le_mul_right _ (by omega)
    omega
   have hi1:IntKind.i64.wrap ((pre.length:Int)+1)=(pre.length:Int)+1:=wrap_i64 (by omega) (by omega)
   by_cases hxs:x.toNat < 128
   ·
    have hd2:decide ((x.toNat:Int) < 128)=true:=by simp;omega
    have e4:∀ S,qY zi 26 (by_ k l) (some (.int .i64 ((pre.length:Int)+1))) none S=some (by_ k suf,S):=fun S=>by
     rw [xO hv (lo:=some (.int .i64 ((pre.length:Int)+1))) (hi:=none) (i:=(pre.length:Int)+1) (j:=l.length) rfl rfl (by omega) (by omega) (by omega),V6 hl,if_neg hk]
    have ok2:Okl k suf:=⟨hv.le,fun h=>absurd h k0⟩
    have e5:∀ S,jm zi O slices_Clone.id [by_ k suf] S=some (by_ 2 suf,S):=fun S=>by
     rw [slices_Clone.v ok2 hk (by have:=congrArg List.length hl;simp at this;omega),if_neg k0]
    conv at hr =>
     rhs
     simp only [hd2,zSs,reduceIte,zk,zn,zo,zq,jc.r8,hi1,if_neg hk,e4,e5]
    refine ⟨_,_,hL.symm.trans (jM hr (by simp)),?_⟩
    rw [scan,if_neg hs,if_pos hxs]
    have hxm:x.toNat % 128=x.toNat:=by omega
    rw [hxm]
    refine ⟨rfl,?_,rfl,rfl,rfl⟩
    rw [hxm] at hadd
    by_cases h9:pre.length=9
    ·
     rw [h9] at hacc ⊢
     have:x.toNat≤1:=by omega
     have h1:x.toNat * 128 ^ 9≤1 * 128 ^ 9:=Nat.mul_le_mul_right _ this
     have h2:(128:Nat) ^ 9+1 * 128 ^ 9=2 ^ 64:=by decide
     omega
    ·
     have h8:128 ^ (pre.length+1)≤128 ^ 9:=Nat.pow_le_pow_right (by omega) (by omega)
     exact Nat.lt_of_lt_of_le hadd (Nat.le_trans h8 (by decide))
   ·
    have hd2:decide ((x.toNat:Int) < 128)=false:=by simp;omega
    conv at hr =>
     rhs
     simp only [hd2,zSs,reduceIte,zk,zn,zo,zq,jc.r9,hi1]
    obtain ⟨e,T',g1,g3⟩:=ih (pre++[x]) (acc+x.toNat % 128 * 128 ^ pre.length) ((wL hr).symm.trans hL) rfl rfl rfl rfl (by simp) rfl (by simp [hl]) (by simpa using hadd) (by simp;omega)
    refine ⟨e,T',g1,?_⟩
    rw [scan,if_neg hs,if_neg hxs]
    have hxm:x.toNat % 128=x.toNat - 128:=by omega
    rw [hxm] at g3
    simpa using g3
theorem jc.v {k:Nat} {l:List UInt8} (hv:Okl k l) (hk:k≠2) (hlen:l.length≤140737488355328) (S:zx):jm zi O jc.id [by_ k l] S=some (WJ l,S):=by
 obtain ⟨T,hTe⟩:∃ T,T=(by_ k l::zh::zh::zh::zh::zh::zh::zh::zh::zh::zh::zh::zh::zh::zh::zh::zh::zh::zh::zh::zh::zh::zh::zh::zh::zh::zh::zh::zh::zh::zh::zh::zh::zh::zh::zh::zh::zh::zh::zh::zh::zh::zh::zh::zh::zh::[]):=⟨_,rfl⟩
 have hr:zI zi O false jc.code T S=zI zi O false jc.code T S:=rfl
 conv at hr =>
  rhs
  rw [hTe]
  simp only [jc.code,zSs,reduceIte,zk,zn,zo,zq,jc.r0,jc.r1,jc.r2,if_neg hk,yX hv]
 generalize hL:yQ (zI zi O false jc.jG) _ _=r at hr
 obtain ⟨e,T',rfl,g3⟩:=jc.round hv hk hlen l [] 0 hL rfl rfl rfl rfl rfl rfl rfl (by simp) (by simp)
 simp only [List.length_nil] at g3
 unfold WJ
 cases hsc:scan 0 0 l with
 | none =>
  rw [hsc] at g3
  obtain ⟨rfl,hT'⟩:=g3
  obtain ⟨x0,x1,x2,x3,x4,x5,x6,x7,x8,x9,x10,x11,x12,x13,x14,x15,x16,x17,x18,x19,x20,x21,x22,x23,x24,x25,x26,x27,x28,x29,x30,x31,x32,x33,x34,x35,x36,x37,x38,x39,x40,x41,x42,x43,x44,x45,hTe'⟩:=jc.list hT'
  conv at hr =>
   rhs
   rw [hTe']
   simp only [zSs,reduceIte,zk,zn,zo,zq,jc.r10]
  rw [hTe] at hr
  exact jc.runs hr (.inr rfl) rfl rfl rfl
 | some mr =>
  obtain ⟨m,rest⟩:=mr
  rw [hsc] at g3
  obtain ⟨rfl,hm,h2,h3,h4⟩:=g3
  conv at hr =>
   rhs
   simp only [zSs,reduceIte,zk,zn,zo,zq]
  rw [hTe] at hr
  have hrun:=jc.runs hr (.inr rfl) (by rw [h2];rfl) (by rw [h3];exact je) (by rw [h4];rfl)
  rw [h2,h3,h4] at hrun
  exact hrun
theorem Yj:∀ (suf:List UInt8) (i acc:Nat),acc < 128 ^ i→i≤9→∀ m rest,scan i acc suf=some (m,rest)→m < 2 ^ 64∧rest.length < suf.length:=by
 intro suf
 induction suf with
 | nil=>intro i acc _ _ m rest h;cases h
 | cons x suf ih =>
  intro i acc hacc hi m rest h
  rw [scan] at h
  have hx256:=x.toNat_lt
  split at h
  ·
   cases h
  ·
   rename_i hs
   split at h
   ·
    rename_i hx
    cases h
    refine ⟨?_,by simp⟩
    by_cases h9:i=9
    ·
     subst h9
     have:x.toNat≤1:=by omega
     have h1:x.toNat * 128 ^ 9≤1 * 128 ^ 9:=Nat.mul_le_mul_right _ this
     have h2:(128:Nat) ^ 9+1 * 128 ^ 9=2 ^ 64:=by decide
     omega
    ·
     have h8:128 ^ (i+1)≤128 ^ 9:=Nat.pow_le_pow_right (by omega) (by omega)
     have h3:acc+x.toNat * 128 ^ i < 128 ^ (i+1):=by
      rw [Nat.pow_succ]
      have:x.toNat * 128 ^ i≤127 * 128 ^ i:=Nat.mul_le_mul_right _ (by omega)
      omega
     exact Nat.lt_of_lt_of_le h3 (Nat.le_trans h8 (by decide))
   ·
    rename_i hx
    have h9:i≠9:=by omega
    have hadd:acc+(x.toNat - 128) * 128 ^ i < 128 ^ (i+1):=by
     rw [Nat.pow_succ]
     have:(x.toNat - 128) * 128 ^ i≤127 * 128 ^ i:=Nat.mul_le_mul_right _ (by omega)
     omega
    obtain ⟨h1,h2⟩:=ih (i+1) _ hadd (by omega) m rest h
    exact ⟨h1,by simp;omega⟩
end Go.Proofs.Ytblpnklfimkfoaa
namespace Go.Proofs.Ytblpnklfimkfoaa
open Go.Abs
theorem zB.goes (x0 x1 x2 x3 x4 x5 x6 x7 x8 x9 x10 x11 x12 x13 x14 x15 x16 x17 x18 x19 x20 x21 x22 x23 x24 x25 x26 x27 x28 x29 x30 x31 x32 x33 x34 x35 x36 x37 x38 x39 x40 x41 x42 x43 x44 x45 x46 x47 x48 x49 x50 x51 x52 x53 x54 x55 x56 x57:Value) (i:Int) {S:zx} {k:Nat} {l:List UInt8} (hv:Okl k l) (hk:k≠2) (h0:x0=by_ k l) (h7:x7=.int .i64 i):∃ y10 y11 y12 y13 y14 y15 y16,jF zi ⟨false,false,false⟩ (jm zi O) (reg Try.f49 4) (reg Try.f49 4).toList (x0::x1::x2::x3::x4::x5::x6::x7::x8::x9::x10::x11::x12::x13::x14::x15::x16::x17::x18::x19::x20::x21::x22::x23::x24::x25::x26::x27::x28::x29::x30::x31::x32::x33::x34::x35::x36::x37::x38::x39::x40::x41::x42::x43::x44::x45::x46::x47::x48::x49::x50::x51::x52::x53::x54::x55::x56::x57::[]) S =
  some ((x0::x1::x2::x3::x4::x5::x6::x7::x8::x9::y10::y11::y12::y13::y14::y15::y16::.bool (decide (i < l.length∧i < 10))::x18::x19::x20::x21::x22::x23::x24::x25::x26::x27::x28::x29::x30::x31::x32::x33::x34::x35::x36::x37::x38::x39::x40::x41::x42::x43::x44::x45::x46::x47::x48::x49::x50::x51::x52::x53::x54::x55::x56::x57::[]),S):=by
 subst h7 h0
 rw [zB.r4]
 simp only [zSs,reduceIte,zk,zn,zo,zq,if_neg hk,yX hv,goInt]
 rcases Bool.eq_false_or_eq_true (decide (i < (l.length:Int))) with d1 | d1 <;> rcases Bool.eq_false_or_eq_true (decide (i < 10)) with d2 | d2 <;>
  simp only [d1,d2,zSs,reduceIte,zk,zn,zo,zq] <;> simp only [decide_eq_true_eq,decide_eq_false_iff_not] at d1 d2 <;>
  simp only [d1,d2,and_true,and_false,true_and,false_and,decide_true,decide_false] <;> exact ⟨_,_,_,_,_,_,_,rfl⟩
theorem zB.nine {T:List Value} {S:zx} {i c:Int} (hT:T.length=58) (h7:T.getD 7 zh=.int .i64 i) (h8:T.getD 8 zh=.int .u64 c):∃ T',jF zi ⟨false,false,false⟩ (jm zi O) (reg Try.f49 7) (reg Try.f49 7).toList T S=some (T',S) ∧
  T'.length=58∧T'.getD 31 zh=.bool (decide (i=9∧1 < c))∧∀ j,j < 10→T'.getD j zh=T.getD j zh:=by
 obtain ⟨x0,x1,x2,x3,x4,x5,x6,x7,x8,x9,x10,x11,x12,x13,x14,x15,x16,x17,x18,x19,x20,x21,x22,x23,x24,x25,x26,x27,x28,x29,x30,x31,x32,x33,x34,x35,x36,x37,x38,x39,x40,x41,x42,x43,x44,x45,x46,x47,x48,x49,x50,x51,x52,x53,x54,x55,x56,x57,rfl⟩:=zB.list hT
 simp only [List.getD_cons_succ,List.getD_cons_zero] at h7 h8
 subst h7 h8
 rw [zB.r7]
 simp only [zSs,reduceIte,zk,zn,zo,zq]
 rcases Bool.eq_false_or_eq_true (decide (i=9)) with d1 | d1 <;> rcases Bool.eq_false_or_eq_true (decide (1 < c)) with d2 | d2 <;>
  simp only [d1,d2,zSs,reduceIte,zk,zn,zo,zq] <;> simp only [decide_eq_true_eq,decide_eq_false_iff_not] at d1 d2 <;>
  simp only [d1,d2,and_true,and_false,true_and,false_and,decide_true,decide_false] <;> exact ⟨_,rfl,rfl,rfl,fun j hj=>by (match j,hj with | 0,_=>rfl | 1,_=>rfl | 2,_=>rfl | 3,_=>rfl | 4,_=>rfl | 5,_=>rfl | 6,_=>rfl | 7,_=>rfl | 8,_=>rfl | 9,_=>rfl)⟩
theorem aa3 (k:Nat):∀ n,128 ^ k≤n→n < 128 ^ (k+1)→(enc n).length=k+1:=by
 induction k with
 | zero=>intro n _ h;rw [kF (by omega)];rfl
 | succ k ih =>
  intro n h1 h2
  have hn:¬ n < 128:=by
   have:128 ^ 1≤128 ^ (k+1):=Nat.pow_le_pow_right (by omega) (by omega)
   omega
  rw [Jo hn,List.length_cons,ih (n / 128) (by rw [Nat.le_div_iff_mul_le (by omega)];exact h1) (by rw [Nat.div_lt_iff_lt_mul (by omega)];exact h2)]
theorem QX (n:Nat):0 < (enc n).length:=by
 by_cases h:n < 128
 ·
  rw [kF h];simp
 ·
  rw [Jo h];simp
section
variable {k:Nat} {l:List UInt8} {S:zx}
theorem zB.out (hv:Okl k l) (hk:k≠2) {i:Nat} {T:List Value} {r:St} (hL:yQ (zI zi O false zB.jG) T S=r) (hT:T.length=58)
  (h0:T.getD 0 zh=by_ k l) (h7:T.getD 7 zh=.int .i64 i) (hi:l.length≤i∨10≤i):∃ T',r=some (.exit 0,T',S)∧T'.length=58:=by
 obtain ⟨x0,x1,x2,x3,x4,x5,x6,x7,x8,x9,x10,x11,x12,x13,x14,x15,x16,x17,x18,x19,x20,x21,x22,x23,x24,x25,x26,x27,x28,x29,x30,x31,x32,x33,x34,x35,x36,x37,x38,x39,x40,x41,x42,x43,x44,x45,x46,x47,x48,x49,x50,x51,x52,x53,x54,x55,x56,x57,hTe⟩:=zB.list hT
 rw [hTe] at h0 h7
 simp only [List.getD_cons_succ,List.getD_cons_zero] at h0 h7
 have hr:zI zi O false zB.jG T S=zI zi O false zB.jG T S:=rfl
 obtain ⟨y10,y11,y12,y13,y14,y15,y16,e1⟩:=zB.goes x0 x1 x2 x3 x4 x5 x6 x7 x8 x9 x10 x11 x12 x13 x14 x15 x16 x17 x18 x19 x20 x21 x22 x23 x24 x25 x26 x27 x28 x29 x30 x31 x32 x33 x34 x35 x36 x37 x38 x39 x40 x41 x42 x43 x44 x45 x46 x47 x48 x49 x50 x51 x52 x53 x54 x55 x56 x57 (i:Int) (S:=S) hv hk h0 h7
 have hd:decide ((i:Int) < (l.length:Int)∧(i:Int) < 10)=false:=by simp;omega
 rw [hd] at e1
 conv at hr =>
  rhs
  rw [hTe]
  simp only [zB.jG,zSs,reduceIte,zk,zn,zo,zq,e1]
 exact ⟨_,hL.symm.trans (jM hr (by simp)),rfl⟩
theorem zB.round (hv:Okl k l) (hk:k≠2) (hlen:l.length≤140737488355328):∀ (suf pre:List UInt8) (acc:Nat) {T:List Value} {r:St},yQ (zI zi O false zB.jG) T S=r→T.length=58 →
  T.getD 0 zh=by_ k l→T.getD 7 zh=.int .i64 pre.length→T.getD 5 zh=.int .u64 acc→T.getD 6 zh=.int .u64 (128 ^ pre.length:Nat)→l=pre++suf→acc < 128 ^ pre.length→pre.length≤9 →
  ∃ e T',r=some (e,T',S)∧match scan pre.length acc suf with
   | none=>(e=.exit 0∧T'.length=58)∨(e=.ret∧T'.getD 2 zh=.int .u64 0∧T'.getD 3 zh=.slice none 0 0∧T'.getD 4 zh=.int .i64 11)
   | some (m,rest)=>e=.ret∧T'.getD 2 zh=.int .u64 m∧T'.getD 3 zh=by_ 2 rest∧T'.getD 4 zh=.int .i64 0:=by
 intro suf
 induction suf with
 | nil =>
  intro pre acc T r hL hT h0 h7 h5 h6 hl hacc hpre
  obtain ⟨T',h1,h2⟩:=zB.out hv hk hL hT h0 h7 (by rw [hl];simp)
  exact ⟨_,T',h1,.inl ⟨rfl,h2⟩⟩
 | cons x suf ih =>
  intro pre acc T r hL hT h0 h7 h5 h6 hl hacc hpre
  obtain ⟨x0,x1,x2,x3,x4,x5,x6,x7,x8,x9,x10,x11,x12,x13,x14,x15,x16,x17,x18,x19,x20,x21,x22,x23,x24,x25,x26,x27,x28,x29,x30,x31,x32,x33,x34,x35,x36,x37,x38,x39,x40,x41,x42,x43,x44,x45,x46,x47,x48,x49,x50,x51,x52,x53,x54,x55,x56,x57,hTe⟩:=zB.list hT
  rw [hTe] at h0 h7 h5 h6
  simp only [List.getD_cons_succ,List.getD_cons_zero] at h0 h7 h5 h6
  have hr:zI zi O false zB.jG T S=zI zi O false zB.jG T S:=rfl
  have hlt:(pre.length:Int) < (l.length:Int):=by rw [hl];simp;omega
  have k0:k≠0:=fun h=>by have:=hv.nil h;rw [this] at hl;simp at hl
  have e1:∀ S,jI zi 26 (by_ k l) (.int .i64 pre.length) S=some (EP [.int .u8 x.toNat],S):=fun S=>by
   rw [agA hv (by omega) hlt];rw [aam hl]
  have hx256:=x.toNat_lt
  obtain ⟨y10,y11,y12,y13,y14,y15,y16,e3⟩:=zB.goes x0 x1 x2 x3 x4 x5 x6 x7 x8 x9 x10 x11 x12 x13 x14 x15 x16 x17 x18 x19 x20 x21 x22 x23 x24 x25 x26 x27 x28 x29 x30 x31 x32 x33 x34 x35 x36 x37 x38 x39 x40 x41 x42 x43 x44 x45 x46 x47 x48 x49 x50 x51 x52 x53 x54 x55 x56 x57 (pre.length:Int) (S:=S) hv hk h0 h7
  have hd:decide ((pre.length:Int) < (l.length:Int)∧(pre.length:Int) < 10)=true:=by rw [decide_eq_true_eq];omega
  rw [hd,h7,h5,h6,h0] at e3
  have hlow:(x.toNat:Int).tmod 128=((x.toNat % 128:Nat):Int):=abT _
  conv at hr =>
   rhs
   rw [hTe]
   simp only [zB.jG,zSs,reduceIte,zk,zn,zo,zq,h7,h5,h6,h0,e3,zB.r6,if_neg hk,e1,KH,aaj _ _ _ (show (128:Int)≠0 by omega),hlow,ZA,qB (show x.toNat % 128 < 2 ^ 64 by omega)]
  generalize hT2:(_::_:List Value)=T2 at hr
  have t0:T2.length=58:=by rw [← hT2];rfl
  have t1:T2.getD 0 zh=by_ k l:=by rw [← hT2];rfl
  have t2:T2.getD 5 zh=.int .u64 acc:=by rw [← hT2];rfl
  have t3:T2.getD 6 zh=.int .u64 (128 ^ pre.length:Nat):=by rw [← hT2];rfl
  have t4:T2.getD 7 zh=.int .i64 pre.length:=by rw [← hT2];rfl
  have t5:T2.getD 8 zh=.int .u64 (x.toNat % 128:Nat):=by rw [← hT2];rfl
  obtain ⟨T3,e4,f0,f1,f2⟩:=zB.nine (S:=S) t0 t4 t5
  rw [← f2 _ (by omega)] at t1 t2 t3 t4 t5
  conv at hr =>
   rhs
   simp only [e4,zSs,reduceIte,zk,zn,zo,zq,f1]
  clear hT2 e4 f1 f2 e3 hTe h7 h5 h6 h0
  obtain ⟨z0,z1,z2,z3,z4,z5,z6,z7,z8,z9,z10,z11,z12,z13,z14,z15,z16,z17,z18,z19,z20,z21,z22,z23,z24,z25,z26,z27,z28,z29,z30,z31,z32,z33,z34,z35,z36,z37,z38,z39,z40,z41,z42,z43,z44,z45,z46,z47,z48,z49,z50,z51,z52,z53,z54,z55,z56,z57,hTe⟩:=zB.list f0
  rw [hTe] at t1 t2 t3 t4 t5
  simp only [List.getD_cons_succ,List.getD_cons_zero] at t1 t2 t3 t4 t5
  subst t1
  by_cases hs1:pre.length=9∧1 < x.toNat % 128
  ·
   have hd1:decide ((pre.length:Int)=9∧1 < ((x.toNat % 128:Nat):Int))=true:=by rw [decide_eq_true_eq];omega
   conv at hr =>
    rhs
    rw [hTe]
    simp only [hd1,zSs,reduceIte,zk,zn,zo,zq,zB.r8]
   refine ⟨_,_,hL.symm.trans (jM hr (by simp)),?_⟩
   rw [scan,if_pos (.inl ⟨hs1.1,by omega⟩)]
   exact .inr ⟨rfl,rfl,rfl,rfl⟩
  ·
   have hd1:decide ((pre.length:Int)=9∧1 < ((x.toNat % 128:Nat):Int))=false:=by rw [decide_eq_false_iff_not];omega
   have hpw:128 ^ pre.length≤128 ^ 9:=Nat.pow_le_pow_right (by omega) hpre
   have hc64:x.toNat % 128 * 128 ^ pre.length < 2 ^ 64:=by
    by_cases h9:pre.length=9
    ·
     rw [h9];have:x.toNat % 128≤1:=by omega
     exact Nat.lt_of_le_of_lt (Nat.mul_le_mul_right _ this) (by decide)
    ·
     have h8:128 ^ pre.length≤128 ^ 8:=Nat.pow_le_pow_right (by omega) (by omega)
     exact Nat.lt_of_le_of_lt (Nat.mul_le_mul (by omega:x.toNat % 128≤127) h8) (by decide)
   have ha64:acc+x.toNat % 128 * 128 ^ pre.length < 2 ^ 64:=by
    by_cases h9:pre.length=9
    ·
     rw [h9] at hacc ⊢
     have:x.toNat % 128≤1:=by omega
     have h1:x.toNat % 128 * 128 ^ 9≤1 * 128 ^ 9:=Nat.mul_le_mul_right _ this
     have h2:(128:Nat) ^ 9+1 * 128 ^ 9=2 ^ 64:=by decide
     omega
    ·
     have h8:128 ^ (pre.length+1)≤128 ^ 9:=Nat.pow_le_pow_right (by omega) (by omega)
     have h3:acc+x.toNat % 128 * 128 ^ pre.length < 128 ^ (pre.length+1):=by
      rw [Nat.pow_succ]
      have:x.toNat % 128 * 128 ^ pre.length≤127 * 128 ^ pre.length:=Nat.mul_le_mul_right _ (by omega)
      omega
     exact Nat.lt_of_lt_of_le h3 (Nat.le_trans h8 (by decide))
   have w1:IntKind.u64.wrap (((x.toNat % 128:Nat):Int) * ((128 ^ pre.length:Nat):Int))=((x.toNat % 128 * 128 ^ pre.length:Nat):Int):=by
    rw [← Int.natCast_mul,qB hc64]
   have w2:IntKind.u64.wrap ((acc:Int)+((x.toNat % 128 * 128 ^ pre.length:Nat):Int))=((acc+x.toNat % 128 * 128 ^ pre.length:Nat):Int):=by
    rw [← Int.natCast_add,qB ha64]
   conv at hr =>
    rhs
    rw [hTe]
    simp only [hd1,zSs,reduceIte,zk,zn,zo,zq,zB.r9,zB.r10,zB.r11,t2,t3,t4,t5,w1,w2,if_neg hk,e1,KH]
   have hi1:IntKind.i64.wrap ((pre.length:Int)+1)=(pre.length:Int)+1:=wrap_i64 (by omega) (by omega)
   by_cases hxs:x.toNat < 128
   ·
    have hxm:x.toNat % 128=x.toNat:=by omega
    rw [hxm] at hr ha64
    have hd2:decide ((x.toNat:Int) < 128)=true:=by rw [decide_eq_true_eq];omega
    conv at hr =>
     rhs
     simp only [hd2,zSs,reduceIte,zk,zn,zo,zq,zB.r12,zV.v _ ha64,zB.r13,yX (Okl.read),goInt,hi1]
    by_cases hz:0 < pre.length∧x.toNat=0
    ·
     have hlen2:(enc (acc+x.toNat * 128 ^ pre.length)).length≤pre.length:=by
      obtain ⟨q,hq⟩:∃ q,pre.length=q+1:=⟨pre.length - 1,by omega⟩
      rw [hz.2,Nat.zero_mul,Nat.add_zero,hq]
      exact adK q acc (by rw [← hq];exact hacc)
     have hd3:decide ((((enc (acc+x.toNat * 128 ^ pre.length)).length:Nat):Int)=(pre.length:Int)+1)=false:=by rw [decide_eq_false_iff_not];omega
     conv at hr =>
      rhs
      simp only [hd3,zSs,reduceIte,zk,zn,zo,zq,zB.r14]
     refine ⟨_,_,hL.symm.trans (jM hr (by simp)),?_⟩
     rw [scan,if_pos (.inr hz)]
     exact .inr ⟨rfl,rfl,rfl,rfl⟩
    ·
     have hlen2:(enc (acc+x.toNat * 128 ^ pre.length)).length=pre.length+1:=by
      by_cases hp0:pre.length=0
      ·
       rw [hp0] at hacc ⊢
       rw [kF (by omega)];rfl
      ·
       refine aa3 _ _ ?_ ?_
       ·
        have:1 * 128 ^ pre.length≤x.toNat * 128 ^ pre.length:=Nat.mul_le_mul_right _ (by omega)
        omega
       ·
        rw [Nat.pow_succ]
        have:x.toNat * 128 ^ pre.length≤127 * 128 ^ pre.length:=Nat.mul_le_mul_right _ (by omega)
        omega
     have hd3:decide ((((enc (acc+x.toNat * 128 ^ pre.length)).length:Nat):Int)=(pre.length:Int)+1)=true:=by rw [decide_eq_true_eq];omega
     have e4:∀ S,qY zi 26 (by_ k l) (some (.int .i64 ((pre.length:Int)+1))) none S=some (by_ k suf,S):=fun S=>by
      rw [xO hv (lo:=some (.int .i64 ((pre.length:Int)+1))) (hi:=none) (i:=(pre.length:Int)+1) (j:=l.length) rfl rfl (by omega) (by omega) (by omega),V6 hl,if_neg hk]
     have ok2:Okl k suf:=⟨hv.le,fun h=>absurd h k0⟩
     have e5:∀ S,jV zi 26 26 (by_ 2 []) (by_ k suf) S=some (by_ 2 suf,S):=fun S=>by
      rw [y9 Okl.own (by decide) ok2 (by have:=congrArg List.length hl;simp at this;simp;omega)];rfl
     conv at hr =>
      rhs
      simp only [hd3,zSs,reduceIte,zk,zn,zo,zq,zB.r15,kC,adW,hi1,if_neg hk,e4,e5]
     refine ⟨_,_,hL.symm.trans (jM hr (by simp)),?_⟩
     rw [scan,if_neg (by rintro (h | h);exact absurd ⟨h.1,by omega⟩ hs1;exact hz h),if_pos hxs]
     exact ⟨rfl,rfl,rfl,rfl⟩
   ·
    have hd2:decide ((x.toNat:Int) < 128)=false:=by rw [decide_eq_false_iff_not];omega
    conv at hr =>
     rhs
     simp only [hd2,zSs,reduceIte,zk,zn,zo,zq,zB.r5,hi1]
    obtain ⟨T1,hr,q0,q1,q2,q3,q4⟩:∃ T1,zI zi O false zB.jG T S=some (.normal,T1,S)∧T1.length=58∧T1.getD 0 zh=by_ k l∧T1.getD 7 zh=.int .i64 ((pre.length:Int)+1) ∧
     T1.getD 5 zh=.int .u64 ((acc+x.toNat % 128 * 128 ^ pre.length:Nat):Int)∧T1.getD 6 zh=.int .u64 (IntKind.u64.wrap (((128 ^ pre.length:Nat):Int) * 128)):=⟨_,hr,rfl,rfl,rfl,rfl,rfl⟩
    by_cases hp9:pre.length=9
    ·
     obtain ⟨T',h1,h2⟩:=zB.out hv hk ((wL hr).symm.trans hL) q0 q1 (i:=pre.length+1) q2 (.inr (by omega))
     refine ⟨_,T',h1,?_⟩
     rw [scan,if_pos (.inl ⟨hp9,by omega⟩)]
     exact .inl ⟨rfl,h2⟩
    ·
     have hpl:IntKind.u64.wrap (((128 ^ pre.length:Nat):Int) * 128)=((128 ^ (pre.length+1):Nat):Int):=by
      have h8:128 ^ (pre.length+1)≤128 ^ 9:=Nat.pow_le_pow_right (by omega) (by omega)
      rw [show ((128 ^ pre.length:Nat):Int) * 128=((128 ^ (pre.length+1):Nat):Int) by rw [Nat.pow_succ,Int.natCast_mul];rfl]
      exact qB (Nat.lt_of_le_of_lt h8 (by decide))
     rw [hpl] at q4
     have hadd:acc+x.toNat % 128 * 128 ^ pre.length < 128 ^ (pre.length+1):=by
      rw [Nat.pow_succ]
      have:x.toNat % 128 * 128 ^ pre.length≤127 * 128 ^ pre.length:=Nat.mul_le_mul_right _ (by omega)
      omega
     have hpl2:(pre++[x]).length=pre.length+1:=by simp
     obtain ⟨e,T',g1,g3⟩:=ih (pre++[x]) (acc+x.toNat % 128 * 128 ^ pre.length) ((wL hr).symm.trans hL) q0 q1 (by rw [hpl2];exact q2) q3 (by rw [hpl2];exact q4) (by simp [hl]) (by rw [hpl2];exact hadd) (by rw [hpl2];omega)
     refine ⟨e,T',g1,?_⟩
     rw [scan,if_neg (by omega),if_neg hxs]
     have hxm:x.toNat % 128=x.toNat - 128:=by omega
     rw [hxm,hpl2] at g3
     exact g3
theorem zB.v (hv:Okl k l) (hk:k≠2) (hlen:l.length≤140737488355328) (S:zx):jm zi O zB.id [by_ k l] S=some (WJ l,S):=by
 obtain ⟨T,hTe⟩:∃ T,T=(by_ k l::zh::zh::zh::zh::zh::zh::zh::zh::zh::zh::zh::zh::zh::zh::zh::zh::zh::zh::zh::zh::zh::zh::zh::zh::zh::zh::zh::zh::zh::zh::zh::zh::zh::zh::zh::zh::zh::zh::zh::zh::zh::zh::zh::zh::zh::zh::zh::zh::zh::zh::zh::zh::zh::zh::zh::zh::zh::[]):=⟨_,rfl⟩
 have hr:zI zi O false zB.code T S=zI zi O false zB.code T S:=rfl
 conv at hr =>
  rhs
  rw [hTe]
  simp only [zB.code,zSs,reduceIte,zk,zn,zo,zq,zB.r0,zB.r1,zB.r2,zB.r3]
 generalize hL:yQ (zI zi O false zB.jG) _ _=r at hr
 obtain ⟨e,T',rfl,g3⟩:=zB.round hv hk hlen l [] 0 hL rfl rfl rfl rfl rfl rfl (by simp) (by simp)
 simp only [List.length_nil] at g3
 unfold WJ
 cases hsc:scan 0 0 l with
 | none =>
  rw [hsc] at g3
  rcases g3 with ⟨rfl,hT'⟩ | ⟨rfl,h2,h3,h4⟩
  ·
   obtain ⟨x0,x1,x2,x3,x4,x5,x6,x7,x8,x9,x10,x11,x12,x13,x14,x15,x16,x17,x18,x19,x20,x21,x22,x23,x24,x25,x26,x27,x28,x29,x30,x31,x32,x33,x34,x35,x36,x37,x38,x39,x40,x41,x42,x43,x44,x45,x46,x47,x48,x49,x50,x51,x52,x53,x54,x55,x56,x57,hTe'⟩:=zB.list hT'
   conv at hr =>
    rhs
    rw [hTe']
    simp only [zSs,reduceIte,zk,zn,zo,zq,zB.r16]
   rw [hTe] at hr
   exact zB.runs hr (.inr rfl) rfl rfl rfl
  ·
   conv at hr =>
    rhs
    simp only [zSs,reduceIte,zk,zn,zo,zq]
   rw [hTe] at hr
   have hrun:=zB.runs hr (.inr rfl) (by rw [h2];rfl) (by rw [h3];rfl) (by rw [h4];rfl)
   rw [h2,h3,h4] at hrun
   exact hrun
 | some mr =>
  obtain ⟨m,rest⟩:=mr
  rw [hsc] at g3
  obtain ⟨rfl,h2,h3,h4⟩:=g3
  conv at hr =>
   rhs
   simp only [zSs,reduceIte,zk,zn,zo,zq]
  rw [hTe] at hr
  have hrun:=zB.runs hr (.inr rfl) (by rw [h2];rfl) (by rw [h3];exact je) (by rw [h4];rfl)
  rw [h2,h3,h4] at hrun
  exact hrun
end
end Go.Proofs.Ytblpnklfimkfoaa
namespace Go.Proofs.Ytblpnklfimkfoaa
open Go.Abs
def YI (l:List UInt8):List UInt8:=enc l.length++l
def Xz (l:List UInt8):Value:=if 4096 < l.length then .tuple #[.slice none 0 0,.int .i64 11] else .tuple #[by_ 2 (YI l),.int .i64 0]
def vP (l:List UInt8):Option (List UInt8×List UInt8) :=
 match scan 0 0 l with
 | some (m,rest)=>if m≤4096∧m≤rest.length then some (rest.take m,rest.drop m) else none
 | none=>none
def Wv (k:Nat) (l:List UInt8):Value :=
 match vP l with
 | some (a,b)=>.tuple #[by_ k a,by_ k b,.int .i64 0]
 | none=>.tuple #[.slice none 0 0,.slice none 0 0,.int .i64 11]
section
variable {k:Nat} {l:List UInt8}
theorem wE.v (hv:Okl k l) (hk:k≠2) (S:zx):jm zi O wE.id [by_ k l] S=some (Xz l,S):=by
 obtain ⟨T,hTe⟩:∃ T,T=(by_ k l::zh::zh::zh::zh::zh::zh::zh::zh::zh::zh::zh::zh::[]):=⟨_,rfl⟩
 have hr:zI zi O false wE.code T S=zI zi O false wE.code T S:=rfl
 conv at hr =>
  rhs
  rw [hTe]
  simp only [wE.code,zSs,reduceIte,zk,zn,zo,zq,wE.r0,wE.r1,if_neg hk,yX hv,goInt]
 unfold Xz
 by_cases hl:4096 < l.length
 ·
  have hd:decide ((4096:Int) < (l.length:Int))=true:=by rw [decide_eq_true_eq];omega
  conv at hr =>
   rhs
   simp only [hd,zSs,reduceIte,zk,zn,zo,zq,wE.r2]
  rw [hTe] at hr
  rw [if_pos hl]
  exact wE.runs hr (.inr rfl) (by simp only [List.getD_cons_succ,List.getD_cons_zero,je,zZ,zM,zT,zY]) (by simp only [List.getD_cons_succ,List.getD_cons_zero,je,zZ,zM,zT,zY])
 ·
  have hd:decide ((4096:Int) < (l.length:Int))=false:=by rw [decide_eq_false_iff_not];omega
  have h10:=vw (n:=l.length) (by omega)
  have hp:=QX l.length
  have e1:∀ S,jV zi 26 26 (by_ 2 (enc l.length)) (by_ k l) S=some (by_ 2 (YI l),S):=fun S=>by
   rw [y9 Okl.own (by decide) hv (by omega)];rfl
  conv at hr =>
   rhs
   simp only [hd,zSs,reduceIte,zk,zn,zo,zq,wE.r3,if_neg hk,yX hv,goInt,qH,qB (show l.length < 2 ^ 64 by omega),jT.v _ (show l.length < 2 ^ 64 by omega),e1]
  rw [hTe] at hr
  rw [if_neg hl]
  exact wE.runs hr (.inr rfl) (by simp only [List.getD_cons_succ,List.getD_cons_zero,je,zZ,zM,zT,zY]) (by simp only [List.getD_cons_succ,List.getD_cons_zero,je,zZ,zM,zT,zY])
theorem jv.v (hv:Okl k l) (hk:k≠2) (S:zx):jm zi O jv.id [by_ k l] S=some (Xz l,S):=by
 obtain ⟨T,hTe⟩:∃ T,T=(by_ k l::zh::zh::zh::zh::zh::zh::zh::zh::zh::zh::zh::zh::[]):=⟨_,rfl⟩
 have hr:zI zi O false jv.code T S=zI zi O false jv.code T S:=rfl
 conv at hr =>
  rhs
  rw [hTe]
  simp only [jv.code,zSs,reduceIte,zk,zn,zo,zq,jv.r0,jv.r1,if_neg hk,yX hv,goInt]
 unfold Xz
 by_cases hl:4096 < l.length
 ·
  have hd:decide ((4096:Int) < (l.length:Int))=true:=by rw [decide_eq_true_eq];omega
  conv at hr =>
   rhs
   simp only [hd,zSs,reduceIte,zk,zn,zo,zq,jv.r2]
  rw [hTe] at hr
  rw [if_pos hl]
  exact jv.runs hr (.inr rfl) (by simp only [List.getD_cons_succ,List.getD_cons_zero,je,zZ,zM,zT,zY]) (by simp only [List.getD_cons_succ,List.getD_cons_zero,je,zZ,zM,zT,zY])
 ·
  have hd:decide ((4096:Int) < (l.length:Int))=false:=by rw [decide_eq_false_iff_not];omega
  have h10:=vw (n:=l.length) (by omega)
  have e1:∀ S,jV zi 26 26 (by_ 2 (enc l.length)) (by_ k l) S=some (by_ 2 (YI l),S):=fun S=>by
   rw [y9 Okl.own (by decide) hv (by omega)];rfl
  conv at hr =>
   rhs
   simp only [hd,zSs,reduceIte,zk,zn,zo,zq,jv.r3,if_neg hk,yX hv,goInt,qH,qB (show l.length < 2 ^ 64 by omega),zV.v _ (show l.length < 2 ^ 64 by omega),e1]
  rw [hTe] at hr
  rw [if_neg hl]
  exact jv.runs hr (.inr rfl) (by simp only [List.getD_cons_succ,List.getD_cons_zero,je,zZ,zM,zT,zY]) (by simp only [List.getD_cons_succ,List.getD_cons_zero,je,zZ,zM,zT,zY])
theorem jq.v (hv:Okl k l) (hk:k≠2) (hlen:l.length≤140737488355328) (S:zx):jm zi O jq.id [by_ k l] S=some (Wv 2 l,S):=by
 obtain ⟨T,hTe⟩:∃ T,T=(by_ k l::zh::zh::zh::zh::zh::zh::zh::zh::zh::zh::zh::zh::zh::zh::zh::zh::zh::zh::zh::zh::zh::zh::zh::zh::zh::zh::zh::zh::zh::zh::zh::zh::zh::zh::[]):=⟨_,rfl⟩
 have hr:zI zi O false jq.code T S=zI zi O false jq.code T S:=rfl
 have e1:∀ S,jm zi O 42 [by_ k l] S=some (WJ l,S):=jc.v hv hk hlen
 conv at hr =>
  rhs
  rw [hTe]
  simp only [jq.code,zSs,reduceIte,zk,zn,zo,zq,jq.r0,jq.r1,if_neg hk,e1]
 unfold Wv vP
 unfold WJ at hr
 cases hsc:scan 0 0 l with
 | none =>
  rw [hsc] at hr
  have d1:decide ((11:Int)=0)=false:=by decide
  conv at hr =>
   rhs
   simp only [zSs,reduceIte,zk,zn,zo,zq,jq.r2,d1,jq.r3]
  rw [hTe] at hr
  exact jq.runs hr (.inr rfl) (by simp only [List.getD_cons_succ,List.getD_cons_zero,je,zZ,zM,zT,zY]) (by simp only [List.getD_cons_succ,List.getD_cons_zero,je,zZ,zM,zT,zY]) (by simp only [List.getD_cons_succ,List.getD_cons_zero,je,zZ,zM,zT,zY])
 | some mr =>
  obtain ⟨m,rest⟩:=mr
  obtain ⟨hm,hrl⟩:=Yj l 0 0 (by decide) (by omega) m rest hsc
  rw [hsc] at hr
  have d1:decide ((0:Int)=0)=true:=by decide
  dsimp only
  by_cases h1:m≤4096
  ·
   have d2:decide ((4096:Int) < (m:Int))=false:=by rw [decide_eq_false_iff_not];omega
   by_cases h2:m≤rest.length
   ·
    have d3:decide ((rest.length:Int) < (m:Int))=false:=by rw [decide_eq_false_iff_not];omega
    have s1:∀ S,qY zi 26 (by_ 1 rest) none (some (.int .u64 m)) S=some (by_ 1 (rest.take m),S):=fun S=>by
     rw [xO Okl.read (lo:=none) (hi:=some (.int .u64 m)) (i:=0) (j:=m) rfl rfl (by omega) (by omega) (by omega)];simp
    have s2:∀ S,qY zi 26 (by_ 1 rest) (some (.int .u64 m)) none S=some (by_ 1 (rest.drop m),S):=fun S=>by
     rw [xO Okl.read (lo:=some (.int .u64 m)) (hi:=none) (i:=m) (j:=rest.length) rfl rfl (by omega) (by omega) (by omega)]
     simp only [Int.toNat_natCast]
     rw [List.take_of_length_le (by simp)];rfl
    have c1:∀ S,jm zi O 43 [by_ 1 (rest.take m)] S=some (by_ 2 (rest.take m),S):=fun S=>slices_Clone.v Okl.read (by decide) (by simp;omega) S
    have c2:∀ S,jm zi O 43 [by_ 1 (rest.drop m)] S=some (by_ 2 (rest.drop m),S):=fun S=>slices_Clone.v Okl.read (by decide) (by simp;omega) S
    conv at hr =>
     rhs
     simp only [zSs,reduceIte,zk,zn,zo,zq,jq.r2,d1,d2,yX (Okl.read),goInt,qH,qB (show rest.length < 2 ^ 64 by omega),d3,jq.r4,s1,s2,c1,c2]
    rw [hTe] at hr
    rw [if_pos ⟨h1,h2⟩]
    exact jq.runs hr (.inr rfl) (by simp only [List.getD_cons_succ,List.getD_cons_zero,je,zZ,zM,zT,zY]) (by simp only [List.getD_cons_succ,List.getD_cons_zero,je,zZ,zM,zT,zY]) (by simp only [List.getD_cons_succ,List.getD_cons_zero,je,zZ,zM,zT,zY])
   ·
    have d3:decide ((rest.length:Int) < (m:Int))=true:=by rw [decide_eq_true_eq];omega
    conv at hr =>
     rhs
     simp only [zSs,reduceIte,zk,zn,zo,zq,jq.r2,d1,d2,yX (Okl.read),goInt,qH,qB (show rest.length < 2 ^ 64 by omega),d3,jq.r3]
    rw [hTe] at hr
    rw [if_neg (fun h=>h2 h.2)]
    exact jq.runs hr (.inr rfl) (by simp only [List.getD_cons_succ,List.getD_cons_zero,je,zZ,zM,zT,zY]) (by simp only [List.getD_cons_succ,List.getD_cons_zero,je,zZ,zM,zT,zY]) (by simp only [List.getD_cons_succ,List.getD_cons_zero,je,zZ,zM,zT,zY])
  ·
   have d2:decide ((4096:Int) < (m:Int))=true:=by rw [decide_eq_true_eq];omega
   conv at hr =>
    rhs
    simp only [zSs,reduceIte,zk,zn,zo,zq,jq.r2,d1,d2,jq.r3]
   rw [hTe] at hr
   rw [if_neg (fun h=>h1 h.1)]
   exact jq.runs hr (.inr rfl) (by simp only [List.getD_cons_succ,List.getD_cons_zero,je,zZ,zM,zT,zY]) (by simp only [List.getD_cons_succ,List.getD_cons_zero,je,zZ,zM,zT,zY]) (by simp only [List.getD_cons_succ,List.getD_cons_zero,je,zZ,zM,zT,zY])
theorem zJ.v (hv:Okl k l) (hk:k≠2) (hlen:l.length≤140737488355328) (S:zx):jm zi O zJ.id [by_ k l] S=some (Wv 1 l,S):=by
 obtain ⟨T,hTe⟩:∃ T,T=(by_ k l::zh::zh::zh::zh::zh::zh::zh::zh::zh::zh::zh::zh::zh::zh::zh::zh::zh::zh::zh::zh::zh::zh::zh::zh::zh::zh::zh::zh::zh::zh::zh::zh::[]):=⟨_,rfl⟩
 have hr:zI zi O false zJ.code T S=zI zi O false zJ.code T S:=rfl
 have e1:∀ S,jm zi O 49 [by_ k l] S=some (WJ l,S):=zB.v hv hk hlen
 conv at hr =>
  rhs
  rw [hTe]
  simp only [zJ.code,zSs,reduceIte,zk,zn,zo,zq,zJ.r0,zJ.r1,if_neg hk,e1]
 unfold Wv vP
 unfold WJ at hr
 cases hsc:scan 0 0 l with
 | none =>
  rw [hsc] at hr
  have d1:decide ((11:Int)=0)=false:=by decide
  conv at hr =>
   rhs
   simp only [zSs,reduceIte,zk,zn,zo,zq,zJ.r2,d1,zJ.r3]
  rw [hTe] at hr
  exact zJ.runs hr (.inr rfl) (by simp only [List.getD_cons_succ,List.getD_cons_zero,je,zZ,zM,zT,zY]) (by simp only [List.getD_cons_succ,List.getD_cons_zero,je,zZ,zM,zT,zY]) (by simp only [List.getD_cons_succ,List.getD_cons_zero,je,zZ,zM,zT,zY])
 | some mr =>
  obtain ⟨m,rest⟩:=mr
  obtain ⟨hm,hrl⟩:=Yj l 0 0 (by decide) (by omega) m rest hsc
  rw [hsc] at hr
  have d1:decide ((0:Int)=0)=true:=by decide
  dsimp only
  by_cases h1:m≤4096
  ·
   have d2:decide ((4096:Int) < (m:Int))=false:=by rw [decide_eq_false_iff_not];omega
   have hmi:IntKind.i64.wrap (m:Int)=(m:Int):=wrap_i64 (by omega) (by omega)
   by_cases h2:m≤rest.length
   ·
    have d3:decide ((rest.length:Int) < (m:Int))=false:=by rw [decide_eq_false_iff_not];omega
    have s1:∀ S,qY zi 26 (by_ 1 rest) none (some (.int .u64 m)) S=some (by_ 1 (rest.take m),S):=fun S=>by
     rw [xO Okl.read (lo:=none) (hi:=some (.int .u64 m)) (i:=0) (j:=m) rfl rfl (by omega) (by omega) (by omega)];simp
    have s2:∀ S,qY zi 26 (by_ 1 rest) (some (.int .u64 m)) none S=some (by_ 1 (rest.drop m),S):=fun S=>by
     rw [xO Okl.read (lo:=some (.int .u64 m)) (hi:=none) (i:=m) (j:=rest.length) rfl rfl (by omega) (by omega) (by omega)]
     simp only [Int.toNat_natCast]
     rw [List.take_of_length_le (by simp)];rfl
    conv at hr =>
     rhs
     simp only [zSs,reduceIte,zk,zn,zo,zq,zJ.r2,d1,d2,yX (Okl.read),goInt,xJ,hmi,d3,zJ.r4,s1,s2]
    rw [hTe] at hr
    rw [if_pos ⟨h1,h2⟩]
    exact zJ.runs hr (.inr rfl) (by simp only [List.getD_cons_succ,List.getD_cons_zero,je,zZ,zM,zT,zY]) (by simp only [List.getD_cons_succ,List.getD_cons_zero,je,zZ,zM,zT,zY]) (by simp only [List.getD_cons_succ,List.getD_cons_zero,je,zZ,zM,zT,zY])
   ·
    have d3:decide ((rest.length:Int) < (m:Int))=true:=by rw [decide_eq_true_eq];omega
    conv at hr =>
     rhs
     simp only [zSs,reduceIte,zk,zn,zo,zq,zJ.r2,d1,d2,yX (Okl.read),goInt,xJ,hmi,d3,zJ.r3]
    rw [hTe] at hr
    rw [if_neg (fun h=>h2 h.2)]
    exact zJ.runs hr (.inr rfl) (by simp only [List.getD_cons_succ,List.getD_cons_zero,je,zZ,zM,zT,zY]) (by simp only [List.getD_cons_succ,List.getD_cons_zero,je,zZ,zM,zT,zY]) (by simp only [List.getD_cons_succ,List.getD_cons_zero,je,zZ,zM,zT,zY])
  ·
   have d2:decide ((4096:Int) < (m:Int))=true:=by rw [decide_eq_true_eq];omega
   conv at hr =>
    rhs
    simp only [zSs,reduceIte,zk,zn,zo,zq,zJ.r2,d1,d2,zJ.r3]
   rw [hTe] at hr
   rw [if_neg (fun h=>h1 h.1)]
   exact zJ.runs hr (.inr rfl) (by simp only [List.getD_cons_succ,List.getD_cons_zero,je,zZ,zM,zT,zY]) (by simp only [List.getD_cons_succ,List.getD_cons_zero,je,zZ,zM,zT,zY]) (by simp only [List.getD_cons_succ,List.getD_cons_zero,je,zZ,zM,zT,zY])
end
end Go.Proofs.Ytblpnklfimkfoaa
namespace Go.Proofs.Ytblpnklfimkfoaa
open Go.Abs
theorem Yc {n:Nat} (h:n < 256):(UInt8.ofNat n).toNat=n:=by rw [UInt8.toNat_ofNat'];omega
theorem X8:∀ (n i acc:Nat) (r:List UInt8),i≤9→(0 < i→0 < n)→n * 128 ^ i < 2 ^ 64→scan i acc (enc n++r)=some (acc+n * 128 ^ i,r):=by
 intro n
 induction n using Nat.strongRecOn with
 | _ n ih =>
  intro i acc r hi hn hlt
  have h9:i=9→n≤1:=by
   intro h;subst h
   have:(128:Nat) ^ 9=2 ^ 63:=by decide
   omega
  by_cases hs:n < 128
  ·
   rw [kF hs,List.singleton_append,scan,Yc (by omega),if_neg (by rintro (⟨h1,h2⟩ | ⟨h1,h2⟩);exact absurd (h9 h1) (by omega);exact absurd (hn h1) (by omega)),if_pos hs]
  ·
   rw [Jo hs,List.cons_append,scan,Yc (by omega)]
   have hi9:i≠9:=fun h=>by have:=h9 h;omega
   rw [if_neg (by rintro (⟨h1,h2⟩ | ⟨h1,h2⟩);exact hi9 h1;omega),if_neg (by omega)]
   have hmul:n / 128 * 128 ^ (i+1)≤n * 128 ^ i:=by
    rw [Nat.pow_succ,← Nat.mul_assoc,Nat.mul_right_comm]
    exact Nat.mul_le_mul_right _ (by omega)
   rw [ih (n / 128) (by omega) (i+1) _ r (by omega) (fun _=>by omega) (Nat.lt_of_le_of_lt hmul hlt)]
   congr 2
   have:n=n % 128+n / 128 * 128:=by omega
   have e1:(n % 128+128 - 128) * 128 ^ i+n / 128 * 128 ^ (i+1)=n * 128 ^ i:=by
    rw [Nat.pow_succ]
    conv=>rhs;rw [this,Nat.add_mul]
    rw [Nat.add_sub_cancel,Nat.mul_comm (128 ^ i) 128,← Nat.mul_assoc]
   omega
theorem aar {n:Nat} (h:n < 2 ^ 64) (r:List UInt8):scan 0 0 (enc n++r)=some (n,r):=by
 rw [X8 n 0 0 r (by omega) (by omega) (by simpa using h)];simp
theorem X0:∀ (l:List UInt8) (i acc m:Nat) (r:List UInt8),scan i acc l=some (m,r)→∃ n,l=enc n++r∧m=acc+n * 128 ^ i∧(0 < i→0 < n):=by
 intro l
 induction l with
 | nil=>intro i acc m r h;cases h
 | cons x l ih =>
  intro i acc m r h
  rw [scan] at h
  have hx:=x.toNat_lt
  split at h
  ·
   cases h
  ·
   rename_i hs
   split at h
   ·
    rename_i hx2
    cases h
    refine ⟨x.toNat,?_,rfl,fun hi=>by omega⟩
    rw [kF hx2];simp
   ·
    rename_i hx2
    obtain ⟨n,h1,h2,h3⟩:=ih _ _ _ _ h
    refine ⟨x.toNat - 128+n * 128,?_,?_,fun _=>?_⟩
    ·
     have hn:=h3 (by omega)
     rw [Jo (by omega),show (x.toNat - 128+n * 128) / 128=n by omega,show (x.toNat - 128+n * 128) % 128+128=x.toNat by omega,h1]
     simp
    ·
     rw [h2,Nat.pow_succ,Nat.add_mul]
     rw [Nat.mul_comm (128 ^ i) 128,← Nat.mul_assoc];omega
    ·
     have:=h3 (by omega);omega
theorem XK {l r:List UInt8} {m:Nat} (h:scan 0 0 l=some (m,r)):l=enc m++r∧m < 2 ^ 64:=by
 obtain ⟨n,h1,h2,_⟩:=X0 l 0 0 m r h
 have:m=n:=by simpa using h2
 subst this
 exact ⟨h1,(Yj l 0 0 (by decide) (by omega) m r h).1⟩
end Go.Proofs.Ytblpnklfimkfoaa
namespace Go.Proofs.Ytblpnklfimkfoaa
open Go.Abs
theorem qj {l r:List UInt8} (h:l.length≤4096):vP (YI l++r)=some (l,r):=by
 unfold vP YI
 rw [List.append_assoc,aar (by omega)]
 dsimp only
 rw [if_pos ⟨h,by simp⟩]
 simp
theorem ZX {l a b:List UInt8} (h:vP l=some (a,b)):l=YI a++b∧a.length≤4096:=by
 unfold vP at h
 cases hs:scan 0 0 l with
 | none=>rw [hs] at h;cases h
 | some mr =>
  obtain ⟨m,rest⟩:=mr
  rw [hs] at h
  dsimp only at h
  split at h
  ·
   rename_i hc
   cases h
   obtain ⟨h1,h2⟩:=XK hs
   have hl:(rest.take m).length=m:=by simp;omega
   refine ⟨?_,by omega⟩
   unfold YI
   rw [hl,List.append_assoc,List.take_append_drop]
   exact h1
  ·
   cases h
end Go.Proofs.Ytblpnklfimkfoaa
namespace Go.Proofs.Ytblpnklfimkfoaa
open Go.Abs
abbrev zH.id:FuncId:=44
noncomputable def zH.jG:Code:=(.seq (.region 6 (reg Try.f44 6) false) (.seq (.cond (.tmp 22) Code.skip (.exit 0)) (.seq (.block 1 (.seq (.region 7 (reg Try.f44 7) false) (.seq (.seq (.region 8 (reg Try.f44 8) false) (.cond (.tmp 34) (.seq (.region 9 (reg Try.f44 9) false) Code.ret) Code.skip)) (.seq (.region 10 (reg Try.f44 10) false) (.region 11 (reg Try.f44 11) false))))) (.region 12 (reg Try.f44 12) false))))
noncomputable def zH.code:Code:=(.seq (.region 0 (reg Try.f44 0) false) (.seq (.seq (.region 1 (reg Try.f44 1) false) (.cond (.tmp 17) (.seq (.region 2 (reg Try.f44 2) false) Code.ret) Code.skip)) (.seq (.region 3 (reg Try.f44 3) false) (.seq (.region 4 (reg Try.f44 4) false) (.seq (.seq (.region 5 (reg Try.f44 5) false) (.block 0 (.loop zH.jG))) (.seq (.region 13 (reg Try.f44 13) false) Code.ret))))))
theorem zH.body:Try.f44.body=some zH.code:=by kernel_rfl
theorem zH.eta {T:List Value} (h:T.length=45):T=[T.getD 0 zh,T.getD 1 zh,T.getD 2 zh,T.getD 3 zh,T.getD 4 zh,T.getD 5 zh,T.getD 6 zh,T.getD 7 zh,T.getD 8 zh,T.getD 9 zh,T.getD 10 zh,T.getD 11 zh,T.getD 12 zh,T.getD 13 zh,T.getD 14 zh,T.getD 15 zh,T.getD 16 zh,T.getD 17 zh,T.getD 18 zh,T.getD 19 zh,T.getD 20 zh,T.getD 21 zh,T.getD 22 zh,T.getD 23 zh,T.getD 24 zh,T.getD 25 zh,T.getD 26 zh,T.getD 27 zh,T.getD 28 zh,T.getD 29 zh,T.getD 30 zh,T.getD 31 zh,T.getD 32 zh,T.getD 33 zh,T.getD 34 zh,T.getD 35 zh,T.getD 36 zh,T.getD 37 zh,T.getD 38 zh,T.getD 39 zh,T.getD 40 zh,T.getD 41 zh,T.getD 42 zh,T.getD 43 zh,T.getD 44 zh]:=(yJ T 45 h).trans (by kernel_rfl)
variable (P N V W X Y Z Q R U b a f g i k l m n o c d p q r s t u w x y z A B C D E F G H I J K L M:Value) (S:zx)
theorem zH.r0 :jF zi ⟨false,false,false⟩ (jm zi O) (reg Try.f44 0) (reg Try.f44 0).toList ([P,N,V,W,X,Y,Z,Q,R,U,b,a,f,g,i,k,l,m,n,o,c,d,p,q,r,s,t,u,w,x,y,z,A,B,C,D,E,F,G,H,I,J,K,L,M]) S =
  ( some ([P,N,V,W,Value.slice none 0 0,Value.slice none 0 0,.int .i64 0,Q,R,U,b,a,f,g,i,k,l,m,n,o,c,d,p,q,r,s,t,u,w,x,y,z,A,B,C,D,E,F,G,H,I,J,K,L,M],S)):=by
 kernel_rfl
theorem zH.r1 :jF zi ⟨false,false,false⟩ (jm zi O) (reg Try.f44 1) (reg Try.f44 1).toList ([P,N,V,W,X,Y,Z,Q,R,U,b,a,f,g,i,k,l,m,n,o,c,d,p,q,r,s,t,u,w,x,y,z,A,B,C,D,E,F,G,H,I,J,K,L,M]) S =
  (zU (wu zi BinOp.lss 3 (dem N) (.int .i64 0) S) (fun v1 S1=>gdK (dem v1) false (ret N) S1 (fun v3 S2=>gdK (dem v1) false (wu zi BinOp.gtr 3 (dem v3) (.int .i64 64)) S2 (fun v4 S3=>zU (ql (dem v1) (Value.bool true) v4 S3) (fun v5 S4=>some ([P,N,V,W,X,Y,Z,Q,R,U,b,a,dem N,v1,dem v1,dem v3,v4,v5,n,o,c,d,p,q,r,s,t,u,w,x,y,z,A,B,C,D,E,F,G,H,I,J,K,L,M],S4)) ()) ()) ()) ()):=by
 refine sP Try.f44 1 0 (v:=N) ?_
 refine sD Try.f44 1 1 (fun v1 S1=>?_)
 refine sP Try.f44 1 2 (v:=v1) ?_
 refine sG Try.f44 1 3 (j:=2) (fun v3 S2=>?_)
 refine sG Try.f44 1 4 (j:=2) (fun v4 S3=>?_)
 refine sD Try.f44 1 5 (fun v5 S4=>?_)
 kernel_rfl
theorem zH.r2 :jF zi ⟨false,false,false⟩ (jm zi O) (reg Try.f44 2) (reg Try.f44 2).toList ([P,N,V,W,X,Y,Z,Q,R,U,b,a,f,g,i,k,l,m,n,o,c,d,p,q,r,s,t,u,w,x,y,z,A,B,C,D,E,F,G,H,I,J,K,L,M]) S =
  ( some ([P,N,V,W,Value.slice none 0 0,Value.slice none 0 0,.int .i64 11,Q,R,U,b,a,f,g,i,k,l,m,n,o,c,d,p,q,r,s,t,u,w,x,y,z,A,B,C,D,E,F,G,H,I,J,K,L,M],S)):=by
 kernel_rfl
theorem zH.r3 :jF zi ⟨false,false,false⟩ (jm zi O) (reg Try.f44 3) (reg Try.f44 3).toList ([P,N,V,W,X,Y,Z,Q,R,U,b,a,f,g,i,k,l,m,n,o,c,d,p,q,r,s,t,u,w,x,y,z,A,B,C,D,E,F,G,H,I,J,K,L,M]) S =
  (zU ((jm zi O) 43 [(dem (dem P))] S) (fun v1 S1=>some ([P,N,V,W,X,Y,Z,v1,R,U,b,a,f,g,i,k,l,m,dem P,dem v1,c,d,p,q,r,s,t,u,w,x,y,z,A,B,C,D,E,F,G,H,I,J,K,L,M],S1)) ()):=by
 kernel_rfl
theorem zH.r4 :jF zi ⟨false,false,false⟩ (jm zi O) (reg Try.f44 4) (reg Try.f44 4).toList ([P,N,V,W,X,Y,Z,Q,R,U,b,a,f,g,i,k,l,m,n,o,c,d,p,q,r,s,t,u,w,x,y,z,A,B,C,D,E,F,G,H,I,J,K,L,M]) S =
  ( some ([P,N,V,W,X,Y,Z,Q,Value.slice none 0 0,U,b,a,f,g,i,k,l,m,n,o,c,d,p,q,r,s,t,u,w,x,y,z,A,B,C,D,E,F,G,H,I,J,K,L,M],S)):=by
 kernel_rfl
theorem zH.r5 :jF zi ⟨false,false,false⟩ (jm zi O) (reg Try.f44 5) (reg Try.f44 5).toList ([P,N,V,W,X,Y,Z,Q,R,U,b,a,f,g,i,k,l,m,n,o,c,d,p,q,r,s,t,u,w,x,y,z,A,B,C,D,E,F,G,H,I,J,K,L,M]) S =
  ( some ([P,N,V,W,X,Y,Z,Q,R,U,b,a,f,g,i,k,l,m,n,o,dem N,.int .i64 0,p,q,r,s,t,u,w,x,y,z,A,B,C,D,E,F,G,H,I,J,K,L,M],S)):=by
 kernel_rfl
theorem zH.r6 :jF zi ⟨false,false,false⟩ (jm zi O) (reg Try.f44 6) (reg Try.f44 6).toList ([P,N,V,W,X,Y,Z,Q,R,U,b,a,f,g,i,k,l,m,n,o,c,d,p,q,r,s,t,u,w,x,y,z,A,B,C,D,E,F,G,H,I,J,K,L,M]) S =
  (zU (wu zi BinOp.lss 3 d c S) (fun v0 S1=>some ([P,N,V,W,X,Y,Z,Q,R,U,b,a,f,g,i,k,l,m,n,o,c,d,v0,q,r,s,t,u,w,x,y,z,A,B,C,D,E,F,G,H,I,J,K,L,M],S1)) ()):=by
 kernel_rfl
theorem zH.r7 :jF zi ⟨false,false,false⟩ (jm zi O) (reg Try.f44 7) (reg Try.f44 7).toList ([P,N,V,W,X,Y,Z,Q,R,U,b,a,f,g,i,k,l,m,n,o,c,d,p,q,r,s,t,u,w,x,y,z,A,B,C,D,E,F,G,H,I,J,K,L,M]) S =
  (zU ((jm zi O) 42 [(dem (dem Q))] S) (fun v1 S1=>zU (zW v1 0 S1) (fun v3 S2=>zU (zW (jd 0 v1) 1 S2) (fun v4 S3=>zU (zW (jd 1 (jd 0 v1)) 2 S3) (fun v5 S4=>some ([P,N,V,W,X,Y,Z,Q,R,v3,v4,v5,f,g,i,k,l,m,n,o,c,d,p,jd 2 (jd 1 (jd 0 v1)),dem Q,dem v1,dem v3,dem v4,dem v5,x,y,z,A,B,C,D,E,F,G,H,I,J,K,L,M],S4)) ()) ()) ()) ()):=by
 kernel_rfl
theorem zH.r8 :jF zi ⟨false,false,false⟩ (jm zi O) (reg Try.f44 8) (reg Try.f44 8).toList ([P,N,V,W,X,Y,Z,Q,R,U,b,a,f,g,i,k,l,m,n,o,c,d,p,q,r,s,t,u,w,x,y,z,A,B,C,D,E,F,G,H,I,J,K,L,M]) S =
  (zU (wu zi BinOp.neq 29 (dem a) (.int .i64 0) S) (fun v1 S1=>gdK (dem v1) false (ret U) S1 (fun v3 S2=>gdK (dem v1) false (wu zi BinOp.gtr 75 (dem v3) (Value.int IntKind.u64 4611686018427387905)) S2 (fun v4 S3=>zU (ql (dem v1) (Value.bool true) v4 S3) (fun v5 S4=>some ([P,N,V,W,X,Y,Z,Q,R,U,b,a,f,g,i,k,l,m,n,o,c,d,p,q,r,s,t,u,w,dem a,v1,dem v1,dem v3,v4,v5,D,E,F,G,H,I,J,K,L,M],S4)) ()) ()) ()) ()):=by
 refine sP Try.f44 8 0 (v:=a) ?_
 refine sD Try.f44 8 1 (fun v1 S1=>?_)
 refine sP Try.f44 8 2 (v:=v1) ?_
 refine sG Try.f44 8 3 (j:=2) (fun v3 S2=>?_)
 refine sG Try.f44 8 4 (j:=2) (fun v4 S3=>?_)
 refine sD Try.f44 8 5 (fun v5 S4=>?_)
 kernel_rfl
theorem zH.r9 :jF zi ⟨false,false,false⟩ (jm zi O) (reg Try.f44 9) (reg Try.f44 9).toList ([P,N,V,W,X,Y,Z,Q,R,U,b,a,f,g,i,k,l,m,n,o,c,d,p,q,r,s,t,u,w,x,y,z,A,B,C,D,E,F,G,H,I,J,K,L,M]) S =
  ( some ([P,N,V,W,Value.slice none 0 0,Value.slice none 0 0,.int .i64 11,Q,R,U,b,a,f,g,i,k,l,m,n,o,c,d,p,q,r,s,t,u,w,x,y,z,A,B,C,D,E,F,G,H,I,J,K,L,M],S)):=by
 kernel_rfl
theorem zH.r10 :jF zi ⟨false,false,false⟩ (jm zi O) (reg Try.f44 10) (reg Try.f44 10).toList ([P,N,V,W,X,Y,Z,Q,R,U,b,a,f,g,i,k,l,m,n,o,c,d,p,q,r,s,t,u,w,x,y,z,A,B,C,D,E,F,G,H,I,J,K,L,M]) S =
  (zU (wP zi false false 75 3 (dem U) S) (fun v2 S1=>zU (wu zi BinOp.sub 3 v2 (.int .i64 1) S1) (fun v3 S2=>zU (jH zi 56 1 [(0,v3)] S2) (fun v4 S3=>zU (jV zi 56 56 R v4 S3) (fun v5 S4=>some ([P,N,V,W,X,Y,Z,Q,v5,U,b,a,f,g,i,k,l,m,n,o,c,d,p,q,r,s,t,u,w,x,y,z,A,B,C,dem R,dem U,v2,v3,v4,dem v5,J,K,L,M],S4)) ()) ()) ()) ()):=by
 kernel_rfl
theorem zH.r11 :jF zi ⟨false,false,false⟩ (jm zi O) (reg Try.f44 11) (reg Try.f44 11).toList ([P,N,V,W,X,Y,Z,Q,R,U,b,a,f,g,i,k,l,m,n,o,c,d,p,q,r,s,t,u,w,x,y,z,A,B,C,D,E,F,G,H,I,J,K,L,M]) S =
  ( some ([P,N,V,W,X,Y,Z,b,R,U,dem b,a,f,g,i,k,l,m,n,o,c,d,p,q,r,s,t,u,w,x,y,z,A,B,C,D,E,F,G,H,I,dem b,K,L,M],S)):=by
 kernel_rfl
theorem zH.r12 :jF zi ⟨false,false,false⟩ (jm zi O) (reg Try.f44 12) (reg Try.f44 12).toList ([P,N,V,W,X,Y,Z,Q,R,U,b,a,f,g,i,k,l,m,n,o,c,d,p,q,r,s,t,u,w,x,y,z,A,B,C,D,E,F,G,H,I,J,K,L,M]) S =
  (zU (wu zi BinOp.add 3 d (.int .i64 1) S) (fun v0 S1=>some ([P,N,V,W,X,Y,Z,Q,R,U,b,a,f,g,i,k,l,m,n,o,c,dem v0,p,q,r,s,t,u,w,x,y,z,A,B,C,D,E,F,G,H,I,J,v0,L,M],S1)) ()):=by
 kernel_rfl
theorem zH.r13 :jF zi ⟨false,false,false⟩ (jm zi O) (reg Try.f44 13) (reg Try.f44 13).toList ([P,N,V,W,X,Y,Z,Q,R,U,b,a,f,g,i,k,l,m,n,o,c,d,p,q,r,s,t,u,w,x,y,z,A,B,C,D,E,F,G,H,I,J,K,L,M]) S =
  ( some ([P,N,V,W,R,Q,.int .i64 0,dem Q,dem R,U,b,a,f,g,i,k,l,m,n,o,c,d,p,q,r,s,t,u,w,x,y,z,A,B,C,D,E,F,G,H,I,J,K,dem R,dem Q],S)):=by
 kernel_rfl
theorem zH.rs:type_of% (aij @zH.r0 (aij @zH.r1 (aij @zH.r2 (aij @zH.r3 (aij @zH.r4 (aij @zH.r5 (aij @zH.r6 (aij @zH.r7 (aij @zH.r8 (aij @zH.r9 (aij @zH.r10 (aij @zH.r11 (aij @zH.r12 (@zH.r13)))))))))))))):=aij @zH.r0 (aij @zH.r1 (aij @zH.r2 (aij @zH.r3 (aij @zH.r4 (aij @zH.r5 (aij @zH.r6 (aij @zH.r7 (aij @zH.r8 (aij @zH.r9 (aij @zH.r10 (aij @zH.r11 (aij @zH.r12 (@zH.r13)))))))))))))
theorem zH.runs {P N:Value} {S S1:zx} {e:AEx} {T:List Value} (h:zI zi O false zH.code ([P,N,zh,zh,zh,zh,zh,zh,zh,zh,zh,zh,zh,zh,zh,zh,zh,zh,zh,zh,zh,zh,zh,zh,zh,zh,zh,zh,zh,zh,zh,zh,zh,zh,zh,zh,zh,zh,zh,zh,zh,zh,zh,zh,zh]) S=some (e,T,S1)) (he:e=.normal∨e=.ret)  (h0:jK (T.getD 4 zh)=true) (h1:jK (T.getD 5 zh)=true) (h2:jK (T.getD 6 zh)=true):jm zi O 44 [P,N] S=some (Value.tuple #[T.getD 4 zh,T.getD 5 zh,T.getD 6 zh],S1) :=
 wo rfl rfl Try.func44 (by decide) zH.body (by exact h) he ((wR ((show zX zi T S1 Try.f44.results.toList=zX zi T S1 [(ResultVar.tmp 4),(ResultVar.tmp 5),(ResultVar.tmp 6)] from by kernel_rfl).trans (by simp only [zX])) (by kernel_rfl) (by simp only [List.all_cons,List.all_nil,h0,h1,h2,Bool.and_true])).trans rfl)
end Go.Proofs.Ytblpnklfimkfoaa
namespace Go.Proofs.Ytblpnklfimkfoaa
open Go.Abs
abbrev zy.id:FuncId:=48
noncomputable def zy.jG:Code:=(.seq (.seq (.region 6 (reg Try.f48 6) false) (.cond (.tmp 25) Code.skip (.exit 0))) (.seq (.block 1 (.seq (.region 8 (reg Try.f48 8) false) (.seq (.seq (.region 9 (reg Try.f48 9) false) (.cond (.tmp 39) (.seq (.region 10 (reg Try.f48 10) false) Code.ret) Code.skip)) (.seq (.region 11 (reg Try.f48 11) false) (.region 12 (reg Try.f48 12) false))))) (.region 7 (reg Try.f48 7) false)))
noncomputable def zy.code:Code:=(.seq (.region 0 (reg Try.f48 0) false) (.seq (.seq (.region 1 (reg Try.f48 1) false) (.cond (.tmp 18) (.seq (.region 2 (reg Try.f48 2) false) Code.ret) Code.skip)) (.seq (.region 3 (reg Try.f48 3) false) (.seq (.region 4 (reg Try.f48 4) false) (.seq (.seq (.region 5 (reg Try.f48 5) false) (.block 0 (.loop zy.jG))) (.seq (.region 13 (reg Try.f48 13) false) Code.ret))))))
theorem zy.body:Try.f48.body=some zy.code:=by kernel_rfl
theorem zy.eta {T:List Value} (h:T.length=49):T=[T.getD 0 zh,T.getD 1 zh,T.getD 2 zh,T.getD 3 zh,T.getD 4 zh,T.getD 5 zh,T.getD 6 zh,T.getD 7 zh,T.getD 8 zh,T.getD 9 zh,T.getD 10 zh,T.getD 11 zh,T.getD 12 zh,T.getD 13 zh,T.getD 14 zh,T.getD 15 zh,T.getD 16 zh,T.getD 17 zh,T.getD 18 zh,T.getD 19 zh,T.getD 20 zh,T.getD 21 zh,T.getD 22 zh,T.getD 23 zh,T.getD 24 zh,T.getD 25 zh,T.getD 26 zh,T.getD 27 zh,T.getD 28 zh,T.getD 29 zh,T.getD 30 zh,T.getD 31 zh,T.getD 32 zh,T.getD 33 zh,T.getD 34 zh,T.getD 35 zh,T.getD 36 zh,T.getD 37 zh,T.getD 38 zh,T.getD 39 zh,T.getD 40 zh,T.getD 41 zh,T.getD 42 zh,T.getD 43 zh,T.getD 44 zh,T.getD 45 zh,T.getD 46 zh,T.getD 47 zh,T.getD 48 zh]:=(yJ T 49 h).trans (by kernel_rfl)
variable (V U Z x3 x4 x5 x6 W X Y a c b d f g i k l m n o p q r s t u w x y z A B C D E F G H I J K L M N P Q R:Value) (S:zx)
theorem zy.r0 :jF zi ⟨false,false,false⟩ (jm zi O) (reg Try.f48 0) (reg Try.f48 0).toList ([V,U,Z,x3,x4,x5,x6,W,X,Y,a,c,b,d,f,g,i,k,l,m,n,o,p,q,r,s,t,u,w,x,y,z,A,B,C,D,E,F,G,H,I,J,K,L,M,N,P,Q,R]) S =
  ( some ([V,U,Z,x3,Value.slice none 0 0,Value.slice none 0 0,.int .i64 0,W,X,Y,a,c,b,d,f,g,i,k,l,m,n,o,p,q,r,s,t,u,w,x,y,z,A,B,C,D,E,F,G,H,I,J,K,L,M,N,P,Q,R],S)):=by
 kernel_rfl
theorem zy.r1 :jF zi ⟨false,false,false⟩ (jm zi O) (reg Try.f48 1) (reg Try.f48 1).toList ([V,U,Z,x3,x4,x5,x6,W,X,Y,a,c,b,d,f,g,i,k,l,m,n,o,p,q,r,s,t,u,w,x,y,z,A,B,C,D,E,F,G,H,I,J,K,L,M,N,P,Q,R]) S =
  (zU (wu zi BinOp.lss 3 (dem U) (.int .i64 0) S) (fun v1 S1=>gdK (dem v1) false (ret U) S1 (fun v3 S2=>gdK (dem v1) false (wu zi BinOp.gtr 3 (dem v3) (.int .i64 64)) S2 (fun v4 S3=>zU (ql (dem v1) (Value.bool true) v4 S3) (fun v5 S4=>some ([V,U,Z,x3,x4,x5,x6,W,X,Y,a,c,b,dem U,v1,dem v1,dem v3,v4,v5,m,n,o,p,q,r,s,t,u,w,x,y,z,A,B,C,D,E,F,G,H,I,J,K,L,M,N,P,Q,R],S4)) ()) ()) ()) ()):=by
 refine sP Try.f48 1 0 (v:=U) ?_
 refine sD Try.f48 1 1 (fun v1 S1=>?_)
 refine sP Try.f48 1 2 (v:=v1) ?_
 refine sG Try.f48 1 3 (j:=2) (fun v3 S2=>?_)
 refine sG Try.f48 1 4 (j:=2) (fun v4 S3=>?_)
 refine sD Try.f48 1 5 (fun v5 S4=>?_)
 kernel_rfl
theorem zy.r2 :jF zi ⟨false,false,false⟩ (jm zi O) (reg Try.f48 2) (reg Try.f48 2).toList ([V,U,Z,x3,x4,x5,x6,W,X,Y,a,c,b,d,f,g,i,k,l,m,n,o,p,q,r,s,t,u,w,x,y,z,A,B,C,D,E,F,G,H,I,J,K,L,M,N,P,Q,R]) S =
  ( some ([V,U,Z,x3,Value.slice none 0 0,Value.slice none 0 0,.int .i64 11,W,X,Y,a,c,b,d,f,g,i,k,l,m,n,o,p,q,r,s,t,u,w,x,y,z,A,B,C,D,E,F,G,H,I,J,K,L,M,N,P,Q,R],S)):=by
 kernel_rfl
theorem zy.r3 :jF zi ⟨false,false,false⟩ (jm zi O) (reg Try.f48 3) (reg Try.f48 3).toList ([V,U,Z,x3,x4,x5,x6,W,X,Y,a,c,b,d,f,g,i,k,l,m,n,o,p,q,r,s,t,u,w,x,y,z,A,B,C,D,E,F,G,H,I,J,K,L,M,N,P,Q,R]) S =
  (zU (jH zi 56 0 [] S) (fun v0 S1=>some ([V,U,Z,x3,x4,x5,x6,v0,X,Y,a,c,b,d,f,g,i,k,l,dem v0,n,o,p,q,r,s,t,u,w,x,y,z,A,B,C,D,E,F,G,H,I,J,K,L,M,N,P,Q,R],S1)) ()):=by
 kernel_rfl
theorem zy.r4 :jF zi ⟨false,false,false⟩ (jm zi O) (reg Try.f48 4) (reg Try.f48 4).toList ([V,U,Z,x3,x4,x5,x6,W,X,Y,a,c,b,d,f,g,i,k,l,m,n,o,p,q,r,s,t,u,w,x,y,z,A,B,C,D,E,F,G,H,I,J,K,L,M,N,P,Q,R]) S =
  (zU (jH zi 26 0 [] S) (fun v0 S1=>zU (jV zi 26 26 v0 (dem V) S1) (fun v2 S2=>some ([V,U,Z,x3,x4,x5,x6,W,v2,Y,a,c,b,d,f,g,i,k,l,m,dem v0,dem V,dem v2,q,r,s,t,u,w,x,y,z,A,B,C,D,E,F,G,H,I,J,K,L,M,N,P,Q,R],S2)) ()) ()):=by
 kernel_rfl
theorem zy.r5 :jF zi ⟨false,false,false⟩ (jm zi O) (reg Try.f48 5) (reg Try.f48 5).toList ([V,U,Z,x3,x4,x5,x6,W,X,Y,a,c,b,d,f,g,i,k,l,m,n,o,p,q,r,s,t,u,w,x,y,z,A,B,C,D,E,F,G,H,I,J,K,L,M,N,P,Q,R]) S =
  ( some ([V,U,Z,x3,x4,x5,x6,W,X,.int .i64 0,a,c,b,d,f,g,i,k,l,m,n,o,p,q,r,s,t,u,w,x,y,z,A,B,C,D,E,F,G,H,I,J,K,L,M,N,P,Q,R],S)):=by
 kernel_rfl
theorem zy.r6 :jF zi ⟨false,false,false⟩ (jm zi O) (reg Try.f48 6) (reg Try.f48 6).toList ([V,U,Z,x3,x4,x5,x6,W,X,Y,a,c,b,d,f,g,i,k,l,m,n,o,p,q,r,s,t,u,w,x,y,z,A,B,C,D,E,F,G,H,I,J,K,L,M,N,P,Q,R]) S =
  (zU (wu zi BinOp.lss 3 (dem Y) (dem U) S) (fun v2 S1=>some ([V,U,Z,x3,x4,x5,x6,W,X,Y,a,c,b,d,f,g,i,k,l,m,n,o,p,dem Y,dem U,v2,t,u,w,x,y,z,A,B,C,D,E,F,G,H,I,J,K,L,M,N,P,Q,R],S1)) ()):=by
 kernel_rfl
theorem zy.r8 :jF zi ⟨false,false,false⟩ (jm zi O) (reg Try.f48 8) (reg Try.f48 8).toList ([V,U,Z,x3,x4,x5,x6,W,X,Y,a,c,b,d,f,g,i,k,l,m,n,o,p,q,r,s,t,u,w,x,y,z,A,B,C,D,E,F,G,H,I,J,K,L,M,N,P,Q,R]) S =
  (zU ((jm zi O) 49 [(dem (dem X))] S) (fun v1 S1=>zU (zW v1 0 S1) (fun v3 S2=>zU (zW (jd 0 v1) 1 S2) (fun v4 S3=>zU (zW (jd 1 (jd 0 v1)) 2 S3) (fun v5 S4=>some ([V,U,Z,x3,x4,x5,x6,W,X,Y,v3,v4,v5,d,f,g,i,k,l,m,n,o,p,q,r,s,t,u,jd 2 (jd 1 (jd 0 v1)),dem X,dem v1,dem v3,dem v4,dem v5,C,D,E,F,G,H,I,J,K,L,M,N,P,Q,R],S4)) ()) ()) ()) ()):=by
 kernel_rfl
theorem zy.r9 :jF zi ⟨false,false,false⟩ (jm zi O) (reg Try.f48 9) (reg Try.f48 9).toList ([V,U,Z,x3,x4,x5,x6,W,X,Y,a,c,b,d,f,g,i,k,l,m,n,o,p,q,r,s,t,u,w,x,y,z,A,B,C,D,E,F,G,H,I,J,K,L,M,N,P,Q,R]) S =
  (zU (wu zi BinOp.neq 3 (dem b) (.int .i64 0) S) (fun v1 S1=>gdK (dem v1) false (ret a) S1 (fun v3 S2=>gdK (dem v1) false (wu zi BinOp.gtr 75 (dem v3) (Value.int IntKind.u64 4611686018427387905)) S2 (fun v4 S3=>zU (ql (dem v1) (Value.bool true) v4 S3) (fun v5 S4=>some ([V,U,Z,x3,x4,x5,x6,W,X,Y,a,c,b,d,f,g,i,k,l,m,n,o,p,q,r,s,t,u,w,x,y,z,A,B,dem b,v1,dem v1,dem v3,v4,v5,I,J,K,L,M,N,P,Q,R],S4)) ()) ()) ()) ()):=by
 refine sP Try.f48 9 0 (v:=b) ?_
 refine sD Try.f48 9 1 (fun v1 S1=>?_)
 refine sP Try.f48 9 2 (v:=v1) ?_
 refine sG Try.f48 9 3 (j:=2) (fun v3 S2=>?_)
 refine sG Try.f48 9 4 (j:=2) (fun v4 S3=>?_)
 refine sD Try.f48 9 5 (fun v5 S4=>?_)
 kernel_rfl
theorem zy.r10 :jF zi ⟨false,false,false⟩ (jm zi O) (reg Try.f48 10) (reg Try.f48 10).toList ([V,U,Z,x3,x4,x5,x6,W,X,Y,a,c,b,d,f,g,i,k,l,m,n,o,p,q,r,s,t,u,w,x,y,z,A,B,C,D,E,F,G,H,I,J,K,L,M,N,P,Q,R]) S =
  ( some ([V,U,Z,x3,Value.slice none 0 0,Value.slice none 0 0,.int .i64 11,W,X,Y,a,c,b,d,f,g,i,k,l,m,n,o,p,q,r,s,t,u,w,x,y,z,A,B,C,D,E,F,G,H,I,J,K,L,M,N,P,Q,R],S)):=by
 kernel_rfl
theorem zy.r11 :jF zi ⟨false,false,false⟩ (jm zi O) (reg Try.f48 11) (reg Try.f48 11).toList ([V,U,Z,x3,x4,x5,x6,W,X,Y,a,c,b,d,f,g,i,k,l,m,n,o,p,q,r,s,t,u,w,x,y,z,A,B,C,D,E,F,G,H,I,J,K,L,M,N,P,Q,R]) S =
  (zU (wP zi false false 75 3 (dem a) S) (fun v2 S1=>zU (wu zi BinOp.sub 3 v2 (.int .i64 1) S1) (fun v3 S2=>zU (jH zi 56 1 [(0,v3)] S2) (fun v4 S3=>zU (jV zi 56 56 W v4 S3) (fun v5 S4=>some ([V,U,Z,x3,x4,x5,x6,v5,X,Y,a,c,b,d,f,g,i,k,l,m,n,o,p,q,r,s,t,u,w,x,y,z,A,B,C,D,E,F,G,H,dem W,dem a,v2,v3,v4,dem v5,P,Q,R],S4)) ()) ()) ()) ()):=by
 kernel_rfl
theorem zy.r12 :jF zi ⟨false,false,false⟩ (jm zi O) (reg Try.f48 12) (reg Try.f48 12).toList ([V,U,Z,x3,x4,x5,x6,W,X,Y,a,c,b,d,f,g,i,k,l,m,n,o,p,q,r,s,t,u,w,x,y,z,A,B,C,D,E,F,G,H,I,J,K,L,M,N,P,Q,R]) S =
  ( some ([V,U,Z,x3,x4,x5,x6,W,c,Y,a,dem c,b,d,f,g,i,k,l,m,n,o,p,q,r,s,t,u,w,x,y,z,A,B,C,D,E,F,G,H,I,J,K,L,M,N,dem c,Q,R],S)):=by
 kernel_rfl
theorem zy.r7 :jF zi ⟨false,false,false⟩ (jm zi O) (reg Try.f48 7) (reg Try.f48 7).toList ([V,U,Z,x3,x4,x5,x6,W,X,Y,a,c,b,d,f,g,i,k,l,m,n,o,p,q,r,s,t,u,w,x,y,z,A,B,C,D,E,F,G,H,I,J,K,L,M,N,P,Q,R]) S =
  (zU (wu zi BinOp.add 3 (dem Y) (.int .i64 1) S) (fun v1 S1=>some ([V,U,Z,x3,x4,x5,x6,W,X,v1,a,c,b,d,f,g,i,k,l,m,n,o,p,q,r,s,dem Y,dem v1,w,x,y,z,A,B,C,D,E,F,G,H,I,J,K,L,M,N,P,Q,R],S1)) ()):=by
 kernel_rfl
theorem zy.r13 :jF zi ⟨false,false,false⟩ (jm zi O) (reg Try.f48 13) (reg Try.f48 13).toList ([V,U,Z,x3,x4,x5,x6,W,X,Y,a,c,b,d,f,g,i,k,l,m,n,o,p,q,r,s,t,u,w,x,y,z,A,B,C,D,E,F,G,H,I,J,K,L,M,N,P,Q,R]) S =
  ( some ([V,U,Z,x3,W,X,.int .i64 0,dem W,dem X,Y,a,c,b,d,f,g,i,k,l,m,n,o,p,q,r,s,t,u,w,x,y,z,A,B,C,D,E,F,G,H,I,J,K,L,M,N,P,dem W,dem X],S)):=by
 kernel_rfl
theorem zy.rs:type_of% (aij @zy.r0 (aij @zy.r1 (aij @zy.r2 (aij @zy.r3 (aij @zy.r4 (aij @zy.r5 (aij @zy.r6 (aij @zy.r8 (aij @zy.r9 (aij @zy.r10 (aij @zy.r11 (aij @zy.r12 (aij @zy.r7 (@zy.r13)))))))))))))):=aij @zy.r0 (aij @zy.r1 (aij @zy.r2 (aij @zy.r3 (aij @zy.r4 (aij @zy.r5 (aij @zy.r6 (aij @zy.r8 (aij @zy.r9 (aij @zy.r10 (aij @zy.r11 (aij @zy.r12 (aij @zy.r7 (@zy.r13)))))))))))))
theorem zy.runs {V U:Value} {S S1:zx} {e:AEx} {T:List Value} (h:zI zi O false zy.code ([V,U,zh,zh,zh,zh,zh,zh,zh,zh,zh,zh,zh,zh,zh,zh,zh,zh,zh,zh,zh,zh,zh,zh,zh,zh,zh,zh,zh,zh,zh,zh,zh,zh,zh,zh,zh,zh,zh,zh,zh,zh,zh,zh,zh,zh,zh,zh,zh]) S=some (e,T,S1)) (he:e=.normal∨e=.ret)  (h0:jK (T.getD 4 zh)=true) (h1:jK (T.getD 5 zh)=true) (h2:jK (T.getD 6 zh)=true):jm zi O 48 [V,U] S=some (Value.tuple #[T.getD 4 zh,T.getD 5 zh,T.getD 6 zh],S1) :=
 wo rfl rfl Try.func48 (by decide) zy.body (by exact h) he ((wR ((show zX zi T S1 Try.f48.results.toList=zX zi T S1 [(ResultVar.tmp 4),(ResultVar.tmp 5),(ResultVar.tmp 6)] from by kernel_rfl).trans (by simp only [zX])) (by kernel_rfl) (by simp only [List.all_cons,List.all_nil,h0,h1,h2,Bool.and_true])).trans rfl)
end Go.Proofs.Ytblpnklfimkfoaa
namespace Go.Proofs.Ytblpnklfimkfoaa
open Go.Abs
abbrev jh.id:FuncId:=32
noncomputable def jh.jG:Code:=(.seq (.region 5 (reg Try.f32 5) false) (.seq (.cond (.tmp 13) Code.skip (.exit 0)) (.seq (.block 1 (.seq (.region 6 (reg Try.f32 6) false) (.seq (.seq (.region 7 (reg Try.f32 7) false) (.cond (.tmp 17) (.seq (.region 8 (reg Try.f32 8) false) Code.ret) Code.skip)) (.region 9 (reg Try.f32 9) false)))) (.region 10 (reg Try.f32 10) false))))
noncomputable def jh.code:Code:=(.seq (.region 0 (reg Try.f32 0) false) (.seq (.seq (.region 1 (reg Try.f32 1) false) (.cond (.tmp 9) (.seq (.region 2 (reg Try.f32 2) false) Code.ret) Code.skip)) (.seq (.region 3 (reg Try.f32 3) false) (.seq (.seq (.region 4 (reg Try.f32 4) false) (.block 0 (.loop jh.jG))) (.seq (.region 11 (reg Try.f32 11) false) Code.ret)))))
theorem jh.body:Try.f32.body=some jh.code:=by kernel_rfl
theorem jh.eta {T:List Value} (h:T.length=26):T=[T.getD 0 zh,T.getD 1 zh,T.getD 2 zh,T.getD 3 zh,T.getD 4 zh,T.getD 5 zh,T.getD 6 zh,T.getD 7 zh,T.getD 8 zh,T.getD 9 zh,T.getD 10 zh,T.getD 11 zh,T.getD 12 zh,T.getD 13 zh,T.getD 14 zh,T.getD 15 zh,T.getD 16 zh,T.getD 17 zh,T.getD 18 zh,T.getD 19 zh,T.getD 20 zh,T.getD 21 zh,T.getD 22 zh,T.getD 23 zh,T.getD 24 zh,T.getD 25 zh]:=(yJ T 26 h).trans (by kernel_rfl)
variable (s v A B u w t x y z b c a d f g i j k l m n o p q r:Value) (S:zx)
theorem jh.r0 :jF zi ⟨false,false,false⟩ (jm zi O) (reg Try.f32 0) (reg Try.f32 0).toList ([s,v,A,B,u,w,t,x,y,z,b,c,a,d,f,g,i,j,k,l,m,n,o,p,q,r]) S =
  ( some ([s,v,Value.slice none 0 0,.int .i64 0,u,w,t,x,y,z,b,c,a,d,f,g,i,j,k,l,m,n,o,p,q,r],S)):=by
 kernel_rfl
theorem jh.r1 :jF zi ⟨false,false,false⟩ (jm zi O) (reg Try.f32 1) (reg Try.f32 1).toList ([s,v,A,B,u,w,t,x,y,z,b,c,a,d,f,g,i,j,k,l,m,n,o,p,q,r]) S =
  (zU (ku zi 56 (dem s) S) (fun D C=>zU (wu zi BinOp.gtr 3 D (.int .i64 64) C) (fun G F=>some ([s,v,A,B,u,w,t,dem s,D,G,b,c,a,d,f,g,i,j,k,l,m,n,o,p,q,r],F)) ()) ()):=by
 kernel_rfl
theorem jh.r2 :jF zi ⟨false,false,false⟩ (jm zi O) (reg Try.f32 2) (reg Try.f32 2).toList ([s,v,A,B,u,w,t,x,y,z,b,c,a,d,f,g,i,j,k,l,m,n,o,p,q,r]) S =
  ( some ([s,v,Value.slice none 0 0,.int .i64 11,u,w,t,x,y,z,b,c,a,d,f,g,i,j,k,l,m,n,o,p,q,r],S)):=by
 kernel_rfl
theorem jh.r3 :jF zi ⟨false,false,false⟩ (jm zi O) (reg Try.f32 3) (reg Try.f32 3).toList ([s,v,A,B,u,w,t,x,y,z,b,c,a,d,f,g,i,j,k,l,m,n,o,p,q,r]) S =
  ( some ([s,v,A,B,Value.slice none 0 0,w,t,x,y,z,b,c,a,d,f,g,i,j,k,l,m,n,o,p,q,r],S)):=by
 kernel_rfl
theorem jh.r4 :jF zi ⟨false,false,false⟩ (jm zi O) (reg Try.f32 4) (reg Try.f32 4).toList ([s,v,A,B,u,w,t,x,y,z,b,c,a,d,f,g,i,j,k,l,m,n,o,p,q,r]) S =
  (zU (ku zi 56 (dem s) S) (fun D C=>some ([s,v,A,B,u,w,t,x,y,z,dem s,D,.int .i64 0,d,f,g,i,j,k,l,m,n,o,p,q,r],C)) ()):=by
 kernel_rfl
theorem jh.r5 :jF zi ⟨false,false,false⟩ (jm zi O) (reg Try.f32 5) (reg Try.f32 5).toList ([s,v,A,B,u,w,t,x,y,z,b,c,a,d,f,g,i,j,k,l,m,n,o,p,q,r]) S =
  (zU (wu zi BinOp.lss 3 a c S) (fun E C=>some ([s,v,A,B,u,w,t,x,y,z,b,c,a,E,f,g,i,j,k,l,m,n,o,p,q,r],C)) ()):=by
 kernel_rfl
theorem jh.r6 :jF zi ⟨false,false,false⟩ (jm zi O) (reg Try.f32 6) (reg Try.f32 6).toList ([s,v,A,B,u,w,t,x,y,z,b,c,a,d,f,g,i,j,k,l,m,n,o,p,q,r]) S =
  (zU (jI zi 56 b a S) (fun E C=>zU (jE zi false 3 E C) (fun D F=>some ([s,v,A,B,u,w,D,x,y,z,b,c,a,d,E,dem D,i,j,k,l,m,n,o,p,q,r],F)) ()) ()):=by
 kernel_rfl
theorem jh.r7 :jF zi ⟨false,false,false⟩ (jm zi O) (reg Try.f32 7) (reg Try.f32 7).toList ([s,v,A,B,u,w,t,x,y,z,b,c,a,d,f,g,i,j,k,l,m,n,o,p,q,r]) S =
  (zU (wu zi BinOp.lss 3 (dem t) (.int .i64 (-1)) S) (fun D C=>some ([s,v,A,B,u,w,t,x,y,z,b,c,a,d,f,g,dem t,D,k,l,m,n,o,p,q,r],C)) ()):=by
 kernel_rfl
theorem jh.r8 :jF zi ⟨false,false,false⟩ (jm zi O) (reg Try.f32 8) (reg Try.f32 8).toList ([s,v,A,B,u,w,t,x,y,z,b,c,a,d,f,g,i,j,k,l,m,n,o,p,q,r]) S =
  ( some ([s,v,Value.slice none 0 0,.int .i64 11,u,w,t,x,y,z,b,c,a,d,f,g,i,j,k,l,m,n,o,p,q,r],S)):=by
 kernel_rfl
theorem jh.r9 :jF zi ⟨false,false,false⟩ (jm zi O) (reg Try.f32 9) (reg Try.f32 9).toList ([s,v,A,B,u,w,t,x,y,z,b,c,a,d,f,g,i,j,k,l,m,n,o,p,q,r]) S =
  (zU (wP zi false false 3 75 (dem t) S) (fun G C=>zU (wu zi BinOp.add 75 G (Value.int IntKind.u64 1) C) (fun H F=>zU ((jm zi O) 45 [(dem H)] F) (fun I K=>zU (jV zi 26 26 u I K) (fun J L=>some ([s,v,A,B,J,w,t,x,y,z,b,c,a,d,f,g,i,j,dem u,dem t,G,H,I,dem J,q,r],L)) ()) ()) ()) ()):=by
 kernel_rfl
theorem jh.r10 :jF zi ⟨false,false,false⟩ (jm zi O) (reg Try.f32 10) (reg Try.f32 10).toList ([s,v,A,B,u,w,t,x,y,z,b,c,a,d,f,g,i,j,k,l,m,n,o,p,q,r]) S =
  (zU (wu zi BinOp.add 3 a (.int .i64 1) S) (fun E C=>some ([s,v,A,B,u,w,t,x,y,z,b,c,dem E,d,f,g,i,j,k,l,m,n,o,p,E,r],C)) ()):=by
 kernel_rfl
theorem jh.r11 :jF zi ⟨false,false,false⟩ (jm zi O) (reg Try.f32 11) (reg Try.f32 11).toList ([s,v,A,B,u,w,t,x,y,z,b,c,a,d,f,g,i,j,k,l,m,n,o,p,q,r]) S =
  ( some ([s,v,u,.int .i64 0,dem u,w,t,x,y,z,b,c,a,d,f,g,i,j,k,l,m,n,o,p,q,dem u],S)):=by
 kernel_rfl
theorem jh.rs:type_of% (aij @jh.r0 (aij @jh.r1 (aij @jh.r2 (aij @jh.r3 (aij @jh.r4 (aij @jh.r5 (aij @jh.r6 (aij @jh.r7 (aij @jh.r8 (aij @jh.r9 (aij @jh.r10 (@jh.r11)))))))))))):=aij @jh.r0 (aij @jh.r1 (aij @jh.r2 (aij @jh.r3 (aij @jh.r4 (aij @jh.r5 (aij @jh.r6 (aij @jh.r7 (aij @jh.r8 (aij @jh.r9 (aij @jh.r10 (@jh.r11)))))))))))
theorem jh.runs {s:Value} {S C:zx} {e:AEx} {T:List Value} (h:zI zi O false jh.code ([s,zh,zh,zh,zh,zh,zh,zh,zh,zh,zh,zh,zh,zh,zh,zh,zh,zh,zh,zh,zh,zh,zh,zh,zh,zh]) S=some (e,T,C)) (he:e=.normal∨e=.ret)  (h0:jK (T.getD 2 zh)=true) (h1:jK (T.getD 3 zh)=true):jm zi O 32 [s] S=some (Value.tuple #[T.getD 2 zh,T.getD 3 zh],C) :=
 wo rfl rfl Try.func32 (by decide) jh.body (by exact h) he ((wR ((show zX zi T C Try.f32.results.toList=zX zi T C [(ResultVar.tmp 2),(ResultVar.tmp 3)] from by kernel_rfl).trans (by simp only [zX])) (by kernel_rfl) (by simp only [List.all_cons,List.all_nil,h0,h1,Bool.and_true])).trans rfl)
end Go.Proofs.Ytblpnklfimkfoaa
namespace Go.Proofs.Ytblpnklfimkfoaa
open Go.Abs
abbrev zC.id:FuncId:=35
noncomputable def zC.jG:Code:=(.seq (.region 5 (reg Try.f35 5) false) (.seq (.cond (.tmp 14) Code.skip (.exit 0)) (.seq (.block 1 (.seq (.region 6 (reg Try.f35 6) false) (.seq (.seq (.region 7 (reg Try.f35 7) false) (.cond (.tmp 18) (.seq (.region 8 (reg Try.f35 8) false) Code.ret) Code.skip)) (.region 9 (reg Try.f35 9) false)))) (.region 10 (reg Try.f35 10) false))))
noncomputable def zC.code:Code:=(.seq (.region 0 (reg Try.f35 0) false) (.seq (.seq (.region 1 (reg Try.f35 1) false) (.cond (.tmp 9) (.seq (.region 2 (reg Try.f35 2) false) Code.ret) Code.skip)) (.seq (.region 3 (reg Try.f35 3) false) (.seq (.seq (.region 4 (reg Try.f35 4) false) (.block 0 (.loop zC.jG))) (.seq (.region 11 (reg Try.f35 11) false) Code.ret)))))
theorem zC.body:Try.f35.body=some zC.code:=by kernel_rfl
theorem zC.eta {T:List Value} (h:T.length=27):T=[T.getD 0 zh,T.getD 1 zh,T.getD 2 zh,T.getD 3 zh,T.getD 4 zh,T.getD 5 zh,T.getD 6 zh,T.getD 7 zh,T.getD 8 zh,T.getD 9 zh,T.getD 10 zh,T.getD 11 zh,T.getD 12 zh,T.getD 13 zh,T.getD 14 zh,T.getD 15 zh,T.getD 16 zh,T.getD 17 zh,T.getD 18 zh,T.getD 19 zh,T.getD 20 zh,T.getD 21 zh,T.getD 22 zh,T.getD 23 zh,T.getD 24 zh,T.getD 25 zh,T.getD 26 zh]:=(yJ T 27 h).trans (by kernel_rfl)
variable (t w B C v x u y z A d b c a f g i j k l m n o p q r s:Value) (S:zx)
theorem zC.r0 :jF zi ⟨false,false,false⟩ (jm zi O) (reg Try.f35 0) (reg Try.f35 0).toList ([t,w,B,C,v,x,u,y,z,A,d,b,c,a,f,g,i,j,k,l,m,n,o,p,q,r,s]) S =
  ( some ([t,w,Value.slice none 0 0,.int .i64 0,v,x,u,y,z,A,d,b,c,a,f,g,i,j,k,l,m,n,o,p,q,r,s],S)):=by
 kernel_rfl
theorem zC.r1 :jF zi ⟨false,false,false⟩ (jm zi O) (reg Try.f35 1) (reg Try.f35 1).toList ([t,w,B,C,v,x,u,y,z,A,d,b,c,a,f,g,i,j,k,l,m,n,o,p,q,r,s]) S =
  (zU (ku zi 56 (dem t) S) (fun F D=>zU (wu zi BinOp.gtr 3 F (.int .i64 64) D) (fun H G=>some ([t,w,B,C,v,x,u,dem t,F,H,d,b,c,a,f,g,i,j,k,l,m,n,o,p,q,r,s],G)) ()) ()):=by
 kernel_rfl
theorem zC.r2 :jF zi ⟨false,false,false⟩ (jm zi O) (reg Try.f35 2) (reg Try.f35 2).toList ([t,w,B,C,v,x,u,y,z,A,d,b,c,a,f,g,i,j,k,l,m,n,o,p,q,r,s]) S =
  ( some ([t,w,Value.slice none 0 0,.int .i64 11,v,x,u,y,z,A,d,b,c,a,f,g,i,j,k,l,m,n,o,p,q,r,s],S)):=by
 kernel_rfl
theorem zC.r3 :jF zi ⟨false,false,false⟩ (jm zi O) (reg Try.f35 3) (reg Try.f35 3).toList ([t,w,B,C,v,x,u,y,z,A,d,b,c,a,f,g,i,j,k,l,m,n,o,p,q,r,s]) S =
  (zU (jH zi 26 0 [] S) (fun E D=>some ([t,w,B,C,E,x,u,y,z,A,dem E,b,c,a,f,g,i,j,k,l,m,n,o,p,q,r,s],D)) ()):=by
 kernel_rfl
theorem zC.r4 :jF zi ⟨false,false,false⟩ (jm zi O) (reg Try.f35 4) (reg Try.f35 4).toList ([t,w,B,C,v,x,u,y,z,A,d,b,c,a,f,g,i,j,k,l,m,n,o,p,q,r,s]) S =
  (zU (ku zi 56 (dem t) S) (fun F D=>some ([t,w,B,C,v,x,u,y,z,A,d,dem t,F,.int .i64 0,f,g,i,j,k,l,m,n,o,p,q,r,s],D)) ()):=by
 kernel_rfl
theorem zC.r5 :jF zi ⟨false,false,false⟩ (jm zi O) (reg Try.f35 5) (reg Try.f35 5).toList ([t,w,B,C,v,x,u,y,z,A,d,b,c,a,f,g,i,j,k,l,m,n,o,p,q,r,s]) S =
  (zU (wu zi BinOp.lss 3 a c S) (fun E D=>some ([t,w,B,C,v,x,u,y,z,A,d,b,c,a,E,g,i,j,k,l,m,n,o,p,q,r,s],D)) ()):=by
 kernel_rfl
theorem zC.r6 :jF zi ⟨false,false,false⟩ (jm zi O) (reg Try.f35 6) (reg Try.f35 6).toList ([t,w,B,C,v,x,u,y,z,A,d,b,c,a,f,g,i,j,k,l,m,n,o,p,q,r,s]) S =
  (zU (jI zi 56 b a S) (fun E D=>zU (jE zi false 3 E D) (fun F G=>some ([t,w,B,C,v,x,F,y,z,A,d,b,c,a,f,E,dem F,j,k,l,m,n,o,p,q,r,s],G)) ()) ()):=by
 kernel_rfl
theorem zC.r7 :jF zi ⟨false,false,false⟩ (jm zi O) (reg Try.f35 7) (reg Try.f35 7).toList ([t,w,B,C,v,x,u,y,z,A,d,b,c,a,f,g,i,j,k,l,m,n,o,p,q,r,s]) S =
  (zU (wu zi BinOp.lss 3 (dem u) (.int .i64 (-1)) S) (fun F D=>some ([t,w,B,C,v,x,u,y,z,A,d,b,c,a,f,g,i,dem u,F,l,m,n,o,p,q,r,s],D)) ()):=by
 kernel_rfl
theorem zC.r8 :jF zi ⟨false,false,false⟩ (jm zi O) (reg Try.f35 8) (reg Try.f35 8).toList ([t,w,B,C,v,x,u,y,z,A,d,b,c,a,f,g,i,j,k,l,m,n,o,p,q,r,s]) S =
  ( some ([t,w,Value.slice none 0 0,.int .i64 11,v,x,u,y,z,A,d,b,c,a,f,g,i,j,k,l,m,n,o,p,q,r,s],S)):=by
 kernel_rfl
theorem zC.r9 :jF zi ⟨false,false,false⟩ (jm zi O) (reg Try.f35 9) (reg Try.f35 9).toList ([t,w,B,C,v,x,u,y,z,A,d,b,c,a,f,g,i,j,k,l,m,n,o,p,q,r,s]) S =
  (zU (wP zi false false 3 75 (dem u) S) (fun H D=>zU (wu zi BinOp.add 75 H (Value.int IntKind.u64 1) D) (fun I G=>zU ((jm zi O) 46 [(dem I)] G) (fun J L=>zU (jV zi 26 26 v J L) (fun K M=>some ([t,w,B,C,K,x,u,y,z,A,d,b,c,a,f,g,i,j,k,dem v,dem u,H,I,J,dem K,r,s],M)) ()) ()) ()) ()):=by
 kernel_rfl
theorem zC.r10 :jF zi ⟨false,false,false⟩ (jm zi O) (reg Try.f35 10) (reg Try.f35 10).toList ([t,w,B,C,v,x,u,y,z,A,d,b,c,a,f,g,i,j,k,l,m,n,o,p,q,r,s]) S =
  (zU (wu zi BinOp.add 3 a (.int .i64 1) S) (fun E D=>some ([t,w,B,C,v,x,u,y,z,A,d,b,c,dem E,f,g,i,j,k,l,m,n,o,p,q,E,s],D)) ()):=by
 kernel_rfl
theorem zC.r11 :jF zi ⟨false,false,false⟩ (jm zi O) (reg Try.f35 11) (reg Try.f35 11).toList ([t,w,B,C,v,x,u,y,z,A,d,b,c,a,f,g,i,j,k,l,m,n,o,p,q,r,s]) S =
  ( some ([t,w,v,.int .i64 0,dem v,x,u,y,z,A,d,b,c,a,f,g,i,j,k,l,m,n,o,p,q,r,dem v],S)):=by
 kernel_rfl
theorem zC.rs:type_of% (aij @zC.r0 (aij @zC.r1 (aij @zC.r2 (aij @zC.r3 (aij @zC.r4 (aij @zC.r5 (aij @zC.r6 (aij @zC.r7 (aij @zC.r8 (aij @zC.r9 (aij @zC.r10 (@zC.r11)))))))))))):=aij @zC.r0 (aij @zC.r1 (aij @zC.r2 (aij @zC.r3 (aij @zC.r4 (aij @zC.r5 (aij @zC.r6 (aij @zC.r7 (aij @zC.r8 (aij @zC.r9 (aij @zC.r10 (@zC.r11)))))))))))
theorem zC.runs {t:Value} {S D:zx} {e:AEx} {T:List Value} (h:zI zi O false zC.code ([t,zh,zh,zh,zh,zh,zh,zh,zh,zh,zh,zh,zh,zh,zh,zh,zh,zh,zh,zh,zh,zh,zh,zh,zh,zh,zh]) S=some (e,T,D)) (he:e=.normal∨e=.ret)  (h0:jK (T.getD 2 zh)=true) (h1:jK (T.getD 3 zh)=true):jm zi O 35 [t] S=some (Value.tuple #[T.getD 2 zh,T.getD 3 zh],D) :=
 wo rfl rfl Try.func35 (by decide) zC.body (by exact h) he ((wR ((show zX zi T D Try.f35.results.toList=zX zi T D [(ResultVar.tmp 2),(ResultVar.tmp 3)] from by kernel_rfl).trans (by simp only [zX])) (by kernel_rfl) (by simp only [List.all_cons,List.all_nil,h0,h1,Bool.and_true])).trans rfl)
end Go.Proofs.Ytblpnklfimkfoaa
namespace Go.Proofs.Ytblpnklfimkfoaa
open Go.Abs
theorem bz0 (S:zx):jH zi 56 0 [] S=some (iz 2 [],S):=by rw [abp];rfl
theorem ahx (x:Int):sv 2 1 1 [.int .i64 x]=iz 2 [x]:=rfl
theorem ab2 {k:Nat} {l:List Int} {x:Int} {S:zx} (h:Okl k l) (hk:k≠1) (hl:l.length≤17592186044000):jV zi 56 56 (iz k l) (iz 2 [x]) S=some (iz 2 (l++[x]),S):=by
 rw [adi h hk Okl.own (by simp;omega),if_neg (fun h=>by have:=h.2;simp at this)]
end Go.Proofs.Ytblpnklfimkfoaa
namespace Go.Abs
open Go.RowKit
theorem agY {b:Nat} {e:Ty} {α:Type} (f:α→List Value) (Q:α→Prop) (h:∀ x,e.Good x→∃ y,e.J9 x=f y∧Q y) (hf:∀ y,(f y).length=e.sz) (x:(Ty.slc b e).Val) (hg:(Ty.slc b e).Good x) :
  ∃ k l,Okl k l∧k≠2∧(Ty.slc b e).J9 x=[vs f e.sz k l]∧l.length * b≤140737488351232∧∀ y ∈ l,Q y:=by
 match x,hg with
 | none,_=>exact ⟨0,[],Okl.none,by decide,rfl,by simp,fun y hy=>by cases hy⟩
 | some xs,hg =>
  obtain ⟨h1,h2,h3⟩:=hg
  have key:∀ xs:List e.Val,(∀ n ∈ xs,e.Good n)→∃ l:List α,xs.flatMap e.J9=l.flatMap f∧l.length=xs.length∧∀ y ∈ l,Q y:=by
   intro xs
   induction xs with
   | nil=>intro _;exact ⟨[],rfl,rfl,fun y hy=>by cases hy⟩
   | cons n xs ih =>
    intro hn
    obtain ⟨y,hy,hq⟩:=h n (hn n (by simp))
    obtain ⟨l,k1,k2,k3⟩:=ih (fun m hm=>hn m (by simp [hm]))
    refine ⟨y::l,by rw [List.flatMap_cons,List.flatMap_cons,hy,k1],by simp [k2],fun z hz=>?_⟩
    rcases List.mem_cons.1 hz with rfl | hz
    ·
     exact hq
    ·
     exact k3 z hz
  obtain ⟨l,k1,k2,k3⟩:=key xs h3
  refine ⟨1,l,Okl.read,by decide,?_,by rw [k2];exact h1,k3⟩
  show [SL 1 e.sz (List.length xs) (List.flatMap e.J9 xs)]=[_]
  unfold vs
  rw [sv1,k1,k2]
theorem ZT {cs xs:List Value} (h:cs.length=xs.length):splice cs 0 xs=xs:=by
 unfold splice
 rw [List.take_zero,List.nil_append,Nat.zero_add,← h,List.drop_length,List.append_nil]
theorem ahm {k e n:Nat} {cs:List Value}:(sv k e n cs).oneCell'=true:=by unfold sv;split <;> rfl
theorem aaI {α:Type} {f:α→List Value} {e k:Nat} {l:List α}:(vs f e k l).oneCell'=true:=ahm
theorem acf {k:IntKind} {n:Int}:(Value.int k n).oneCell'=true:=rfl
theorem Yg {P:Program} {t:TypeId} {z xs:List Value} {x:Value} (S:zx) (hx:x.cells.toList=xs) (hs:xA P t=some z.length) (hl:xs.length=z.length) (h1:xs.all (·.oneCell')=true) :
  ∃ S2,wz P t (.pointer (some ⟨S.next,0,none⟩)) x (S.push (.cells z (.own []) 0))=some (zh,S2)∧S2.get S.next=some (.cells xs (.own []) 0)∧Ext S S2∧S.next < S2.next:=by
 have hg:(S.push (.cells z (.own []) 0)).get S.next=some (.cells z (.own []) 0):=by rw [zx.jJ,if_pos rfl]
 refine ⟨_,xg hg hs (by rw [← Array.length_toList,hx,hl]) (by rw [hx];exact h1) (by simp),?_,(Ext.push S _).set (Nat.le_refl _) _,by simp [zx.kills]⟩
 rw [zx.jS,if_pos rfl,hx,ZT hl.symm]
theorem JG {P:Program} {t:TypeId} {q o n:Nat} {cs:List Value} {e:Nat} {x:Value} {S S0:zx} (hg:S.get q=some (.cells cs (.own []) e)) (hs:xA P t=some n) (hn:x.cells.size=n) (h1:x.cells.toList.all (·.oneCell')=true) (hle:o+n≤cs.length) (hE:Ext S0 S) (hq:S0.next≤q) :
  ∃ S2,wz P t (.pointer (some ⟨q,o,none⟩)) x S=some (zh,S2)∧S2.get q=some (.cells (splice cs o x.cells.toList) (.own []) e)∧Ext S0 S2∧S2.next=S.next∧∀ k,k≠q→S2.get k=S.get k:=by
 exact ⟨_,xg hg hs hn h1 hle,by rw [zx.jS,if_pos rfl],hE.set hq _,by simp [zx.kills],fun k hk=>by rw [zx.jS,if_neg hk];rfl⟩
theorem abP (x:Value) (S:zx):∃ S2,JV x S=some (.pointer (some ⟨S.next,0,none⟩),S2)∧S2.get S.next=some (.cells x.cells.toList (.own []) 0)∧Ext S S2∧S.next < S2.next :=
 ⟨_,rfl,by rw [zx.jJ,if_pos rfl],Ext.push _ _,by simp⟩
end Go.Abs
namespace Go.Proofs.Ytblpnklfimkfoaa
open Go.Abs
theorem bb0 (S:zx):jH zi 26 0 [] S=some (by_ 2 [],S):=by rw [kC];rfl
structure Tb where
 k:Nat
 b:List UInt8
structure Tb.Ok (t:Tb):Prop where
 okl:Okl t.k t.b
 ne:t.k≠2
 le:t.b.length≤140737488351232
def fB (t:Tb):List Value:=[by_ t.k t.b]
theorem ahK (x:(Ty.slc 1 (.int .u8)).Val) (hg:(Ty.slc 1 (.int .u8)).Good x):∃ t:Tb,(Ty.slc 1 (.int .u8)).J9 x=fB t∧t.Ok:=by
 obtain ⟨k,l,h1,h2,h3,h4⟩:=aaE x hg
 exact ⟨⟨k,l⟩,h3,h1,h2,h4⟩
end Go.Proofs.Ytblpnklfimkfoaa
namespace Go.Proofs.Ytblpnklfimkfoaa
open Go.Abs
def encs (l:List Int):List UInt8:=l.flatMap fun n=>enc (n+1).toNat
def abm (k:Nat) (l:List Int):Value:=if 64 < l.length∨∃ n ∈ l,n < -1 then .tuple #[.slice none 0 0,.int .i64 11] else .tuple #[by_ (if l=[] then k else 2) (encs l),.int .i64 0]
theorem Qb {n:Int} (h:-1≤n) (h2:n < 9223372036854775808):IntKind.u64.wrap (IntKind.u64.wrap n+1)=((n+1).toNat:Int):=by
 simp [IntKind.wrap,IntKind.bits,IntKind.signed]
 omega
theorem YB (a b:List Int):encs (a++b)=encs a++encs b:=by simp [encs]
theorem aaF (n:Int):encs [n]=enc (n+1).toNat:=by simp [encs]
theorem JE {l:List Int} (h:∀ n ∈ l,n < 9223372036854775808):(encs l).length≤l.length * 10:=by
 induction l with
 | nil=>simp [encs]
 | cons n l ih =>
  have h1:=ih fun m hm=>h m (by simp [hm])
  have h2:(enc (n+1).toNat).length≤10:=vw (by have:=h n (by simp);omega)
  simp only [encs,List.flatMap_cons,List.length_append,List.length_cons] at *
  omega
theorem jh.round {k:Nat} {l:List Int} (hv:Okl k l) (hk:k≠2) (h64:l.length≤64) (hb:∀ n ∈ l,n < 9223372036854775808) {S:zx}:∀ (suf pre:List Int) {T:List Value} {r:St},yQ (zI zi O false jh.jG) T S=r→T.length=26 →
  T.getD 10 zh=iz k l→T.getD 11 zh=.int .i64 l.length→T.getD 12 zh=.int .i64 pre.length→T.getD 4 zh=by_ (if pre=[] then 0 else 2) (encs pre)→l=pre++suf →
  ∃ e T',r=some (e,T',S)∧if (∃ n ∈ suf,n < -1) then e=.ret∧T'.getD 2 zh=.slice none 0 0∧T'.getD 3 zh=.int .i64 11 else e=.exit 0∧T'.length=26∧T'.getD 4 zh=by_ (if l=[] then 0 else 2) (encs l):=by
 intro suf
 induction suf with
 | nil =>
  intro pre T r hL hT ha hb hc h4 hl
  have hTe:=jh.eta hT
  rw [ha,hb,hc,h4] at hTe
  have hr:zI zi O false jh.jG T S=zI zi O false jh.jG T S:=rfl
  have hd:¬ (pre.length:Int) < (l.length:Int):=by rw [hl];simp
  conv at hr =>
   rhs
   rw [hTe]
   simp only [jh.jG,jh.code,jh.rs,zSs,reduceIte,zk,zn,zo,zq,hd]
  refine ⟨_,_,hL.symm.trans (jM hr (by simp)),?_⟩
  rw [if_neg (by simp)]
  simp only [List.append_nil] at hl
  subst hl
  exact ⟨rfl,rfl,rfl⟩
 | cons n suf ih =>
  intro pre T r hL hT ha hbb hc h4 hl
  have hTe:=jh.eta hT
  rw [ha,hbb,hc,h4] at hTe
  have hr:zI zi O false jh.jG T S=zI zi O false jh.jG T S:=rfl
  have hll:l.length=pre.length+(suf.length+1):=by rw [hl];simp
  have hlt:(pre.length:Int) < (l.length:Int):=by omega
  have e1:∀ S,jI zi 56 (iz k l) (.int .i64 pre.length) S=some (EP [.int .i64 n],S):=fun S=>by
   rw [aek hv (by omega) hlt];rw [Yr hl]
  have hn:=hb n (by rw [hl];simp)
  by_cases h1:n < -1
  ·
   conv at hr =>
    rhs
    rw [hTe]
    simp only [jh.jG,jh.code,jh.rs,zSs,reduceIte,zk,zn,zo,zq,hlt,e1,xH,h1]
   refine ⟨_,_,hL.symm.trans (jM hr (by simp)),?_⟩
   rw [if_pos ⟨n,by simp,h1⟩]
   exact ⟨rfl,rfl,rfl⟩
  ·
   have w1:=Qb (n:=n) (by omega) (by omega)
   have hpb:(encs pre).length≤pre.length * 10:=JE fun m hm=>hb m (by rw [hl];simp [hm])
   have hp10:(enc (n+1).toNat).length≤10:=vw (by omega)
   have hpp:=QX (n+1).toNat
   have g1:=fun S=>jT.v (n+1).toNat (by omega) S
   have e2:∀ S,jV zi 26 26 (by_ (if pre=[] then 0 else 2) (encs pre)) (by_ 2 (enc (n+1).toNat)) S=some (by_ 2 (encs (pre++[n])),S):=fun S=>by
    have ok:Okl (if pre=[] then 0 else 2) (encs pre):=⟨by split <;> omega,fun h=>by split at h <;> first | (rename_i hp;subst hp;rfl) | omega⟩
    rw [y9 ok (by split <;> omega) Okl.own (by omega),if_neg (fun h=>by have:=h.2;omega),YB,aaF]
   have wi:IntKind.i64.wrap ((pre.length:Int)+1)=((pre++[n]).length:Int):=by rw [wrap_i64 (by omega) (by omega)];simp
   conv at hr =>
    rhs
    rw [hTe]
    simp only [jh.jG,jh.code,jh.rs,zSs,reduceIte,zk,zn,zo,zq,hlt,e1,xH,h1,qH,w1,g1,e2,wi]
   obtain ⟨e,T',g1,g2⟩:=ih (pre++[n]) ((wL hr).symm.trans hL) rfl rfl rfl rfl (by rw [if_neg (show ¬ pre++[n]=[] by simp)];rfl) (by simp [hl])
   refine ⟨e,T',g1,?_⟩
   by_cases h2:∃ m ∈ suf,m < -1
   ·
    rw [if_pos h2] at g2
    obtain ⟨m,hm,hm2⟩:=h2
    rw [if_pos ⟨m,by simp [hm],hm2⟩]
    exact g2
   ·
    rw [if_neg h2] at g2
    rw [if_neg (by rintro ⟨m,hm,hm2⟩;rcases List.mem_cons.1 hm with rfl | hm;exact h1 hm2;exact h2 ⟨m,hm,hm2⟩)]
    exact g2
theorem jh.v {k:Nat} {l:List Int} (hv:Okl k l) (hk:k≠2) (hb:∀ n ∈ l,n < 9223372036854775808) (S:zx):jm zi O jh.id [iz k l] S=some (abm 0 l,S):=by
 obtain ⟨T,hTe⟩:∃ T,T=(iz k l::zh::zh::zh::zh::zh::zh::zh::zh::zh::zh::zh::zh::zh::zh::zh::zh::zh::zh::zh::zh::zh::zh::zh::zh::zh::[]):=⟨_,rfl⟩
 have hr:zI zi O false jh.code T S=zI zi O false jh.code T S:=rfl
 unfold abm
 by_cases h1:64 < l.length
 ·
  have d1:(64:Int) < (l.length:Int):=by omega
  conv at hr =>
   rhs
   rw [hTe]
   simp only [jh.code,jh.rs,zSs,reduceIte,zk,zn,zo,zq,if_neg hk,Xe hv,goInt,d1]
  rw [hTe] at hr
  rw [if_pos (.inl h1)]
  exact jh.runs hr (.inr rfl) (by simp only [List.getD_cons_succ,List.getD_cons_zero,je,zZ,zM,zT,zY]) (by simp only [List.getD_cons_succ,List.getD_cons_zero,je,zZ,zM,zT,zY])
 ·
  have d1:¬ (64:Int) < (l.length:Int):=by omega
  conv at hr =>
   rhs
   rw [hTe]
   simp only [jh.code,jh.rs,zSs,reduceIte,zk,zn,zo,zq,if_neg hk,Xe hv,goInt,d1,kC,adW]
  generalize hL:yQ (zI zi O false jh.jG) _ _=r at hr
  obtain ⟨e,T',rfl,g⟩:=jh.round hv hk (by omega) hb l [] hL rfl rfl rfl rfl rfl rfl
  by_cases h2:∃ n ∈ l,n < -1
  ·
   rw [if_pos h2] at g
   obtain ⟨rfl,g2,g3⟩:=g
   conv at hr =>
    rhs
    simp only [zSs,reduceIte,zk,zn,zo,zq]
   rw [hTe] at hr
   rw [if_pos (.inr h2)]
   have hrun:=jh.runs hr (.inr rfl) (by rw [g2];rfl) (by rw [g3];rfl)
   rw [g2,g3] at hrun
   exact hrun
  ·
   rw [if_neg h2] at g
   obtain ⟨rfl,g2,g3⟩:=g
   have hTe':=jh.eta g2
   rw [g3] at hTe'
   conv at hr =>
    rhs
    rw [hTe']
    simp only [jh.code,jh.rs,zSs,reduceIte,zk,zn,zo,zq]
   rw [hTe] at hr
   rw [if_neg (by rintro (h | h);exact h1 h;exact h2 h)]
   exact jh.runs hr (.inr rfl) (by simp only [List.getD_cons_succ,List.getD_cons_zero,je,zZ,zM,zT,zY]) (by simp only [List.getD_cons_succ,List.getD_cons_zero,je,zZ,zM,zT,zY])
theorem zC.round {k:Nat} {l:List Int} (hv:Okl k l) (hk:k≠2) (h64:l.length≤64) (hb:∀ n ∈ l,n < 9223372036854775808) {S:zx}:∀ (suf pre:List Int) {T:List Value} {r:St},yQ (zI zi O false zC.jG) T S=r→T.length=27 →
  T.getD 11 zh=iz k l→T.getD 12 zh=.int .i64 l.length→T.getD 13 zh=.int .i64 pre.length→T.getD 4 zh=by_ (if pre=[] then 2 else 2) (encs pre)→l=pre++suf →
  ∃ e T',r=some (e,T',S)∧if (∃ n ∈ suf,n < -1) then e=.ret∧T'.getD 2 zh=.slice none 0 0∧T'.getD 3 zh=.int .i64 11 else e=.exit 0∧T'.length=27∧T'.getD 4 zh=by_ (if l=[] then 2 else 2) (encs l):=by
 intro suf
 induction suf with
 | nil =>
  intro pre T r hL hT ha hb hc h4 hl
  have hTe:=zC.eta hT
  rw [ha,hb,hc,h4] at hTe
  have hr:zI zi O false zC.jG T S=zI zi O false zC.jG T S:=rfl
  have hd:¬ (pre.length:Int) < (l.length:Int):=by rw [hl];simp
  conv at hr =>
   rhs
   rw [hTe]
   simp only [zC.jG,zC.code,zC.rs,zSs,reduceIte,zk,zn,zo,zq,hd]
  refine ⟨_,_,hL.symm.trans (jM hr (by simp)),?_⟩
  rw [if_neg (by simp)]
  simp only [List.append_nil] at hl
  subst hl
  exact ⟨rfl,rfl,rfl⟩
 | cons n suf ih =>
  intro pre T r hL hT ha hbb hc h4 hl
  have hTe:=zC.eta hT
  rw [ha,hbb,hc,h4] at hTe
  have hr:zI zi O false zC.jG T S=zI zi O false zC.jG T S:=rfl
  have hll:l.length=pre.length+(suf.length+1):=by rw [hl];simp
  have hlt:(pre.length:Int) < (l.length:Int):=by omega
  have e1:∀ S,jI zi 56 (iz k l) (.int .i64 pre.length) S=some (EP [.int .i64 n],S):=fun S=>by
   rw [aek hv (by omega) hlt];rw [Yr hl]
  have hn:=hb n (by rw [hl];simp)
  by_cases h1:n < -1
  ·
   conv at hr =>
    rhs
    rw [hTe]
    simp only [zC.jG,zC.code,zC.rs,zSs,reduceIte,zk,zn,zo,zq,hlt,e1,xH,h1]
   refine ⟨_,_,hL.symm.trans (jM hr (by simp)),?_⟩
   rw [if_pos ⟨n,by simp,h1⟩]
   exact ⟨rfl,rfl,rfl⟩
  ·
   have w1:=Qb (n:=n) (by omega) (by omega)
   have hpb:(encs pre).length≤pre.length * 10:=JE fun m hm=>hb m (by rw [hl];simp [hm])
   have hp10:(enc (n+1).toNat).length≤10:=vw (by omega)
   have hpp:=QX (n+1).toNat
   have g1:=fun S=>zV.v (n+1).toNat (by omega) S
   have e2:∀ S,jV zi 26 26 (by_ (if pre=[] then 2 else 2) (encs pre)) (by_ 2 (enc (n+1).toNat)) S=some (by_ 2 (encs (pre++[n])),S):=fun S=>by
    have ok:Okl (if pre=[] then 2 else 2) (encs pre):=⟨by split <;> omega,fun h=>by split at h <;> first | (rename_i hp;subst hp;rfl) | omega⟩
    rw [y9 ok (by split <;> omega) Okl.own (by omega),if_neg (fun h=>by have:=h.2;omega),YB,aaF]
   have wi:IntKind.i64.wrap ((pre.length:Int)+1)=((pre++[n]).length:Int):=by rw [wrap_i64 (by omega) (by omega)];simp
   conv at hr =>
    rhs
    rw [hTe]
    simp only [zC.jG,zC.code,zC.rs,zSs,reduceIte,zk,zn,zo,zq,hlt,e1,xH,h1,qH,w1,g1,e2,wi]
   obtain ⟨e,T',g1,g2⟩:=ih (pre++[n]) ((wL hr).symm.trans hL) rfl rfl rfl rfl (by rw [if_neg (show ¬ pre++[n]=[] by simp)];rfl) (by simp [hl])
   refine ⟨e,T',g1,?_⟩
   by_cases h2:∃ m ∈ suf,m < -1
   ·
    rw [if_pos h2] at g2
    obtain ⟨m,hm,hm2⟩:=h2
    rw [if_pos ⟨m,by simp [hm],hm2⟩]
    exact g2
   ·
    rw [if_neg h2] at g2
    rw [if_neg (by rintro ⟨m,hm,hm2⟩;rcases List.mem_cons.1 hm with rfl | hm;exact h1 hm2;exact h2 ⟨m,hm,hm2⟩)]
    exact g2
theorem zC.v {k:Nat} {l:List Int} (hv:Okl k l) (hk:k≠2) (hb:∀ n ∈ l,n < 9223372036854775808) (S:zx):jm zi O zC.id [iz k l] S=some (abm 2 l,S):=by
 obtain ⟨T,hTe⟩:∃ T,T=(iz k l::zh::zh::zh::zh::zh::zh::zh::zh::zh::zh::zh::zh::zh::zh::zh::zh::zh::zh::zh::zh::zh::zh::zh::zh::zh::zh::[]):=⟨_,rfl⟩
 have hr:zI zi O false zC.code T S=zI zi O false zC.code T S:=rfl
 unfold abm
 by_cases h1:64 < l.length
 ·
  have d1:(64:Int) < (l.length:Int):=by omega
  conv at hr =>
   rhs
   rw [hTe]
   simp only [zC.code,zC.rs,zSs,reduceIte,zk,zn,zo,zq,if_neg hk,Xe hv,goInt,d1]
  rw [hTe] at hr
  rw [if_pos (.inl h1)]
  exact zC.runs hr (.inr rfl) (by simp only [List.getD_cons_succ,List.getD_cons_zero,je,zZ,zM,zT,zY]) (by simp only [List.getD_cons_succ,List.getD_cons_zero,je,zZ,zM,zT,zY])
 ·
  have d1:¬ (64:Int) < (l.length:Int):=by omega
  conv at hr =>
   rhs
   rw [hTe]
   simp only [zC.code,zC.rs,zSs,reduceIte,zk,zn,zo,zq,if_neg hk,Xe hv,goInt,d1,kC,adW]
  generalize hL:yQ (zI zi O false zC.jG) _ _=r at hr
  obtain ⟨e,T',rfl,g⟩:=zC.round hv hk (by omega) hb l [] hL rfl rfl rfl rfl rfl rfl
  by_cases h2:∃ n ∈ l,n < -1
  ·
   rw [if_pos h2] at g
   obtain ⟨rfl,g2,g3⟩:=g
   conv at hr =>
    rhs
    simp only [zSs,reduceIte,zk,zn,zo,zq]
   rw [hTe] at hr
   rw [if_pos (.inr h2)]
   have hrun:=zC.runs hr (.inr rfl) (by rw [g2];rfl) (by rw [g3];rfl)
   rw [g2,g3] at hrun
   exact hrun
  ·
   rw [if_neg h2] at g
   obtain ⟨rfl,g2,g3⟩:=g
   have hTe':=zC.eta g2
   rw [g3] at hTe'
   conv at hr =>
    rhs
    rw [hTe']
    simp only [zC.code,zC.rs,zSs,reduceIte,zk,zn,zo,zq]
   rw [hTe] at hr
   rw [if_neg (by rintro (h | h);exact h1 h;exact h2 h)]
   exact zC.runs hr (.inr rfl) (by simp only [List.getD_cons_succ,List.getD_cons_zero,je,zZ,zM,zT,zY]) (by simp only [List.getD_cons_succ,List.getD_cons_zero,je,zZ,zM,zT,zY])
end Go.Proofs.Ytblpnklfimkfoaa
namespace Go.Proofs.Ytblpnklfimkfoaa
open Go.Abs
def yV:Nat→List UInt8→Option (List Int×List UInt8)
 | 0,l=>some ([],l)
 | m+1,l=>match scan 0 0 l with
  | some (n,r)=>if n≤4611686018427387905 then (match yV m r with
   | some (a,b)=>some (((n:Int) - 1)::a,b)
   | none=>none) else none
  | none=>none
def Zy (k0 k1:Nat) (many:Int) (l:List UInt8):Value :=
 if many < 0∨64 < many then .tuple #[.slice none 0 0,.slice none 0 0,.int .i64 11]
 else match yV many.toNat l with
  | some (a,b)=>.tuple #[iz (if many=0 then k0 else 2) a,by_ (if many=0 then k1 else 2) b,.int .i64 0]
  | none=>.tuple #[.slice none 0 0,.slice none 0 0,.int .i64 11]
theorem zH.round {many:Int} (hmany:many≤64) {S:zx}:∀ (m:Nat) (i:Int) (rest:List UInt8) (kr:Nat) (out:List Int) (ko:Nat) {T:List Value} {r:St},yQ (zI zi O false zH.jG) T S=r→T.length=45 →
  T.getD 20 zh=.int .i64 many→T.getD 21 zh=.int .i64 i→T.getD 7 zh=by_ kr rest→T.getD 8 zh=iz ko out→0≤i→many=i+m→Okl kr rest→rest.length≤140737488355328→Okl ko out→ko≠1→(out.length:Int)=i →
  ∃ e T',r=some (e,T',S)∧match yV m rest with
   | none=>e=.ret∧T'.getD 4 zh=.slice none 0 0∧T'.getD 5 zh=.slice none 0 0∧T'.getD 6 zh=.int .i64 11
   | some (a,b)=>e=.exit 0∧T'.length=45∧T'.getD 8 zh=iz (if m=0 then ko else 2) (out++a)∧T'.getD 7 zh=by_ (if m=0 then kr else 2) b:=by
 intro m
 induction m with
 | zero =>
  intro i rest kr out ko T r hL hT h1 h2 h3 h4 h0 hm hkr hlen hko hk1 hol
  have hTe:=zH.eta hT
  rw [h1,h2,h3,h4] at hTe
  have hr:zI zi O false zH.jG T S=zI zi O false zH.jG T S:=rfl
  have hd:¬ i < many:=by omega
  conv at hr =>
   rhs
   rw [hTe]
   simp only [zH.jG,zH.code,zH.rs,zSs,reduceIte,zk,zn,zo,zq,hd]
  exact ⟨_,_,hL.symm.trans (jM hr (by simp)),rfl,rfl,by simp,rfl⟩
 | succ m ih =>
  intro i rest kr out ko T r hL hT h1 h2 h3 h4 h0 hm hkr hlen hko hk1 hol
  have hTe:=zH.eta hT
  rw [h1,h2,h3,h4] at hTe
  have hr:zI zi O false zH.jG T S=zI zi O false zH.jG T S:=rfl
  have hd:i < many:=by omega
  have g1:∀ S,jm zi O jc.id [by_ (if kr=2 then 1 else kr) rest] S=some (WJ rest,S):=jc.v hkr.dem (by split <;> omega) hlen
  unfold WJ at g1
  rw [yV]
  cases hsc:scan 0 0 rest with
  | none =>
   rw [hsc] at g1
   have d11:¬ (11:Int)=0:=by omega
   conv at hr =>
    rhs
    rw [hTe]
    simp only [zH.jG,zH.code,zH.rs,zSs,reduceIte,zk,zn,zo,zq,aeN,hd,g1,d11]
   exact ⟨_,_,hL.symm.trans (jM hr (by simp)),rfl,rfl,rfl,rfl⟩
  | some nr =>
   obtain ⟨n,r'⟩:=nr
   rw [hsc] at g1
   obtain ⟨hn,hrl⟩:=Yj rest 0 0 (by decide) (by omega) n r' hsc
   dsimp only
   by_cases h5:n≤4611686018427387905
   ·
    have d1:¬ (4611686018427387905:Int) < (n:Int):=by omega
    have w1:IntKind.i64.wrap (n:Int)=(n:Int):=wrap_i64 (by omega) (by omega)
    have w2:IntKind.i64.wrap ((n:Int) - 1)=(n:Int) - 1:=wrap_i64 (by omega) (by omega)
    have w3:IntKind.i64.wrap (i+1)=i+1:=wrap_i64 (by omega) (by omega)
    have e1:∀ x S,jV zi 56 56 (iz ko out) (iz 2 [x]) S=some (iz 2 (out++[x]),S):=fun x S=>ab2 hko hk1 (by omega)
    conv at hr =>
     rhs
     rw [hTe]
     simp only [zH.jG,zH.code,zH.rs,zSs,reduceIte,zk,zn,zo,zq,aeN,hd,g1,d1,xJ,w1,w2,w3,Qz,ahx,e1]
    obtain ⟨e,T',g2,g3⟩:=ih (i+1) r' 2 (out++[(n:Int) - 1]) 2 ((wL hr).symm.trans hL) rfl rfl rfl rfl rfl (by omega) (by omega) Okl.own (by omega) Okl.own (by decide) (by simp;omega)
    refine ⟨e,T',g2,?_⟩
    rw [if_pos h5]
    cases hrn:yV m r' with
    | none=>rw [hrn] at g3;exact g3
    | some ab =>
     obtain ⟨a,b⟩:=ab
     rw [hrn] at g3
     obtain ⟨q1,q2,q3,q4⟩:=g3
     refine ⟨q1,q2,?_,?_⟩
     ·
      rw [q3];simp
     ·
      rw [q4];simp
   ·
    have d1:(4611686018427387905:Int) < (n:Int):=by omega
    conv at hr =>
     rhs
     rw [hTe]
     simp only [zH.jG,zH.code,zH.rs,zSs,reduceIte,zk,zn,zo,zq,aeN,hd,g1,d1]
    refine ⟨_,_,hL.symm.trans (jM hr (by simp)),?_⟩
    rw [if_neg h5]
    exact ⟨rfl,rfl,rfl,rfl⟩
theorem zy.round {many:Int} (hmany:many≤64) {S:zx}:∀ (m:Nat) (i:Int) (rest:List UInt8) (kr:Nat) (out:List Int) (ko:Nat) {T:List Value} {r:St},yQ (zI zi O false zy.jG) T S=r→T.length=49 →
  T.getD 1 zh=.int .i64 many→T.getD 9 zh=.int .i64 i→T.getD 8 zh=by_ kr rest→T.getD 7 zh=iz ko out→0≤i→many=i+m→Okl kr rest→rest.length≤140737488355328→Okl ko out→ko≠1→(out.length:Int)=i →
  ∃ e T',r=some (e,T',S)∧match yV m rest with
   | none=>e=.ret∧T'.getD 4 zh=.slice none 0 0∧T'.getD 5 zh=.slice none 0 0∧T'.getD 6 zh=.int .i64 11
   | some (a,b)=>e=.exit 0∧T'.length=49∧T'.getD 7 zh=iz (if m=0 then ko else 2) (out++a)∧T'.getD 8 zh=by_ (if m=0 then kr else 2) b:=by
 intro m
 induction m with
 | zero =>
  intro i rest kr out ko T r hL hT h1 h2 h3 h4 h0 hm hkr hlen hko hk1 hol
  have hTe:=zy.eta hT
  rw [h1,h2,h3,h4] at hTe
  have hr:zI zi O false zy.jG T S=zI zi O false zy.jG T S:=rfl
  have hd:¬ i < many:=by omega
  conv at hr =>
   rhs
   rw [hTe]
   simp only [zy.jG,zy.code,zy.rs,zSs,reduceIte,zk,zn,zo,zq,hd]
  exact ⟨_,_,hL.symm.trans (jM hr (by simp)),rfl,rfl,by simp,rfl⟩
 | succ m ih =>
  intro i rest kr out ko T r hL hT h1 h2 h3 h4 h0 hm hkr hlen hko hk1 hol
  have hTe:=zy.eta hT
  rw [h1,h2,h3,h4] at hTe
  have hr:zI zi O false zy.jG T S=zI zi O false zy.jG T S:=rfl
  have hd:i < many:=by omega
  have g1:∀ S,jm zi O zB.id [by_ (if kr=2 then 1 else kr) rest] S=some (WJ rest,S):=zB.v hkr.dem (by split <;> omega) hlen
  unfold WJ at g1
  rw [yV]
  cases hsc:scan 0 0 rest with
  | none =>
   rw [hsc] at g1
   have d11:¬ (11:Int)=0:=by omega
   conv at hr =>
    rhs
    rw [hTe]
    simp only [zy.jG,zy.code,zy.rs,zSs,reduceIte,zk,zn,zo,zq,aeN,hd,g1,d11]
   exact ⟨_,_,hL.symm.trans (jM hr (by simp)),rfl,rfl,rfl,rfl⟩
  | some nr =>
   obtain ⟨n,r'⟩:=nr
   rw [hsc] at g1
   obtain ⟨hn,hrl⟩:=Yj rest 0 0 (by decide) (by omega) n r' hsc
   dsimp only
   by_cases h5:n≤4611686018427387905
   ·
    have d1:¬ (4611686018427387905:Int) < (n:Int):=by omega
    have w1:IntKind.i64.wrap (n:Int)=(n:Int):=wrap_i64 (by omega) (by omega)
    have w2:IntKind.i64.wrap ((n:Int) - 1)=(n:Int) - 1:=wrap_i64 (by omega) (by omega)
    have w3:IntKind.i64.wrap (i+1)=i+1:=wrap_i64 (by omega) (by omega)
    have e1:∀ x S,jV zi 56 56 (iz ko out) (iz 2 [x]) S=some (iz 2 (out++[x]),S):=fun x S=>ab2 hko hk1 (by omega)
    conv at hr =>
     rhs
     rw [hTe]
     simp only [zy.jG,zy.code,zy.rs,zSs,reduceIte,zk,zn,zo,zq,aeN,hd,g1,d1,xJ,w1,w2,w3,Qz,ahx,e1]
    obtain ⟨e,T',g2,g3⟩:=ih (i+1) r' 2 (out++[(n:Int) - 1]) 2 ((wL hr).symm.trans hL) rfl rfl rfl rfl rfl (by omega) (by omega) Okl.own (by omega) Okl.own (by decide) (by simp;omega)
    refine ⟨e,T',g2,?_⟩
    rw [if_pos h5]
    cases hrn:yV m r' with
    | none=>rw [hrn] at g3;exact g3
    | some ab =>
     obtain ⟨a,b⟩:=ab
     rw [hrn] at g3
     obtain ⟨q1,q2,q3,q4⟩:=g3
     refine ⟨q1,q2,?_,?_⟩
     ·
      rw [q3];simp
     ·
      rw [q4];simp
   ·
    have d1:(4611686018427387905:Int) < (n:Int):=by omega
    conv at hr =>
     rhs
     rw [hTe]
     simp only [zy.jG,zy.code,zy.rs,zSs,reduceIte,zk,zn,zo,zq,aeN,hd,g1,d1]
    refine ⟨_,_,hL.symm.trans (jM hr (by simp)),?_⟩
    rw [if_neg h5]
    exact ⟨rfl,rfl,rfl,rfl⟩
theorem zH.v {k:Nat} {l:List UInt8} {many:Int} (hv:Okl k l) (hk:k≠2) (hlen:l.length≤140737488355328) (S:zx):jm zi O zH.id [by_ k l,.int .i64 many] S=some (Zy 0 (if k=0 then 0 else 2) many l,S):=by
 obtain ⟨T,hTe⟩:∃ T,T=(by_ k l::.int .i64 many::zh::zh::zh::zh::zh::zh::zh::zh::zh::zh::zh::zh::zh::zh::zh::zh::zh::zh::zh::zh::zh::zh::zh::zh::zh::zh::zh::zh::zh::zh::zh::zh::zh::zh::zh::zh::zh::zh::zh::zh::zh::zh::zh::[]):=⟨_,rfl⟩
 have hr:zI zi O false zH.code T S=zI zi O false zH.code T S:=rfl
 have c1:∀ S,jm zi O 43 [by_ k l] S=some (by_ (if k=0 then 0 else 2) l,S):=slices_Clone.v hv hk hlen
 unfold Zy
 by_cases h1:many < 0
 ·
  conv at hr =>
   rhs
   rw [hTe]
   simp only [zH.code,zH.rs,zSs,reduceIte,zk,zn,zo,zq,h1]
  rw [hTe] at hr
  rw [if_pos (.inl h1)]
  exact zH.runs hr (.inr rfl) (by simp only [List.getD_cons_succ,List.getD_cons_zero,je,zZ,zM,zT,zY]) (by simp only [List.getD_cons_succ,List.getD_cons_zero,je,zZ,zM,zT,zY]) (by simp only [List.getD_cons_succ,List.getD_cons_zero,je,zZ,zM,zT,zY])
 ·
  by_cases h2:64 < many
  ·
   conv at hr =>
    rhs
    rw [hTe]
    simp only [zH.code,zH.rs,zSs,reduceIte,zk,zn,zo,zq,h1,h2]
   rw [hTe] at hr
   rw [if_pos (.inr h2)]
   exact zH.runs hr (.inr rfl) (by simp only [List.getD_cons_succ,List.getD_cons_zero,je,zZ,zM,zT,zY]) (by simp only [List.getD_cons_succ,List.getD_cons_zero,je,zZ,zM,zT,zY]) (by simp only [List.getD_cons_succ,List.getD_cons_zero,je,zZ,zM,zT,zY])
  ·
   rw [if_neg (by omega)]
   conv at hr =>
    rhs
    rw [hTe]
    simp only [zH.code,zH.rs,zSs,reduceIte,zk,zn,zo,zq,h1,h2,if_neg hk,c1]
   generalize hL:yQ (zI zi O false zH.jG) _ _=r at hr
   have okr:Okl (if k=0 then 0 else 2) l:=⟨by split <;> omega,fun h=>by split at h <;> first | (rename_i hp;exact hv.nil hp) | omega⟩
   obtain ⟨e,T',rfl,g⟩:=zH.round (many:=many) (by omega) many.toNat 0 l (if k=0 then 0 else 2) [] 0 hL rfl rfl rfl rfl rfl (by omega) (by omega) okr hlen Okl.none (by decide) rfl
   cases hrn:yV many.toNat l with
   | none =>
    rw [hrn] at g
    obtain ⟨rfl,g2,g3,g4⟩:=g
    conv at hr =>
     rhs
     simp only [zSs,reduceIte,zk,zn,zo,zq]
    rw [hTe] at hr
    have hrun:=zH.runs hr (.inr rfl) (by rw [g2];rfl) (by rw [g3];rfl) (by rw [g4];rfl)
    rw [g2,g3,g4] at hrun
    exact hrun
   | some ab =>
    obtain ⟨a,b⟩:=ab
    rw [hrn] at g
    obtain ⟨rfl,g2,g3,g4⟩:=g
    have hTe':=zH.eta g2
    rw [g3,g4] at hTe'
    have hz:(many.toNat=0) ↔ (many=0):=by omega
    simp only [hz,List.nil_append] at hTe'
    conv at hr =>
     rhs
     rw [hTe']
     simp only [zH.code,zH.rs,zSs,reduceIte,zk,zn,zo,zq]
    rw [hTe] at hr
    exact zH.runs hr (.inr rfl) (by simp only [List.getD_cons_succ,List.getD_cons_zero,je,zZ,zM,zT,zY]) (by simp only [List.getD_cons_succ,List.getD_cons_zero,je,zZ,zM,zT,zY]) (by simp only [List.getD_cons_succ,List.getD_cons_zero,je,zZ,zM,zT,zY])
theorem zy.v {k:Nat} {l:List UInt8} {many:Int} (hv:Okl k l) (hk:k≠2) (hlen:l.length≤140737488355328) (S:zx):jm zi O zy.id [by_ k l,.int .i64 many] S=some (Zy 2 2 many l,S):=by
 obtain ⟨T,hTe⟩:∃ T,T=(by_ k l::.int .i64 many::zh::zh::zh::zh::zh::zh::zh::zh::zh::zh::zh::zh::zh::zh::zh::zh::zh::zh::zh::zh::zh::zh::zh::zh::zh::zh::zh::zh::zh::zh::zh::zh::zh::zh::zh::zh::zh::zh::zh::zh::zh::zh::zh::zh::zh::zh::zh::[]):=⟨_,rfl⟩
 have hr:zI zi O false zy.code T S=zI zi O false zy.code T S:=rfl
 have c1:=fun S=>QV hv hlen (S:=S)
 unfold Zy
 by_cases h1:many < 0
 ·
  conv at hr =>
   rhs
   rw [hTe]
   simp only [zy.code,zy.rs,zSs,reduceIte,zk,zn,zo,zq,h1]
  rw [hTe] at hr
  rw [if_pos (.inl h1)]
  exact zy.runs hr (.inr rfl) (by simp only [List.getD_cons_succ,List.getD_cons_zero,je,zZ,zM,zT,zY]) (by simp only [List.getD_cons_succ,List.getD_cons_zero,je,zZ,zM,zT,zY]) (by simp only [List.getD_cons_succ,List.getD_cons_zero,je,zZ,zM,zT,zY])
 ·
  by_cases h2:64 < many
  ·
   conv at hr =>
    rhs
    rw [hTe]
    simp only [zy.code,zy.rs,zSs,reduceIte,zk,zn,zo,zq,h1,h2]
   rw [hTe] at hr
   rw [if_pos (.inr h2)]
   exact zy.runs hr (.inr rfl) (by simp only [List.getD_cons_succ,List.getD_cons_zero,je,zZ,zM,zT,zY]) (by simp only [List.getD_cons_succ,List.getD_cons_zero,je,zZ,zM,zT,zY]) (by simp only [List.getD_cons_succ,List.getD_cons_zero,je,zZ,zM,zT,zY])
  ·
   rw [if_neg (by omega)]
   conv at hr =>
    rhs
    rw [hTe]
    simp only [zy.code,zy.rs,zSs,reduceIte,zk,zn,zo,zq,h1,h2,if_neg hk,bz0,bb0,c1]
   generalize hL:yQ (zI zi O false zy.jG) _ _=r at hr
   obtain ⟨e,T',rfl,g⟩:=zy.round (many:=many) (by omega) many.toNat 0 l 2 [] 2 hL rfl rfl rfl rfl rfl (by omega) (by omega) Okl.own hlen Okl.own (by decide) rfl
   cases hrn:yV many.toNat l with
   | none =>
    rw [hrn] at g
    obtain ⟨rfl,g2,g3,g4⟩:=g
    conv at hr =>
     rhs
     simp only [zSs,reduceIte,zk,zn,zo,zq]
    rw [hTe] at hr
    have hrun:=zy.runs hr (.inr rfl) (by rw [g2];rfl) (by rw [g3];rfl) (by rw [g4];rfl)
    rw [g2,g3,g4] at hrun
    exact hrun
   | some ab =>
    obtain ⟨a,b⟩:=ab
    rw [hrn] at g
    obtain ⟨rfl,g2,g3,g4⟩:=g
    have hTe':=zy.eta g2
    rw [g3,g4] at hTe'
    simp only [ite_self,List.nil_append] at hTe'
    conv at hr =>
     rhs
     rw [hTe']
     simp only [zy.code,zy.rs,zSs,reduceIte,zk,zn,zo,zq]
    rw [hTe] at hr
    simp only [ite_self]
    exact zy.runs hr (.inr rfl) (by simp only [List.getD_cons_succ,List.getD_cons_zero,je,zZ,zM,zT,zY]) (by simp only [List.getD_cons_succ,List.getD_cons_zero,je,zZ,zM,zT,zY]) (by simp only [List.getD_cons_succ,List.getD_cons_zero,je,zZ,zM,zT,zY])
end Go.Proofs.Ytblpnklfimkfoaa
namespace Go.Proofs.Ytblpnklfimkfoaa
open Go.Abs
def Few (n:Int):Prop:=-1≤n∧n≤4611686018427387904
theorem ZN:∀ (m:Nat) (l:List UInt8) (a:List Int) (b:List UInt8),yV m l=some (a,b) ↔ a.length=m∧l=encs a++b∧∀ n ∈ a,Few n:=by
 intro m
 induction m with
 | zero =>
  intro l a b
  constructor
  ·
   intro h;cases h;exact ⟨rfl,rfl,fun n h=>by cases h⟩
  ·
   rintro ⟨h1,h2,_⟩
   have:a=[]:=List.length_eq_zero_iff.mp h1
   subst this
   rw [h2];rfl
 | succ m ih =>
  intro l a b
  rw [yV]
  constructor
  ·
   intro h
   cases hsc:scan 0 0 l with
   | none=>rw [hsc] at h;cases h
   | some nr =>
    obtain ⟨n,r⟩:=nr
    rw [hsc] at h
    dsimp only at h
    split at h
    ·
     rename_i hn
     cases hr:yV m r with
     | none=>rw [hr] at h;cases h
     | some ab =>
      obtain ⟨a',b'⟩:=ab
      rw [hr] at h
      obtain ⟨h1,h2,h3⟩:=(ih r a' b').mp hr
      cases h
      obtain ⟨f1,f2⟩:=XK hsc
      refine ⟨by simp [h1],?_,fun x hx=>?_⟩
      ·
       rw [f1,h2]
       have:((n:Int) - 1+1).toNat=n:=by omega
       simp [encs,this]
      ·
       rcases List.mem_cons.1 hx with rfl | hx
       ·
        unfold Few;omega
       ·
        exact h3 x hx
    ·
     cases h
  ·
   rintro ⟨h1,h2,h3⟩
   cases a with
   | nil=>simp at h1
   | cons x a =>
    have hx:Few x:=h3 x (by simp)
    unfold Few at hx
    have he:encs (x::a)++b=enc (x+1).toNat++(encs a++b):=by simp [encs]
    rw [h2,he,aar (by omega)]
    dsimp only
    rw [if_pos (by omega),(ih (encs a++b) a b).mpr ⟨by simpa using h1,rfl,fun n hn=>h3 n (by simp [hn])⟩]
    have:((x+1).toNat:Int) - 1=x:=by omega
    simp only [this]
theorem abf {m:Nat} {l:List UInt8} {a:List Int} {b:List UInt8} (h:yV m l=some (a,b)):a.length=m∧b.length≤l.length:=by
 obtain ⟨h1,h2,_⟩:=(ZN m l a b).mp h
 exact ⟨h1,by rw [h2];simp⟩
theorem aaD {k:Nat} {l:List Int} (h:l.length≤64) (h1:∀ n ∈ l,-1≤n) (h0:l≠[]):abm k l=.tuple #[by_ 2 (encs l),.int .i64 0]:=by
 unfold abm
 rw [if_neg (by rintro (h2 | ⟨n,h2,h3⟩);{ omega };{ have:=h1 n h2;omega }),if_neg h0]
theorem YM {k0 k1 m:Nat} {l:List UInt8} (h0:0 < m) (h:m≤64):Zy k0 k1 m l=match yV m l with
  | some (a,b)=>.tuple #[iz 2 a,by_ 2 b,.int .i64 0]
  | none=>.tuple #[.slice none 0 0,.slice none 0 0,.int .i64 11]:=by
 unfold Zy
 rw [if_neg (by omega),Int.toNat_natCast]
 have:(m:Int)≠0:=by omega
 simp only [if_neg this]
 all_goals (cases yV m l <;> rfl)
end Go.Proofs.Ytblpnklfimkfoaa
namespace Go.Abs
open Go.RowKit
def gv (x b:Bool) (v:Value):Value:=if x=b then v else zh
theorem afP (x b:Bool) (v:Value):dem (gv x b v)=gv x b (dem v):=by
 unfold gv;split
 ·
  rfl
 ·
  exact YL
theorem YK {R:Type} {K:Value→zx→Option R} {p:Jj K} {m:M Value} {S:zx} (x b:Bool):gdK (.bool x) b m S K p=if x=b then zU (m S) K p else K zh S:=by
 cases x <;> cases b <;> rfl
section
variable {R:Type} {K:Value→zx→Option R} {p:Jj K} {S:zx} {x b c y z:Bool} {m m':M Value} {P:Program} {O:Ora} {t:TypeId} {v w u:Value}
theorem wZ (h:x=b→m S=m' S):gdK (.bool x) b m S K p=gdK (.bool x) b m' S K p:=by
 rw [YK,YK]
 split
 ·
  rename_i hx;rw [h hx]
 ·
  rfl
theorem wB (h:m S=some (v,S)):gdK (.bool x) b m S K p=K (gv x b v) S:=by
 rw [YK]
 unfold gv
 split
 ·
  rw [h];rfl
 ·
  rfl
theorem Zx (h:x=b):gv x b v=v:=if_pos h
theorem ad1 {fx:Bool}:gdK (.bool x) b (jE P fx t (gv x b v)) S K p=gdK (.bool x) b (jE P fx t v) S K p:=wZ fun h=>by rw [Zx h]
theorem WI {f:Nat}:gdK (.bool x) b (zS P t (gv x b v) f) S K p=gdK (.bool x) b (zS P t v f) S K p:=wZ fun h=>by rw [Zx h]
theorem Ym:gdK (.bool x) b (wJ (gv x b v)) S K p=gdK (.bool x) b (wJ v) S K p:=wZ fun h=>by rw [Zx h]
theorem afr:gdK (.bool x) b (ku P t (gv x b v)) S K p=gdK (.bool x) b (ku P t v) S K p:=wZ fun h=>by rw [Zx h]
theorem Jw:gdK (.bool x) b (jI P t (gv x b v) w) S K p=gdK (.bool x) b (jI P t v w) S K p:=wZ fun h=>by rw [Zx h]
theorem JO:gdK (.bool x) b (jI P t v (gv x b w)) S K p=gdK (.bool x) b (jI P t v w) S K p:=wZ fun h=>by rw [Zx h]
theorem ahc {op:UnOp}:gdK (.bool x) b (aUn P op (gv x b v)) S K p=gdK (.bool x) b (aUn P op v) S K p:=wZ fun h=>by rw [Zx h]
theorem acA {hp dr:Bool} {t2:TypeId}:gdK (.bool x) b (wP P hp dr t t2 (gv x b v)) S K p=gdK (.bool x) b (wP P hp dr t t2 v) S K p:=wZ fun h=>by rw [Zx h]
theorem adR {op:BinOp}:gdK (.bool x) b (wu P op t (gv x b v) w) S K p=gdK (.bool x) b (wu P op t v w) S K p:=wZ fun h=>by rw [Zx h]
theorem abN {op:BinOp}:gdK (.bool x) b (wu P op t v (gv x b w)) S K p=gdK (.bool x) b (wu P op t v w) S K p:=wZ fun h=>by rw [Zx h]
theorem aaJ {g:FuncId} {l:List Value}:gdK (.bool x) b (jm P O g (gv x b v::l)) S K p=gdK (.bool x) b (jm P O g (v::l)) S K p:=wZ fun h=>by rw [Zx h]
theorem aaK {g:FuncId} {l:List Value}:gdK (.bool x) b (jm P O g (u::gv x b v::l)) S K p=gdK (.bool x) b (jm P O g (u::v::l)) S K p:=wZ fun h=>by rw [Zx h]
theorem XY {g:FuncId} {l:List Value}:gdK (.bool x) b (aev (jm P O) g (gv x b v::l)) S K p=gdK (.bool x) b (aev (jm P O) g (v::l)) S K p:=wZ fun h=>by rw [Zx h]
theorem XJ {g:FuncId} {l:List Value}:gdK (.bool x) b (aev (jm P O) g (u::gv x b v::l)) S K p=gdK (.bool x) b (aev (jm P O) g (u::v::l)) S K p:=wZ fun h=>by rw [Zx h]
theorem afh:gdK (.bool x) b (ret v) S K p=K (gv x b v) S:=wB rfl
theorem aha:gv x b (gv x b v)=gv x b v:=by unfold gv;split <;> rfl
theorem V7:gdK (gv x c (.bool y)) b m S K p=gdK (.bool ((x == c) && (y == b))) true m S K p:=by
 unfold gv
 cases x <;> cases c <;> cases y <;> cases b <;> rfl
theorem adB {fx:Bool}:gdK (.bool ((x == c) && (y == b))) true (jE P fx t (gv x c v)) S K p=gdK (.bool ((x == c) && (y == b))) true (jE P fx t v) S K p:=wZ fun h=>by rw [Zx (by simp at h;exact h.1)]
theorem ab9 {op:BinOp}:gdK (.bool ((x == c) && (y == b))) true (wu P op t (gv x c v) w) S K p=gdK (.bool ((x == c) && (y == b))) true (wu P op t v w) S K p:=wZ fun h=>by rw [Zx (by simp at h;exact h.1)]
theorem acy {op:BinOp}:gdK (.bool ((x == c) && (y == b))) true (wu P op t v (gv x c w)) S K p=gdK (.bool ((x == c) && (y == b))) true (wu P op t v w) S K p:=wZ fun h=>by rw [Zx (by simp at h;exact h.1)]
theorem afk:gdK (.bool x) c (ql (gv x c (.bool y)) (.bool true) (gv ((x == c) && (y == false)) true (.bool z))) S K p=K (gv x c (.bool (y || z))) S:=by
 unfold gv
 cases x <;> cases c <;> cases y <;> cases z <;> rfl
theorem abU:gdK (.bool x) c (ql (gv x c (.bool y)) (gv ((x == c) && (y == true)) true (.bool z)) (.bool false)) S K p=K (gv x c (.bool (y && z))) S:=by
 unfold gv
 cases x <;> cases c <;> cases y <;> cases z <;> rfl
theorem ahz:(if x=true then Value.bool true else gv x false (.bool y))=.bool (x || y):=by cases x <;> rfl
theorem afz:(if x=true then gv x true (.bool y) else Value.bool false)=.bool (x && y):=by cases x <;> rfl
theorem ahd:gv true true v=v:=rfl
theorem ag8:gv false false v=v:=rfl
theorem ahe:gv true false v=zh:=rfl
theorem ahh:gv false true v=zh:=rfl
theorem afp {k:IntKind} {a d:Int}:gdK (.bool x) b (wu P .lss t (.int k a) (.int k d)) S K p=K (gv x b (.bool (decide (a < d)))) S:=wB (KO k a d)
theorem afV {k:IntKind} {a d:Int}:gdK (.bool x) b (wu P .leq t (.int k a) (.int k d)) S K p=K (gv x b (.bool (decide (a≤d)))) S:=wB (QT k a d)
theorem afU {k:IntKind} {a d:Int}:gdK (.bool x) b (wu P .gtr t (.int k a) (.int k d)) S K p=K (gv x b (.bool (decide (d < a)))) S:=wB (KQ k a d)
theorem afn {k:IntKind} {a d:Int}:gdK (.bool x) b (wu P .geq t (.int k a) (.int k d)) S K p=K (gv x b (.bool (decide (d≤a)))) S:=wB (KA k a d)
theorem afN {k:IntKind} {a d:Int}:gdK (.bool x) b (wu P .eql t (.int k a) (.int k d)) S K p=K (gv x b (.bool (decide (a=d)))) S:=wB (QY k a d)
theorem afS {k:IntKind} {a d:Int}:gdK (.bool x) b (wu P .neq t (.int k a) (.int k d)) S K p=K (gv x b (.bool (!decide (a=d)))) S:=wB (QO k a d)
theorem afm {k:IntKind} {a d:Int}:gdK (.bool x) b (wu P .add t (.int k a) (.int k d)) S K p=K (gv x b (.int k (k.wrap (a+d)))) S:=wB (QI k a d)
theorem afl {k:IntKind} {a d:Int}:gdK (.bool x) b (wu P .sub t (.int k a) (.int k d)) S K p=K (gv x b (.int k (k.wrap (a - d)))) S:=wB (KL k a d)
theorem afe:gdK (.bool x) b (aUn P .not (.bool y)) S K p=K (gv x b (.bool (!y))) S:=wB (by cases y <;> rfl)
end
theorem gvw:type_of% (aij @afP (aij @ad1 (aij @WI (aij @Ym (aij @afr (aij @Jw (aij @JO (aij @ahc (aij @acA (aij @adR (aij @abN (aij @aaJ (aij @aaK (aij @XY (aij @XJ (aij @afh (aij @aha (aij @V7 (aij @adB (aij @ab9 (aij @acy (aij @afk (aij @abU (aij @ahz (aij @afz (aij @ahd (aij @ag8 (aij @ahe (aij @ahh (aij @afp (aij @afV (aij @afU (aij @afn (aij @afN (aij @afS (aij @afm (aij @afl @afe))))))))))))))))))))))))))))))))))))) :=
 aij @afP (aij @ad1 (aij @WI (aij @Ym (aij @afr (aij @Jw (aij @JO (aij @ahc (aij @acA (aij @adR (aij @abN (aij @aaJ (aij @aaK (aij @XY (aij @XJ (aij @afh (aij @aha (aij @V7 (aij @adB (aij @ab9 (aij @acy (aij @afk (aij @abU (aij @ahz (aij @afz (aij @ahd (aij @ag8 (aij @ahe (aij @ahh (aij @afp (aij @afV (aij @afU (aij @afn (aij @afN (aij @afS (aij @afm (aij @afl @afe))))))))))))))))))))))))))))))))))))
end Go.Abs
namespace Go.Proofs.Ytblpnklfimkfoaa
open Go.Abs
structure yZ where
 kind:Int
 index:Int
 view:Int
 value:Int
 k:Nat
 txt:List UInt8
def fR (r:yZ):List Value:=[.int .i64 r.kind,.int .i64 r.index,.int .i64 r.view,.int .i64 r.value,by_ r.k r.txt]
abbrev rv (r:yZ):Value:=.agg [Value.int .i64 r.kind,.int .i64 r.index,.int .i64 r.view,.int .i64 r.value,by_ r.k r.txt].toArray
def Big (n:Int):Prop:=-9223372036854775808≤n∧n < 9223372036854775808
structure yZ.Ok (r:yZ):Prop where
 okl:Okl r.k r.txt
 ne:r.k≠2
 len:r.txt.length≤140737488351232
 kind:Big r.kind
 index:Big r.index
 view:Big r.view
 value:Big r.value
abbrev rz:yZ:=⟨0,0,0,0,0,[]⟩
theorem XV:rz.Ok:=by
 have z:Big 0:=⟨by omega,by omega⟩
 exact ⟨Okl.none,by decide,by simp,z,z,z,z⟩
theorem afw (r:yZ):(fR r).length=5:=rfl
theorem vF {r:yZ} {d:Nat} (h:r.k≤2):jD (d+6) (rv r)=true:=by
 have h1:jD (d+5) (by_ r.k r.txt)=true:=WR (d:=d+1) h fun _ _=>rfl
 refine acd ?_
 simp only [List.all_cons,List.all_nil,h1,Bool.and_true]
 rfl
theorem agd (r:yZ):(fR r).all (·.oneCell')=true:=by
 simp only [fR,List.all_cons,List.all_nil,acf,aaI,Bool.and_true]
theorem adz (r:yZ):okq 3 (rv r)=true:=by
 have h:okq 2 (by_ r.k r.txt)=true:=by unfold by_ vs sv;split <;> rfl
 simp only [okq,List.toList_toArray,List.all_cons,List.all_nil,h,Bool.and_true]
section
variable {S:zx} {q e:Nat} {m:yZ} {own:Own}
theorem aaS (h:S.get q=some (.cells (fR m) own e)):jE zi false 3 (.pointer (some ⟨q,0+0,none⟩)) S=some (.int .i64 m.kind,S):=qU (t:=3) (o:=0+0) h JW rfl
theorem Xc (h:S.get q=some (.cells (fR m) own e)):jE zi false 3 (.pointer (some ⟨q,0+1,none⟩)) S=some (.int .i64 m.index,S):=qU (t:=3) (o:=0+1) h JW rfl
theorem Xf (h:S.get q=some (.cells (fR m) own e)):jE zi false 3 (.pointer (some ⟨q,0+2,none⟩)) S=some (.int .i64 m.view,S):=qU (t:=3) (o:=0+2) h JW rfl
theorem XU (h:S.get q=some (.cells (fR m) own e)):jE zi false 3 (.pointer (some ⟨q,0+3,none⟩)) S=some (.int .i64 m.value,S):=qU (t:=3) (o:=0+3) h JW rfl
theorem KX (h:S.get q=some (.cells (fR m) own e)) (hk:m.k≠2):jE zi false 26 (.pointer (some ⟨q,0+4,none⟩)) S=some (by_ m.k m.txt,S):=by
 rw [ZR (o:=0+4) (v:=by_ m.k m.txt) h qg rfl (fun l h=>by unfold by_ vs sv at h;split at h <;> cases h),Qm,if_neg hk]
theorem WU (h:S.get q=some (.cells (fR m) own e)) (hk:m.k≠2):jE zi false 28 (.pointer (some ⟨q,0,none⟩)) S=some (rv m,S):=by
 rw [aaY h]
 simp only [WS,Vz,if_neg hk]
end
abbrev ad2 (m:yZ):zx:=zx.empty.push (.cells (fR m) (.own []) 0)
theorem agO (m:yZ):JV (rv m) zx.empty=some (.pointer (some ⟨0,0,none⟩),ad2 m):=rfl
theorem JQ (m:yZ):(ad2 m).get 0=some (.cells (fR m) (.own []) 0):=rfl
abbrev JX (a b:yZ):zx:=(ad2 a).push (.cells (fR b) (.own []) 0)
theorem ahS (a b:yZ):JV (rv b) (ad2 a)=some (.pointer (some ⟨1,0,none⟩),JX a b):=by kernel_rfl
theorem Vg (a b:yZ):(JX a b).get 0=some (.cells (fR a) (.own []) 0):=by kernel_rfl
theorem Vt (a b:yZ):(JX a b).get 1=some (.cells (fR b) (.own []) 0):=by kernel_rfl
theorem aeK (S:zx):yS zi 28 S=some (.pointer (some ⟨S.next,0,none⟩),S.push (.cells (fR rz) (.own []) 0)):=by kernel_rfl
abbrev acK (S:zx) (q:Nat) (x:yZ):zx:=(S.kills []).set q (.cells (fR x) (.own []) 0)
theorem qG (S:zx) (q:Nat) (x:yZ):(acK S q x).get q=some (.cells (fR x) (.own []) 0):=by rw [zx.jS,if_pos rfl]
theorem Vf {S:zx} {q k:Nat} {x:yZ} (h:k≠q):(acK S q x).get k=S.get k:=by rw [zx.jS,if_neg h];rfl
theorem aeR {S:zx} {q:Nat} {x:yZ} (h:S.get q=some (.cells (fR x) (.own []) 0)) (y:yZ):wz zi 28 (.pointer (some ⟨q,0,none⟩)) (rv y) S=some (zh,acK S q y):=by
 rw [xg (x:=rv y) (n:=5) h vg (by rw [yH];rfl) (by rw [yH,List.toList_toArray];exact agd y) (by simp [fR]),yH,List.toList_toArray];rfl
theorem VU (m:yZ) (S:zx):∃ S2,wz zi 28 (.pointer (some ⟨S.next,0,none⟩)) (rv m) (S.push (.cells (fR rz) (.own []) 0))=some (zh,S2)∧S2.get S.next=some (.cells (fR m) (.own []) 0)∧Ext S S2∧S.next < S2.next :=
 Yg S (by rw [yH];rfl) vg rfl (agd m)
theorem ac4 (m:yZ) (S:zx):∃ S2,JV (rv m) S=some (.pointer (some ⟨S.next,0,none⟩),S2)∧S2.get S.next=some (.cells (fR m) (.own []) 0)∧Ext S S2∧S.next < S2.next:=abP (rv m) S
def Xr (n:Int):Bool:=decide (-1≤n) && decide (n≤1073741824)
def vN (r:yZ):List Int:=[r.kind,r.index,r.view,r.value]
def wM (r:yZ):Bool:=(vN r).all Xr && decide ((r.txt.length:Int)≤1024)
theorem WM {n:Int}:Xr n=true ↔ -1≤n∧n≤1073741824:=by simp [Xr]
theorem xP {r:yZ} (h:wM r=true):(∀ n ∈ vN r,-1≤n∧n≤1073741824)∧r.txt.length≤1024:=by
 unfold wM at h
 rw [Bool.and_eq_true,List.all_eq_true,decide_eq_true_eq] at h
 exact ⟨fun n hn=>WM.1 (h.1 n hn),by omega⟩
theorem jy.v (n:Int) (S:zx):jm zi O jy.id [.int .i64 n] S=some (.bool (Xr n),S):=by
 obtain ⟨T,hTe⟩:∃ T,T=(.int .i64 n::zh::zh::zh::zh::zh::zh::zh::zh::[]):=⟨_,rfl⟩
 have hr:zI zi O false jy.code T S=zI zi O false jy.code T S:=rfl
 conv at hr =>
  rhs
  rw [hTe]
  simp only [jy.code,jy.rs,zSs,reduceIte,zk,zn,zo,zq,gvw]
 rw [hTe] at hr
 exact jy.runs hr (.inr rfl)
theorem bs4 (a b c d:Int) (S:zx):jH zi 56 4 [(0,.int .i64 a),(1,.int .i64 b),(2,.int .i64 c),(3,.int .i64 d)] S=some (iz 2 [a,b,c,d],S):=by kernel_rfl
theorem zL.round {k:Nat} {l:List Int} (hk:Okl k l) (hl:l.length=4) {S:zx}:∀ (suf pre:List Int) {T:List Value} {r:St},yQ (zI zi O false zL.jG) T S=r→T.length=30 →
  T.getD 13 zh=iz k l→T.getD 14 zh=.int .i64 4→T.getD 15 zh=.int .i64 pre.length→l=pre++suf →
  ∃ e T',r=some (e,T',S)∧if suf.all Xr then e=.exit 0∧T'.length=30∧T'.getD 1 zh=T.getD 1 zh else e=.ret∧T'.getD 2 zh=.bool false:=by
 intro suf
 induction suf with
 | nil =>
  intro pre T r hL hT h13 h14 h15 hpre
  have hTe:=zL.eta hT
  rw [h13,h14,h15] at hTe
  have hr:zI zi O false zL.jG T S=zI zi O false zL.jG T S:=rfl
  have d1:¬ (pre.length:Int) < 4:=by rw [hpre] at hl;simp at hl;omega
  conv at hr =>
   rhs
   rw [hTe]
   simp only [zL.jG,zL.code,zL.rs,zSs,reduceIte,zk,zn,zo,zq,d1]
  exact ⟨_,_,hL.symm.trans (jM hr (by simp)),rfl,rfl,rfl⟩
 | cons x suf ih =>
  intro pre T r hL hT h13 h14 h15 hpre
  have hTe:=zL.eta hT
  rw [h13,h14,h15] at hTe
  have hr:zI zi O false zL.jG T S=zI zi O false zL.jG T S:=rfl
  have d1:(pre.length:Int) < 4:=by rw [hpre] at hl;simp at hl;omega
  have e1:∀ S,jI zi 56 (iz k l) (.int .i64 pre.length) S=some (EP [.int .i64 x],S):=fun S=>by
   rw [aek hk (by omega) (by omega)];rw [Yr hpre]
  have wi:IntKind.i64.wrap ((pre.length:Int)+1)=((pre++[x]).length:Int):=by rw [wrap_i64 (by omega) (by omega)];simp
  rw [List.all_cons]
  by_cases h1:x < -1
  ·
   have hx:Xr x=false:=by rw [Bool.eq_false_iff];intro h;have:=WM.1 h;omega
   rw [hx,Bool.false_and]
   conv at hr =>
    rhs
    rw [hTe]
    simp only [zL.jG,zL.code,zL.rs,zSs,reduceIte,zk,zn,zo,zq,d1,e1,xH,decide_eq_true h1]
   exact ⟨_,_,hL.symm.trans (jM hr (by simp)),rfl,rfl⟩
  ·
   by_cases h2:1073741824 < x
   ·
    have hx:Xr x=false:=by rw [Bool.eq_false_iff];intro h;have:=WM.1 h;omega
    rw [hx,Bool.false_and]
    conv at hr =>
     rhs
     rw [hTe]
     simp only [zL.jG,zL.code,zL.rs,zSs,reduceIte,zk,zn,zo,zq,d1,e1,xH,decide_eq_false h1,decide_eq_true h2]
    exact ⟨_,_,hL.symm.trans (jM hr (by simp)),rfl,rfl⟩
   ·
    have hx:Xr x=true:=WM.2 (by omega)
    rw [hx,Bool.true_and]
    conv at hr =>
     rhs
     rw [hTe]
     simp only [zL.jG,zL.code,zL.rs,zSs,reduceIte,zk,zn,zo,zq,d1,e1,xH,decide_eq_false h1,decide_eq_false h2,wi]
    obtain ⟨e,T',g1,g2⟩:=ih (pre++[x]) ((wL hr).symm.trans hL) rfl rfl rfl rfl (by simp [hpre])
    exact ⟨e,T',g1,g2⟩
theorem zL.v {r:yZ} (hr0:r.Ok) (S:zx):jm zi O zL.id [rv r] S=some (.bool (wM r),S):=by
 obtain ⟨T,hTe⟩:∃ T,T=(rv r::zh::zh::zh::zh::zh::zh::zh::zh::zh::zh::zh::zh::zh::zh::zh::zh::zh::zh::zh::zh::zh::zh::zh::zh::zh::zh::zh::zh::zh::[]):=⟨_,rfl⟩
 have hr:zI zi O false zL.code T zx.empty=zI zi O false zL.code T zx.empty:=rfl
 have g0:=JQ r
 have hc:[rv r].all (jD 16)=true:=all1 (vF hr0.okl.le)
 have ln:∀ S,ku zi 56 (iz 2 [r.kind,r.index,r.view,r.value]) S=some (.int .i64 4,S):=fun S=>Xe Okl.own
 conv at hr =>
  rhs
  rw [hTe]
  simp only [zL.code,zL.rs,zSs,reduceIte,zk,zn,zo,zq,agO,kZ,qE,qy,qw,aaS g0,Xc g0,Xf g0,XU g0,bs4,ln]
 generalize hL:yQ (zI zi O false zL.jG) _ _=w at hr
 obtain ⟨e,T',rfl,g⟩:=zL.round (Okl.own (l:=[r.kind,r.index,r.view,r.value])) rfl [r.kind,r.index,r.view,r.value] [] hL rfl rfl rfl rfl rfl
 unfold wM vN
 cases h:[r.kind,r.index,r.view,r.value].all Xr with
 | true =>
  rw [h] at g
  obtain ⟨rfl,g2,g3⟩:=g
  have g3:T'.getD 1 zh=.pointer (some ⟨0,0,none⟩):=g3
  have hTe':=zL.eta g2
  rw [g3] at hTe'
  have lt:∀ S,ku zi 26 (by_ r.k r.txt) S=some (.int .i64 r.txt.length,S):=fun S=>yX hr0.okl
  conv at hr =>
   rhs
   rw [hTe']
   simp only [zL.code,zL.rs,zSs,reduceIte,zk,zn,zo,zq,qx,KX g0 hr0.ne,lt]
  rw [hTe] at hr
  rw [Bool.true_and]
  exact zL.runs hr (.inr rfl) hc rfl
 | false =>
  rw [h] at g
  obtain ⟨rfl,g2⟩:=g
  conv at hr =>
   rhs
   simp only [zSs,reduceIte,zk,zn,zo,zq]
  rw [hTe] at hr
  have hrun:=zL.runs (S:=S) hr (.inr rfl) hc (by rw [g2];rfl)
  rw [g2] at hrun
  rw [Bool.false_and]
  exact hrun
def JD (r:yZ):List UInt8:=encs (vN r)++YI r.txt
def yC (r:yZ):List UInt8:=YI (JD r)
def VN (r:yZ):Value:=if wM r then .tuple #[by_ 2 (yC r),.int .i64 0] else .tuple #[.slice none 0 0,.int .i64 51]
theorem WL {l:List UInt8} (h:l.length≤1000000000):(YI l).length≤l.length+10:=by
 unfold YI
 have:=vw (n:=l.length) (by omega)
 rw [List.length_append];omega
theorem ZH {r:yZ} (h:wM r=true):(JD r).length≤1100:=by
 obtain ⟨h1,h2⟩:=xP h
 have e1:(encs (vN r)).length≤40:=JE (l:=vN r) (fun n hn=>by have:=h1 n hn;omega)
 have e2:=WL (l:=r.txt) (by omega)
 unfold JD
 rw [List.length_append];omega
theorem aak {r:yZ} (h:wM r=true):(yC r).length≤1200:=by
 have:=ZH h
 have:=WL (l:=JD r) (by omega)
 unfold yC;omega
theorem ZJ (r:yZ):0 < (yC r).length:=by
 unfold yC YI
 have:=QX (JD r).length
 rw [List.length_append];omega
theorem ji.w {r:yZ} (hr0:r.Ok) (hR:wM r=true):(∀ S,jm zi O 32 [iz 1 [r.kind,r.index,r.view,r.value]] S=some (.tuple #[by_ 2 (encs (vN r)),.int .i64 0],S))∧(∀ S,jm zi O 33 [by_ r.k r.txt] S=some (.tuple #[by_ 2 (YI r.txt),.int .i64 0],S)) ∧
  (∀ S,jm zi O 33 [by_ 1 (JD r)] S=some (.tuple #[by_ 2 (yC r),.int .i64 0],S))∧(∀ S,jV zi 26 26 (by_ 2 (encs (vN r))) (by_ 1 (YI r.txt)) S=some (by_ 2 (JD r),S)):=by
 obtain ⟨few,hl⟩:=xP hR
 have hi:=ZH hR
 have el:=WL (l:=r.txt) (by omega)
 refine ⟨fun S=>?_,fun S=>?_,fun S=>?_,fun S=>?_⟩
 ·
  rw [jh.v (l:=[r.kind,r.index,r.view,r.value]) Okl.read (by decide) (fun n hn=>by have:=few n hn;omega) S,aaD (l:=[r.kind,r.index,r.view,r.value]) (by simp) (fun n hn=>(few n hn).1) (by simp)];rfl
 ·
  rw [wE.v hr0.okl hr0.ne S,Xz,if_neg (by omega)]
 ·
  rw [wE.v (l:=JD r) Okl.read (by decide) S,Xz,if_neg (by omega)];rfl
 ·
  have e1:(encs (vN r)).length≤40:=JE (l:=vN r) (fun n hn=>by have:=few n hn;omega)
  rw [y9 Okl.own (by decide) Okl.read (by omega),if_neg (by omega)];rfl
theorem zN.w {r:yZ} (hr0:r.Ok) (hR:wM r=true):(∀ S,jm zi O 35 [iz 1 [r.kind,r.index,r.view,r.value]] S=some (.tuple #[by_ 2 (encs (vN r)),.int .i64 0],S))∧(∀ S,jm zi O 36 [by_ r.k r.txt] S=some (.tuple #[by_ 2 (YI r.txt),.int .i64 0],S)) ∧
  (∀ S,jm zi O 36 [by_ 1 (JD r)] S=some (.tuple #[by_ 2 (yC r),.int .i64 0],S))∧(∀ S,jV zi 26 26 (by_ 2 (encs (vN r))) (by_ 1 (YI r.txt)) S=some (by_ 2 (JD r),S)):=by
 obtain ⟨few,hl⟩:=xP hR
 have hi:=ZH hR
 have el:=WL (l:=r.txt) (by omega)
 refine ⟨fun S=>?_,fun S=>?_,fun S=>?_,fun S=>?_⟩
 ·
  rw [zC.v (l:=[r.kind,r.index,r.view,r.value]) Okl.read (by decide) (fun n hn=>by have:=few n hn;omega) S,aaD (l:=[r.kind,r.index,r.view,r.value]) (by simp) (fun n hn=>(few n hn).1) (by simp)];rfl
 ·
  rw [jv.v hr0.okl hr0.ne S,Xz,if_neg (by omega)]
 ·
  rw [jv.v (l:=JD r) Okl.read (by decide) S,Xz,if_neg (by omega)];rfl
 ·
  have e1:(encs (vN r)).length≤40:=JE (l:=vN r) (fun n hn=>by have:=few n hn;omega)
  rw [y9 Okl.own (by decide) Okl.read (by omega),if_neg (by omega)];rfl
theorem ji.v {r:yZ} (hr0:r.Ok) (S:zx):jm zi O ji.id [rv r] S=some (VN r,S):=by
 obtain ⟨T,hTe⟩:∃ T,T=(rv r::zh::zh::zh::zh::zh::zh::zh::zh::zh::zh::zh::zh::zh::zh::zh::zh::zh::zh::zh::zh::zh::zh::zh::zh::zh::zh::zh::zh::zh::zh::zh::zh::zh::zh::zh::zh::zh::zh::zh::zh::zh::[]):=⟨_,rfl⟩
 have hr:zI zi O false ji.code T zx.empty=zI zi O false ji.code T zx.empty:=rfl
 have g0:=JQ r
 have hc:[rv r].all (jD 16)=true:=all1 (vF hr0.okl.le)
 have c0:=fun S=>zL.v hr0 S
 unfold VN
 cases hR:wM r
 ·
  rw [hR] at c0
  conv at hr =>
   rhs
   rw [hTe]
   simp only [ji.code,ji.rs,zSs,reduceIte,zk,zn,zo,zq,agO,WU g0 hr0.ne,c0]
  rw [hTe] at hr
  exact ji.runs hr (.inr rfl) rfl rfl hc rfl
 ·
  rw [hR] at c0
  obtain ⟨w1,w2,w3,w4⟩:=ji.w hr0 hR
  conv at hr =>
   rhs
   rw [hTe]
   simp only [ji.code,ji.rs,zSs,reduceIte,zk,zn,zo,zq,agO,WU g0 hr0.ne,c0,kZ,qE,qy,qw,qx,aaS g0,Xc g0,Xf g0,XU g0,KX g0 hr0.ne,if_neg hr0.ne,bs4,w1,w2,w3,w4]
  rw [hTe] at hr
  exact ji.runs hr (.inr rfl) (by simp only [List.getD_cons_succ,List.getD_cons_zero,je,zZ,zM,zT,zY]) rfl hc (kS (all2 (vH (k:=2) (Nat.le_refl 2)) rfl))
theorem zN.v {r:yZ} (hr0:r.Ok) (S:zx):jm zi O zN.id [rv r] S=some (VN r,S):=by
 obtain ⟨T,hTe⟩:∃ T,T=(rv r::zh::zh::zh::zh::zh::zh::zh::zh::zh::zh::zh::zh::zh::zh::zh::zh::zh::zh::zh::zh::zh::zh::zh::zh::zh::zh::zh::zh::zh::zh::zh::zh::zh::zh::zh::zh::zh::zh::zh::zh::zh::zh::zh::zh::zh::zh::zh::zh::zh::zh::zh::zh::zh::zh::zh::zh::zh::zh::zh::zh::zh::zh::zh::zh::[]):=⟨_,rfl⟩
 have hr:zI zi O false zN.code T zx.empty=zI zi O false zN.code T zx.empty:=rfl
 have g0:=JQ r
 have hc:[rv r].all (jD 16)=true:=all1 (vF hr0.okl.le)
 have lt:∀ S,ku zi 26 (by_ r.k r.txt) S=some (.int .i64 r.txt.length,S):=fun S=>yX hr0.okl
 have e:((((!Xr r.kind) || !Xr r.index) || !Xr r.view) || !Xr r.value || decide (1024 < (r.txt.length:Int)))=!wM r:=by
  unfold wM vN
  simp only [List.all_cons,List.all_nil,Bool.and_true]
  have:decide (1024 < (r.txt.length:Int))=!decide ((r.txt.length:Int)≤1024):=by rw [← decide_not,decide_eq_decide];omega
  rw [this]
  cases Xr r.kind <;> cases Xr r.index <;> cases Xr r.view <;> cases Xr r.value <;> rfl
 unfold VN
 cases hR:wM r
 ·
  rw [hR] at e
  conv at hr =>
   rhs
   rw [hTe]
   simp only [zN.code,zN.rs,zSs,reduceIte,zk,zn,zo,zq,agO,kZ,qE,qy,qw,qx,aaS g0,Xc g0,Xf g0,XU g0,KX g0 hr0.ne,jy.v,wB (qE _ _ _),wB (qy _ _ _),wB (qw _ _ _),wB (qx _ _ _),wB (Xc g0),wB (Xf g0),wB (XU g0),wB (KX g0 hr0.ne),wB (jy.v _ _),wB (lt _),gvw,e,Bool.not_false]
  rw [hTe] at hr
  exact zN.runs hr (.inr rfl) rfl rfl hc rfl
 ·
  rw [hR] at e
  obtain ⟨w1,w2,w3,w4⟩:=zN.w hr0 hR
  conv at hr =>
   rhs
   rw [hTe]
   simp only [zN.code,zN.rs,zSs,reduceIte,zk,zn,zo,zq,agO,kZ,qE,qy,qw,qx,aaS g0,Xc g0,Xf g0,XU g0,KX g0 hr0.ne,jy.v,wB (qE _ _ _),wB (qy _ _ _),wB (qw _ _ _),wB (qx _ _ _),wB (Xc g0),wB (Xf g0),wB (XU g0),wB (KX g0 hr0.ne),wB (jy.v _ _),wB (lt _),gvw,e,Bool.not_true,if_neg hr0.ne,bs4,w1,w2,w3,w4]
  rw [hTe] at hr
  exact zN.runs hr (.inr rfl) (by simp only [List.getD_cons_succ,List.getD_cons_zero,je,zZ,zM,zT,zY]) rfl hc (kS (all2 (vH (k:=2) (Nat.le_refl 2)) rfl))
end Go.Proofs.Ytblpnklfimkfoaa
namespace Go.Proofs.Ytblpnklfimkfoaa
open Go.Abs
theorem WA {k:Nat} {l:List Int} {i:Int} {x:Int} {m:Nat} (h:Okl k l) (hi:i=(m:Int)) (hx:l[m]?=some x) (S:zx):jI zi 56 (iz k l) (.int .i64 i) S=some (EP [.int .i64 x],S):=by
 obtain ⟨h1,h2⟩:=List.getElem?_eq_some_iff.mp hx
 subst hi
 rw [aek h (by omega) (by omega)]
 simp [← h2]
theorem adC (l:List UInt8):yV 4 l=none∨∃ a b c d r,yV 4 l=some ([a,b,c,d],r)∧r.length≤l.length:=by
 cases h:yV 4 l with
 | none=>exact .inl rfl
 | some ar =>
  obtain ⟨a,r⟩:=ar
  obtain ⟨h1,h2⟩:=abf h
  match a,h1 with
  | [x,y,z,w],_=>exact .inr ⟨x,y,z,w,r,rfl,h2⟩
theorem ZK {x:yZ} (hx:wM x=true) (s:List UInt8):yV 4 (JD x++s)=some (vN x,YI x.txt++s):=by
 obtain ⟨f1,_⟩:=xP hx
 exact (ZN _ _ _ _).mpr ⟨rfl,by rw [JD,List.append_assoc],fun n hn=>by have:=f1 n hn;unfold Few;omega⟩
def Zo (x y:yZ):Prop:=x.kind=y.kind∧x.index=y.index∧x.view=y.view∧x.value=y.value∧x.txt=y.txt
theorem Zo.refl (x:yZ):Zo x x:=⟨rfl,rfl,rfl,rfl,rfl⟩
theorem Zo.symm {x y:yZ} (h:Zo x y):Zo y x:=⟨h.1.symm,h.2.1.symm,h.2.2.1.symm,h.2.2.2.1.symm,h.2.2.2.2.symm⟩
theorem Zo.trans {x y z:yZ} (h:Zo x y) (k:Zo y z):Zo x z:=⟨h.1.trans k.1,h.2.1.trans k.2.1,h.2.2.1.trans k.2.2.1,h.2.2.2.1.trans k.2.2.2.1,h.2.2.2.2.trans k.2.2.2.2⟩
theorem Zo.like {x y:yZ} (h:Zo x y):wM x=wM y∧JD x=JD y∧yC x=yC y:=by
 obtain ⟨h1,h2,h3,h4,h5⟩:=h
 simp only [wM,yC,JD,vN,h1,h2,h3,h4,h5,and_self]
theorem aed {x y:yZ} {s t:List UInt8} (hx:wM x=true) (hy:wM y=true) (h:yC x++s=yC y++t):Zo x y∧s=t:=by
 have ix:=ZH hx;have iy:=ZH hy
 have e1:=qj (l:=JD x) (r:=s) (by omega)
 have e2:=qj (l:=JD y) (r:=t) (by omega)
 have h:YI (JD x)++s=YI (JD y)++t:=h
 rw [h,e2] at e1
 simp only [Option.some.injEq,Prod.mk.injEq] at e1
 obtain ⟨e3,e4⟩:=e1
 have f1:=ZK hx []
 have f2:=ZK hy []
 rw [List.append_nil,List.append_nil] at f1 f2
 rw [← e3,f2] at f1
 simp only [Option.some.injEq,Prod.mk.injEq,vN,List.cons.injEq,and_true] at f1
 obtain ⟨⟨a1,a2,a3,a4⟩,a5⟩:=f1
 have t1:=qj (l:=x.txt) (r:=[]) (by have:=(xP hx).2;omega)
 have t2:=qj (l:=y.txt) (r:=[]) (by have:=(xP hy).2;omega)
 rw [List.append_nil] at t1 t2
 rw [← a5,t2] at t1
 simp only [Option.some.injEq,Prod.mk.injEq,and_true] at t1
 exact ⟨⟨a1.symm,a2.symm,a3.symm,a4.symm,t1.symm⟩,e4.symm⟩
def QM (l:List UInt8) (r:yZ) (ok:Bool):Prop:=r.Ok∧((ok=true∧wM r=true∧l=JD r)∨(ok=false∧∀ x,wM x=true→l≠JD x))
theorem ZB {n:Int} (h:Few n):Big n:=by unfold Few at h;unfold Big;omega
theorem aef {l:List UInt8} (h:yV 4 l=none):QM l rz false:=⟨XV,.inr ⟨rfl,fun x hx hl=>by
 have:=ZK hx []
 rw [List.append_nil,← hl,h] at this;cases this⟩⟩
theorem ac8 {l s:List UInt8} {a b c d:Int} (h:yV 4 l=some ([a,b,c,d],s)) (h2:vP s=none):QM l rz false:=⟨XV,.inr ⟨rfl,fun x hx hl=>by
 have:=ZK hx []
 rw [List.append_nil,← hl,h] at this
 simp only [Option.some.injEq,Prod.mk.injEq] at this
 have t:=qj (l:=x.txt) (r:=[]) (by have:=(xP hx).2;omega)
 rw [← this.2,h2] at t;cases t⟩⟩
theorem ae9 {l s t u:List UInt8} {a b c d:Int} (hl:l.length≤140737488351232) (h:yV 4 l=some ([a,b,c,d],s)) (h2:vP s=some (t,u)):QM l ⟨a,b,c,d,1,t⟩ (decide ((u.length:Int)=0) && wM ⟨a,b,c,d,1,t⟩):=by
 obtain ⟨_,g2,few⟩:=(ZN _ _ _ _).mp h
 obtain ⟨f1,f2⟩:=ZX h2
 refine ⟨⟨Okl.read,by show (1:Nat)≠2;decide,by show t.length≤_;omega,ZB (few _ (by simp)),ZB (few _ (by simp)),ZB (few _ (by simp)),ZB (few _ (by simp))⟩,?_⟩
 cases hR:(decide ((u.length:Int)=0) && wM ⟨a,b,c,d,1,t⟩)
 ·
  refine .inr ⟨rfl,fun x hx hl=>?_⟩
  have:=ZK hx []
  rw [List.append_nil,← hl,h] at this
  simp only [Option.some.injEq,Prod.mk.injEq,vN,List.cons.injEq,and_true] at this
  obtain ⟨⟨i1,i2,i3,i4⟩,i5⟩:=this
  have t2:=qj (l:=x.txt) (r:=[]) (by have:=(xP hx).2;omega)
  rw [← i5,h2] at t2
  simp only [Option.some.injEq,Prod.mk.injEq] at t2
  have hs:Zo ⟨a,b,c,d,1,t⟩ x:=⟨i1,i2,i3,i4,t2.1⟩
  rw [hs.like.1,hx,t2.2] at hR
  simp at hR
 ·
  rw [Bool.and_eq_true,decide_eq_true_eq] at hR
  refine .inl ⟨rfl,hR.2,?_⟩
  have hu:u=[]:=List.length_eq_zero_iff.1 (by omega)
  rw [g2,f1,hu,List.append_nil]
  rfl
theorem jf.v {k:Nat} {l:List UInt8} (hk:Okl k l) (k2:k≠2) (hl:l.length≤140737488351232):∃ r ok,QM l r ok∧∀ S,jm zi O jf.id [by_ k l] S=some (.tuple #[rv r,.bool ok],S):=by
 have a1:yS zi 28 zx.empty=some (.pointer (some ⟨0,0,none⟩),ad2 rz):=aeK zx.empty
 have g1:=JQ rz
 have ne0:(0:Nat)≠2:=by decide
 have cl:[by_ k l].all (jD 16)=true:=all1 (vH (k:=k) hk.le)
 obtain ⟨T,hTe⟩:∃ T,T=(by_ k l::zh::zh::zh::zh::zh::zh::zh::zh::zh::zh::zh::zh::zh::zh::zh::zh::zh::zh::zh::zh::zh::zh::zh::zh::zh::zh::zh::zh::zh::zh::zh::zh::zh::zh::zh::zh::zh::zh::zh::zh::zh::zh::zh::zh::zh::zh::zh::zh::zh::zh::zh::zh::[]):=⟨_,rfl⟩
 have hr:zI zi O false jf.code T zx.empty=zI zi O false jf.code T zx.empty:=rfl
 have c1:=fun S=>zH.v (many:=4) hk k2 (by omega) S
 have r1:∀ k0 k1,Zy k0 k1 4 l=_:=fun k0 k1=>YM (m:=4) (by decide) (by decide)
 rw [r1] at c1
 have z0:∀ S,yu zi 28 [] S=some (rv rz,S):=fun S=>Qw S
 rcases adC l with h | ⟨a,b,c,d,s,h,hlr⟩
 ·
  rw [h] at c1
  have s1:=aeR g1 rz
  refine ⟨rz,false,aef h,fun S=>?_⟩
  conv at hr =>
   rhs
   rw [hTe]
   simp only [jf.code,jf.rs,zSs,reduceIte,zk,zn,zo,zq,if_neg k2,a1,c1,z0,s1]
  rw [hTe] at hr
  exact jf.runs hr (.inr rfl) (WU (qG _ 0 rz) ne0) rfl rfl cl rfl
 ·
  rw [h] at c1
  have c2:=fun S=>jq.v (k:=1) (l:=s) Okl.read (by decide) (by omega) S
  unfold Wv at c2
  have a2:yS zi 28 (ad2 rz)=some (.pointer (some ⟨1,0,none⟩),JX rz rz):=aeK (ad2 rz)
  have s1:=aeR (Vt rz rz) rz
  have g2:=qG (JX rz rz) 1 rz
  have g3:(acK (JX rz rz) 1 rz).get 0=some (.cells (fR rz) (.own []) 0):=(Vf (by decide)).trans (Vg rz rz)
  generalize acK (JX rz rz) 1 rz=A2 at s1 g2 g3
  cases ht:vP s with
  | none =>
   rw [ht] at c2
   have s3:=aeR g3 rz
   refine ⟨rz,false,ac8 h ht,fun S=>?_⟩
   conv at hr =>
    rhs
    rw [hTe]
    simp only [jf.code,jf.rs,zSs,reduceIte,zk,zn,zo,zq,if_neg k2,a1,c1,c2,z0,a2,s1,WU g2 ne0,Wx (adz _),Jm g2,s3]
   rw [hTe] at hr
   exact jf.runs hr (.inr rfl) (WU (qG _ 0 rz) ne0) rfl rfl cl rfl
  | some tu =>
   obtain ⟨t,u⟩:=tu
   rw [ht] at c2
   have i0:=fun S=>WA (k:=1) (i:=0) (m:=0) (l:=[a,b,c,d]) Okl.read rfl rfl S
   have i1:=fun S=>WA (k:=1) (i:=1) (m:=1) (l:=[a,b,c,d]) Okl.read rfl rfl S
   have i2:=fun S=>WA (k:=1) (i:=2) (m:=2) (l:=[a,b,c,d]) Okl.read rfl rfl S
   have i3:=fun S=>WA (k:=1) (i:=3) (m:=3) (l:=[a,b,c,d]) Okl.read rfl rfl S
   have hP:=ae9 hl h ht
   have ne1:(1:Nat)≠2:=by decide
   have bd:=fun S=>xI (y0:=.int .i64 a) (y1:=.int .i64 b) (y2:=.int .i64 c) (y3:=.int .i64 d) (y4:=by_ 1 t) kL kL kL kL ZY S
   have s2:wz zi 28 (.pointer (some ⟨1,0,none⟩)) (.agg [Value.int .i64 a,.int .i64 b,.int .i64 c,.int .i64 d,by_ 1 t].toArray) A2=some (zh,acK A2 1 ⟨a,b,c,d,1,t⟩):=aeR g2 ⟨a,b,c,d,1,t⟩
   have q1:=qG A2 1 ⟨a,b,c,d,1,t⟩
   have q0:(acK A2 1 ⟨a,b,c,d,1,t⟩).get 0=some (.cells (fR rz) (.own []) 0):=(Vf (by decide)).trans g3
   generalize acK A2 1 ⟨a,b,c,d,1,t⟩=A3 at s2 q1 q0
   have s3:=aeR q0 ⟨a,b,c,d,1,t⟩
   have c3:=fun S=>zL.v hP.1 S
   have lu:∀ S,ku zi 26 (by_ 1 u) S=some (.int .i64 u.length,S):=fun S=>yX Okl.read
   refine ⟨_,_,hP,fun S=>?_⟩
   conv at hr =>
    rhs
    rw [hTe]
    simp only [jf.code,jf.rs,zSs,reduceIte,zk,zn,zo,zq,if_neg k2,a1,c1,c2,z0,a2,s1,i0,i1,i2,i3,xH,bd,s2,WU q1 ne1,Wx (adz _),lu,wB (WU q1 ne1),wB (c3 _),gvw,Jm q1,s3]
   rw [hTe] at hr
   exact jf.runs hr (.inr rfl) (WU (qG A3 0 ⟨a,b,c,d,1,t⟩) ne1) rfl rfl cl (kS (all2 (vF hP.1.okl.le) rfl))
def Yb (l:List UInt8) (rs:List yZ) (n:Nat):Prop:=(∀ r ∈ rs,r.Ok∧wM r=true)∧n=(rs.flatMap yC).length∧∃ rest,l=rs.flatMap yC++rest∧∀ x t,wM x=true→rest≠yC x++t
inductive ZC:List yZ→List yZ→Prop
 | nil:ZC [] []
 | cons {x y:yZ} {l m:List yZ} (h:Zo x y) (k:ZC l m):ZC (x::l) (y::m)
theorem abC:∀ (a b:List yZ) (l:List UInt8) (n m:Nat),Yb l a n→Yb l b m→ZC a b∧n=m:=by
 intro a
 induction a with
 | nil =>
  intro b l n m ⟨_,h2,rest,h3,h4⟩ ⟨k1,k2,rest2,k3,k4⟩
  cases b with
  | nil=>exact ⟨.nil,by rw [h2,k2]⟩
  | cons y b =>
   rw [List.flatMap_nil,List.nil_append] at h3
   exact absurd (h3.symm.trans (k3.trans (by rw [List.flatMap_cons,List.append_assoc]))) (h4 y _ (k1 y (by simp)).2)
 | cons x a ih =>
  intro b l n m ⟨h1,h2,rest,h3,h4⟩ ⟨k1,k2,rest2,k3,k4⟩
  cases b with
  | nil =>
   rw [List.flatMap_nil,List.nil_append] at k3
   exact absurd (k3.symm.trans (h3.trans (by rw [List.flatMap_cons,List.append_assoc]))) (k4 x _ (h1 x (by simp)).2)
  | cons y b =>
   rw [List.flatMap_cons,List.append_assoc] at h3 k3
   obtain ⟨e1,e2⟩:=aed (h1 x (by simp)).2 (k1 y (by simp)).2 (h3.symm.trans k3)
   obtain ⟨i1,i2⟩:=ih b (a.flatMap yC++rest) _ _ ⟨fun r hr=>h1 r (by simp [hr]),rfl,rest,rfl,h4⟩ ⟨fun r hr=>k1 r (by simp [hr]),rfl,rest2,e2,k4⟩
   refine ⟨.cons e1 i1,?_⟩
   rw [h2,k2,List.flatMap_cons,List.flatMap_cons,List.length_append,List.length_append,i2,e1.like.2.2]
abbrev rl (k:Nat) (l:List yZ):Value:=vs fR 5 k l
theorem ady (r:yZ) (S:zx):jH zi 22 1 [(0,rv r)] S=some (rl 2 [r],S):=by kernel_rfl
theorem ac0 {k:Nat} {l:List yZ} {r:yZ} {S:zx} (h:Okl k l) (hk:k≠1) (hl:l.length≤2000000000000):jV zi 22 22 (rl k l) (rl 2 [r]) S=some (rl 2 (l++[r]),S):=by
 rw [YD Zc vg acX rfl ab6 (by omega) Zc afw agd h hk Okl.own (by simp;omega) (by simp;omega),if_neg (fun h=>by have:=h.2;simp at this)]
end Go.Proofs.Ytblpnklfimkfoaa
namespace Go.Proofs.Ytblpnklfimkfoaa
open Go.Abs
theorem Vr {k:Nat} {l:List UInt8} {m:Int} {S:zx} (h:Okl k l) (h0:0≤m) (h1:m≤l.length):qY zi 26 (by_ k l) (some (.int .i64 m)) none S=some (by_ (if k=2 then 1 else k) (l.drop m.toNat),S):=by
 rw [xO h (i:=m) (j:=l.length) rfl rfl h0 h1 (by omega)]
 congr 2
 rw [List.take_of_length_le (by rw [List.length_drop];omega)]
theorem WO:∀ (rs:List yZ),rs.length≤(rs.flatMap yC).length
 | []=>by simp
 | r::rs=>by
  have:=WO rs;have:=ZJ r
  rw [List.flatMap_cons,List.length_append,List.length_cons];omega
theorem aas {k d:Nat} {l:List yZ} (h:k≤2) (hl:∀ r ∈ l,r.Ok):jD (d+12) (rl k l)=true:=WR (d:=d+8) h fun r hr=>by
 have h3:jD (d+8) (by_ r.k r.txt)=true:=WR (d:=d+4) (hl r hr).okl.le fun _ _=>rfl
 simp only [fR,List.all_cons,List.all_nil,h3,Bool.and_true]
 rfl
section
variable {k:Nat} {l:List UInt8}
theorem zK.round (hk:Okl k l) (k2:k≠2) (hl:l.length≤1000000000000):∀ (n:Nat) (suf:List UInt8) (out:List yZ) {T:List Value} {r:St} {S:zx},yQ (zI zi O false zK.jG) T S=r→T.length=43→suf.length≤n →
  T.getD 0 zh=by_ k l→T.getD 4 zh=rl (if out=[] then 0 else 2) out→T.getD 5 zh=.int .i64 (out.flatMap yC).length→l=out.flatMap yC++suf→(∀ r ∈ out,r.Ok∧wM r=true) →
  ∃ T' S' rs m,r=some (.exit 0,T',S')∧T'.length=43∧T'.getD 4 zh=rl (if rs=[] then 0 else 2) rs∧T'.getD 5 zh=.int .i64 (m:Nat)∧Yb l rs m:=by
 intro n
 induction n with
 | zero =>
  intro suf out T r S hL hT hn h0 h4 h5 hpre hout
  have hs:suf=[]:=List.length_eq_zero_iff.1 (by omega)
  have hTe:=zK.eta hT
  rw [h0,h4,h5] at hTe
  have hr:zI zi O false zK.jG T S=zI zi O false zK.jG T S:=rfl
  have d1:¬ ((out.flatMap yC).length:Int) < (l.length:Int):=by rw [hpre,hs];simp
  conv at hr =>
   rhs
   rw [hTe]
   simp only [zK.jG,zK.code,zK.rs,zSs,reduceIte,zk,zn,zo,zq,if_neg k2,yX hk,goInt,d1]
  refine ⟨_,_,out,_,hL.symm.trans (jM hr (by simp)),rfl,rfl,rfl,hout,rfl,[],by rw [hpre,hs],fun x t hx h=>?_⟩
  have:=congrArg List.length h
  have:=ZJ x
  rw [List.length_append,List.length_nil] at *
  omega
 | succ n ih =>
  intro suf out T r S hL hT hn h0 h4 h5 hpre hout
  have hTe:=zK.eta hT
  rw [h0,h4,h5] at hTe
  have hr:zI zi O false zK.jG T S=zI zi O false zK.jG T S:=rfl
  have hll:l.length=(out.flatMap yC).length+suf.length:=by rw [hpre,List.length_append]
  by_cases d1:((out.flatMap yC).length:Int) < (l.length:Int)
  ·
   have sl:=fun S=>Vr (S:=S) hk (m:=(out.flatMap yC).length) (by omega) (by omega)
   rw [Int.toNat_natCast,show l.drop (out.flatMap yC).length=suf by rw [hpre,List.drop_left],if_neg k2] at sl
   have hk0:k=1:=by
    have:=hk.le
    by_cases h0:k=0
    ·
     have:=hk.nil h0;rw [this] at d1;simp at d1;omega
    ·
     omega
   have c1:=fun S=>jq.v (k:=k) (l:=suf) ⟨hk.le,fun h=>by omega⟩ k2 (by omega) S
   unfold Wv at c1
   cases ht:vP suf with
   | none =>
    rw [ht] at c1
    conv at hr =>
     rhs
     rw [hTe]
     simp only [zK.jG,zK.code,zK.rs,zSs,reduceIte,zk,zn,zo,zq,if_neg k2,yX hk,goInt,d1,sl,c1]
    refine ⟨_,_,out,_,hL.symm.trans (jM hr (by simp)),rfl,rfl,rfl,hout,rfl,suf,hpre,fun x t hx h=>?_⟩
    have:=qj (l:=JD x) (r:=t) (by have:=ZH hx;omega)
    rw [show YI (JD x)++t=suf from h.symm,ht] at this
    cases this
   | some tu =>
    obtain ⟨t,u⟩:=tu
    rw [ht] at c1
    obtain ⟨f1,f2⟩:=ZX ht
    obtain ⟨r1,ok,⟨ro,hP⟩,c2⟩:=jf.v (k:=1) (l:=t) Okl.read (by decide) (by omega)
    obtain ⟨S2,b1,b2,b3,b4⟩:=VU r1 S
    rcases hP with ⟨rfl,hR,ht1⟩ | ⟨rfl,hno⟩
    ·
     have hsuf:suf=yC r1++u:=by rw [f1,ht1];rfl
     have hout2:∀ r ∈ out++[r1],r.Ok∧wM r=true:=fun r hr=>by
      rcases List.mem_append.1 hr with hr | hr
      ·
       exact hout r hr
      ·
       rw [List.mem_singleton.1 hr];exact ⟨ro,hR⟩
     have efl:(out++[r1]).flatMap yC=out.flatMap yC++yC r1:=by simp
     have hpre2:l=(out++[r1]).flatMap yC++u:=by rw [efl,List.append_assoc,← hsuf];exact hpre
     have hlu:l.length=((out++[r1]).flatMap yC).length+u.length:=by have h9:=congrArg List.length hpre2;rwa [List.length_append] at h9
     have rp:=ZJ r1
     have hol:=WO out
     have lu:∀ S,ku zi 26 (by_ 1 u) S=some (.int .i64 u.length,S):=fun S=>yX Okl.read
     have wi:IntKind.i64.wrap ((l.length:Int) - u.length)=(((out++[r1]).flatMap yC).length:Int):=by rw [wrap_i64 (by omega) (by omega)];omega
     have c3:jE zi false 28 (.pointer (some ⟨S.next,0,none⟩)) S2=some (rv r1,S2):=WU b2 ro.ne
     have ap:=fun S=>ac0 (S:=S) (r:=r1) (k:=if out=[] then 0 else 2) (l:=out) ⟨by split <;> omega,fun h=>by split at h <;> first | assumption | omega⟩ (by split <;> omega) (by omega)
     conv at hr =>
      rhs
      rw [hTe]
      simp only [zK.jG,zK.code,zK.rs,zSs,reduceIte,zk,zn,zo,zq,if_neg k2,yX hk,goInt,d1,sl,c1,c2,aeK,b1,c3,ady,ap,lu,wi]
     exact ih u (out++[r1]) ((wL hr).symm.trans hL) rfl (by rw [hsuf,List.length_append] at hn;omega) rfl (by rw [show (if out++[r1]=[] then 0 else 2)=2 from if_neg (by simp)];rfl) rfl hpre2 hout2
    ·
     conv at hr =>
      rhs
      rw [hTe]
      simp only [zK.jG,zK.code,zK.rs,zSs,reduceIte,zk,zn,zo,zq,if_neg k2,yX hk,goInt,d1,sl,c1,c2,aeK,b1]
     refine ⟨_,_,out,_,hL.symm.trans (jM hr (by simp)),rfl,rfl,rfl,hout,rfl,suf,hpre,fun x t hx h=>?_⟩
     have:=qj (l:=JD x) (r:=t) (by have:=ZH hx;omega)
     rw [show YI (JD x)++t=suf from h.symm,ht] at this
     simp only [Option.some.injEq,Prod.mk.injEq] at this
     exact hno x hx this.1
  ·
   conv at hr =>
    rhs
    rw [hTe]
    simp only [zK.jG,zK.code,zK.rs,zSs,reduceIte,zk,zn,zo,zq,if_neg k2,yX hk,goInt,d1]
   have hs:suf=[]:=List.length_eq_zero_iff.1 (by omega)
   refine ⟨_,_,out,_,hL.symm.trans (jM hr (by simp)),rfl,rfl,rfl,hout,rfl,[],by rw [← hs];exact hpre,fun x t hx h=>?_⟩
   have:=congrArg List.length h
   have:=ZJ x
   rw [List.length_append,List.length_nil] at *
   omega
theorem zK.v (hk:Okl k l) (k2:k≠2) (hl:l.length≤1000000000000):∃ rs m,Yb l rs m∧∀ S,jm zi O zK.id [by_ k l] S=some (.tuple #[rl (if rs=[] then 0 else 2) rs,.int .i64 (m:Nat)],S):=by
 obtain ⟨T,hTe⟩:∃ T,T=(by_ k l::zh::zh::zh::zh::zh::zh::zh::zh::zh::zh::zh::zh::zh::zh::zh::zh::zh::zh::zh::zh::zh::zh::zh::zh::zh::zh::zh::zh::zh::zh::zh::zh::zh::zh::zh::zh::zh::zh::zh::zh::zh::zh::[]):=⟨_,rfl⟩
 have hr:zI zi O false zK.code T zx.empty=zI zi O false zK.code T zx.empty:=rfl
 conv at hr =>
  rhs
  rw [hTe]
  simp only [zK.code,zK.rs,zSs,reduceIte,zk,zn,zo,zq]
 generalize hL:yQ (zI zi O false zK.jG) _ _=r at hr
 obtain ⟨T',S',rs,m,rfl,g1,g2,g3,g4⟩:=zK.round hk k2 hl l.length l [] hL rfl (Nat.le_refl _) rfl rfl rfl rfl (fun r h=>by cases h)
 have hT':=zK.eta g1
 rw [g2,g3] at hT'
 conv at hr =>
  rhs
  rw [hT']
  simp only [zK.code,zK.rs,zSs,reduceIte,zk,zn,zo,zq]
 rw [hTe] at hr
 refine ⟨rs,m,g4,fun S=>?_⟩
 have hkk:(if rs=[] then 0 else 2)≤2:=by split <;> omega
 exact zK.runs hr (.inr rfl) (by simp only [List.getD_cons_succ,List.getD_cons_zero,je,zZ,zM,zT,zY]) rfl (all1 (vH (k:=k) hk.le)) (kS (all2 (aas (d:=3) hkk fun r h=>(g4.1 r h).1) rfl))
end
end Go.Proofs.Ytblpnklfimkfoaa
namespace Go.Proofs.Ytblpnklfimkfoaa
open Go.Abs
abbrev wG.id:FuncId:=15
noncomputable def wG.code:Code:=(.seq (.region 0 (reg Try.f15 0) false) (.seq (.region 1 (reg Try.f15 1) false) (.seq (.region 2 (reg Try.f15 2) false) (.seq (.region 3 (reg Try.f15 3) false) Code.ret))))
theorem wG.body:Try.f15.body=some wG.code:=by kernel_rfl
variable (b d n c g i j k l m:Value) (S:zx)
theorem wG.r0 :jF zi ⟨false,false,false⟩ (jm zi O) (reg Try.f15 0) (reg Try.f15 0).toList ([b,d,n,c,g,i,j,k,l,m]) S =
  ( some ([b,d,Value.pointer none,c,g,i,j,k,l,m],S)):=by
 kernel_rfl
theorem wG.r1 :jF zi ⟨false,false,false⟩ (jm zi O) (reg Try.f15 1) (reg Try.f15 1).toList ([b,d,n,c,g,i,j,k,l,m]) S =
  (zU (yu zi 73 [] S) (fun o f=>zU (JV (dem o) f) (fun p q=>some ([b,d,n,p,o,dem p,j,k,l,m],q)) ()) ()):=by
 kernel_rfl
theorem wG.r2 :jF zi ⟨false,false,false⟩ (jm zi O) (reg Try.f15 2) (reg Try.f15 2).toList ([b,d,n,c,g,i,j,k,l,m]) S =
  (zU ((jm zi O) 39 [(dem (dem c)),(dem (dem b))] S) (fun r f=>some ([b,d,n,c,g,i,dem c,dem b,r,m],f)) ()):=by
 kernel_rfl
theorem wG.r3 :jF zi ⟨false,false,false⟩ (jm zi O) (reg Try.f15 3) (reg Try.f15 3).toList ([b,d,n,c,g,i,j,k,l,m]) S =
  ( some ([b,d,c,dem c,g,i,j,k,l,dem c],S)):=by
 kernel_rfl
theorem wG.rs:type_of% (aij @wG.r0 (aij @wG.r1 (aij @wG.r2 (@wG.r3)))):=aij @wG.r0 (aij @wG.r1 (aij @wG.r2 (@wG.r3)))
theorem wG.runs {b:Value} {S f:zx} {e:AEx} {T:List Value} (h:zI zi O false wG.code ([b,zh,zh,zh,zh,zh,zh,zh,zh,zh]) S=some (e,T,f)) (he:e=.normal∨e=.ret):jm zi O 15 [b] S=some (T.getD 2 zh,f) :=
 wo rfl rfl Try.func15 (by decide) wG.body (by exact h) he (yD (a:=T.getD 2 zh) ((show zX zi T f Try.f15.results.toList=zX zi T f [(ResultVar.tmp 2)] from by kernel_rfl).trans (by simp only [zX])) (by kernel_rfl))
end Go.Proofs.Ytblpnklfimkfoaa
namespace Go.Proofs.Ytblpnklfimkfoaa
open Go.Abs
abbrev jo.id:FuncId:=23
noncomputable def jo.code:Code:=(.seq (.region 0 (reg Try.f23 0) false) (.seq (.seq (.region 1 (reg Try.f23 1) false) (.cond (.tmp 9) (.seq (.region 2 (reg Try.f23 2) false) Code.ret) Code.skip)) (.seq (.region 3 (reg Try.f23 3) false) (.seq (.region 4 (reg Try.f23 4) false) Code.ret))))
theorem jo.body:Try.f23.body=some jo.code:=by kernel_rfl
variable (b c o p w q r s t u d f g i j k l m n:Value) (S:zx)
theorem jo.r0 :jF zi ⟨true,false,false⟩ (qQ O.hp true (jm zi O)) (reg Try.f23 0) (reg Try.f23 0).toList ([b,c,o,p,w,q,r,s,t,u,d,f,g,i,j,k,l,m,n]) S =
  ( some ([b,c,o,p,.int .i64 0,q,r,s,t,u,d,f,g,i,j,k,l,m,n],S)):=by
 kernel_rfl
theorem jo.r1 :jF zi ⟨true,false,false⟩ (qQ O.hp true (jm zi O)) (reg Try.f23 1) (reg Try.f23 1).toList ([b,c,o,p,w,q,r,s,t,u,d,f,g,i,j,k,l,m,n]) S =
  (zU (ku zi 26 (dem c) S) (fun B v=>zU ((jm zi O) 40 [(dem (dem b))] v) (fun x z=>zU (wu zi BinOp.gtr 3 B x z) (fun y A=>some ([b,c,o,p,w,dem c,B,dem b,x,y,d,f,g,i,j,k,l,m,n],A)) ()) ()) ()):=by
 kernel_rfl
theorem jo.r2 :jF zi ⟨true,false,false⟩ (qQ O.hp true (jm zi O)) (reg Try.f23 2) (reg Try.f23 2).toList ([b,c,o,p,w,q,r,s,t,u,d,f,g,i,j,k,l,m,n]) S =
  ( some ([b,c,o,p,.int .i64 41,q,r,s,t,u,d,f,g,i,j,k,l,m,n],S)):=by
 kernel_rfl
theorem jo.r3 :jF zi ⟨true,false,false⟩ (qQ O.hp true (jm zi O)) (reg Try.f23 3) (reg Try.f23 3).toList ([b,c,o,p,w,q,r,s,t,u,d,f,g,i,j,k,l,m,n]) S =
  (zU (wJ (dem b) S) (fun C v=>zU (zS zi 73 C 0 v) (fun x z=>zU (jE zi false 26 x z) (fun y A=>zU (qF zi true 26 26 y (dem c) A) (fun D G=>zU (wJ (dem b) G) (fun E H=>zU (zS zi 73 E 0 H) (fun F I=>zU (wz zi 26 F (dem D) I) (fun K J=>some ([b,c,o,p,w,q,r,s,t,u,dem b,dem b,C,x,dem y,dem c,D,E,F],J)) ()) ()) ()) ()) ()) ()) ()):=by
 kernel_rfl
theorem jo.r4 :jF zi ⟨true,false,false⟩ (qQ O.hp true (jm zi O)) (reg Try.f23 4) (reg Try.f23 4).toList ([b,c,o,p,w,q,r,s,t,u,d,f,g,i,j,k,l,m,n]) S =
  ( some ([b,c,o,p,.int .i64 0,q,r,s,t,u,d,f,g,i,j,k,l,m,n],S)):=by
 kernel_rfl
theorem jo.rs:type_of% (aij @jo.r0 (aij @jo.r1 (aij @jo.r2 (aij @jo.r3 (@jo.r4))))):=aij @jo.r0 (aij @jo.r1 (aij @jo.r2 (aij @jo.r3 (@jo.r4))))
theorem jo.runs {b c:Value} {S v:zx} {e:AEx} {T:List Value} (h:zI zi O true jo.code ([b,c,zh,zh,zh,zh,zh,zh,zh,zh,zh,zh,zh,zh,zh,zh,zh,zh,zh]) S=some (e,T,v)) (he:e=.normal∨e=.ret):jm zi O 23 [b,c] S=some (T.getD 4 zh,v) :=
 wo rfl rfl Try.func23 (by decide) jo.body (by exact h) he (yD (a:=T.getD 4 zh) ((show zX zi T v Try.f23.results.toList=zX zi T v [(ResultVar.tmp 4)] from by kernel_rfl).trans (by simp only [zX])) (by kernel_rfl))
end Go.Proofs.Ytblpnklfimkfoaa
namespace Go.Proofs.Ytblpnklfimkfoaa
open Go.Abs
abbrev jC.id:FuncId:=40
noncomputable def jC.code:Code:=(.seq (.region 0 (reg Try.f40 0) false) (.seq (.region 1 (reg Try.f40 1) true) Code.ret))
theorem jC.body:Try.f40.body=some jC.code:=by kernel_rfl
variable (b k B l m n o p q r f g i j:Value) (S:zx)
theorem jC.r0 :jF zi ⟨true,false,false⟩ (qQ O.hp true (jm zi O)) (reg Try.f40 0) (reg Try.f40 0).toList ([b,k,B,l,m,n,o,p,q,r,f,g,i,j]) S =
  ( some ([b,k,.int .i64 0,l,m,n,o,p,q,r,f,g,i,j],S)):=by
 kernel_rfl
theorem jC.d1:qO zi (reg Try.f40 1)=true:=by kernel_rfl
theorem jC.ff1:fixed zi (reg Try.f40 1)=false:=by kernel_rfl
theorem jC.k1:checked zi (reg Try.f40 1)=[]:=by kernel_rfl
theorem jC.g1:again zi (reg Try.f40 1)=[]:=by kernel_rfl
theorem jC.r1 :zI zi O true (.region 1 (reg Try.f40 1) true) ([b,k,B,l,m,n,o,p,q,r,f,g,i,j]) S =
  J4 (zU (wJ (dem b) S) (fun s c=>zU (zS zi 73 s 2 c) (fun t C=>zU (jE zi false 3 t C) (fun u D=>zU (wJ (dem b) D) (fun w E=>zU (zS zi 73 w 0 E) (fun x F=>zU (jE zi false 26 x F) (fun y G=>zU (ku zi 26 y G) (fun z H=>zU (wu zi BinOp.sub 3 u z H) (fun A I=>zU (kY zi true Builtin.max #[3,3] 3 [(.int .i64 0),A] I) (fun d J=>some ([b,k,d,dem b,s,t,u,dem b,w,x,y,z,A,dem d],J)) ()) ()) ()) ()) ()) ()) ()) ()) ()):=by
 rw [KI jC.d1 jC.ff1 jC.k1 jC.g1]
 refine congrArg J4 ?_
 refine tP Try.f40 1 0 (v:=b) ?_
 refine tD Try.f40 1 1 (fun s c=>?_)
 refine tD Try.f40 1 2 (fun t C=>?_)
 refine tD Try.f40 1 3 (fun u D=>?_)
 refine tP Try.f40 1 4 (v:=b) ?_
 refine tD Try.f40 1 5 (fun w E=>?_)
 refine tD Try.f40 1 6 (fun x F=>?_)
 refine tD Try.f40 1 7 (fun y G=>?_)
 refine tD Try.f40 1 8 (fun z H=>?_)
 refine tD Try.f40 1 9 (fun A I=>?_)
 refine tD Try.f40 1 10 (fun d J=>?_)
 refine tP Try.f40 1 11 (v:=d) ?_
 kernel_rfl
theorem jC.rs:type_of% (aij @jC.r0 (@jC.r1)):=aij @jC.r0 (@jC.r1)
theorem jC.runs {b:Value} {S c:zx} {e:AEx} {T:List Value} (h:zI zi O true jC.code ([b,zh,zh,zh,zh,zh,zh,zh,zh,zh,zh,zh,zh,zh]) S=some (e,T,c)) (he:e=.normal∨e=.ret):jm zi O 40 [b] S=some (T.getD 2 zh,c) :=
 wo rfl rfl Try.func40 (by decide) jC.body (by exact h) he (yD (a:=T.getD 2 zh) ((show zX zi T c Try.f40.results.toList=zX zi T c [(ResultVar.tmp 2)] from by kernel_rfl).trans (by simp only [zX])) (by kernel_rfl))
end Go.Proofs.Ytblpnklfimkfoaa
namespace Go.Proofs.Ytblpnklfimkfoaa
open Go.Abs
abbrev jR.id:FuncId:=19
noncomputable def jR.code:Code:=(.region 0 (reg Try.f19 0) false)
theorem jR.body:Try.f19.body=some jR.code:=by kernel_rfl
variable (a c l m n o p q r s:Value) (S:zx)
theorem jR.r0 :jF zi ⟨false,false,false⟩ (jm zi O) (reg Try.f19 0) (reg Try.f19 0).toList ([a,c,l,m,n,o,p,q,r,s]) S =
  (zU (wJ (dem a) S) (fun d b=>zU (zS zi 73 d 0 b) (fun f t=>zU (jE zi false 26 f t) (fun g u=>zU (ku zi 26 g u) (fun i v=>zU (wJ (dem a) v) (fun j w=>zU (zS zi 73 j 1 w) (fun k x=>zU (wz zi 3 k (dem i) x) (fun z y=>some ([a,c,dem a,dem a,d,f,g,i,j,k],y)) ()) ()) ()) ()) ()) ()) ()):=by
 kernel_rfl
theorem jR.rs:type_of% (@jR.r0):=@jR.r0
theorem jR.runs {a:Value} {S b:zx} {e:AEx} {T:List Value} (h:zI zi O false jR.code ([a,zh,zh,zh,zh,zh,zh,zh,zh,zh]) S=some (e,T,b)) (he:e=.normal∨e=.ret):jm zi O 19 [a] S=some (Value.tuple #[],b) :=
 wo rfl rfl Try.func19 (by decide) jR.body (by exact h) he rfl
end Go.Proofs.Ytblpnklfimkfoaa
namespace Go.Proofs.Ytblpnklfimkfoaa
open Go.Abs
abbrev jw.id:FuncId:=21
noncomputable def jw.code:Code:=(.seq (.region 0 (reg Try.f21 0) true) (.region 1 (reg Try.f21 1) false))
theorem jw.body:Try.f21.body=some jw.code:=by kernel_rfl
variable (a b R U x4 x5 x6 x7 x8 x9 d f g i j k l m n o p q r s t u w x y z A B:Value) (S:zx)
theorem jw.d0:qO zi (reg Try.f21 0)=true:=by kernel_rfl
theorem jw.ff0:fixed zi (reg Try.f21 0)=false:=by kernel_rfl
theorem jw.k0:checked zi (reg Try.f21 0)=[]:=by kernel_rfl
theorem jw.g0:again zi (reg Try.f21 0)=[]:=by kernel_rfl
theorem jw.r0 :zI zi O false (.region 0 (reg Try.f21 0) true) ([a,b,R,U,x4,x5,x6,x7,x8,x9,d,f,g,i,j,k,l,m,n,o,p,q,r,s,t,u,w,x,y,z,A,B]) S =
  J4 (zU (wJ (dem a) S) (fun v2 c=>zU (zS zi 73 v2 0 c) (fun v3 S2=>zU (jE zi false 26 v3 S2) (fun v4 S3=>zU (wJ (dem a) S3) (fun v6 S4=>zU (zS zi 73 v6 1 S4) (fun v7 S5=>zU (jE zi false 3 v7 S5) (fun v8 S6=>zU (wJ (dem a) S6) (fun C S7=>zU (zS zi 73 C 0 S7) (fun D S8=>zU (jE zi false 26 D S8) (fun E S9=>zU (ku zi 26 E S9) (fun F V=>zU (wJ (dem a) V) (fun G W=>zU (zS zi 73 G 1 W) (fun H X=>zU (jE zi false 3 H X) (fun I Y=>zU (wu zi BinOp.sub 3 F I Y) (fun J Z=>zU (kY zi false Builtin.min #[3,3] 3 [(dem b),J] Z) (fun K a0=>zU (kY zi false Builtin.max #[3,3] 3 [(.int .i64 0),K] a0) (fun L a1=>zU (wu zi BinOp.add 3 v8 L a1) (fun M a2=>zU (yc zi false 26 v4 none (some M) a2) (fun N a3=>zU (wJ (dem a) a3) (fun P a4=>zU (zS zi 73 P 0 a4) (fun Q a5=>zU (wz zi 26 Q (dem N) a5) (fun a7 a6=>some ([a,b,R,U,dem a,dem a,v2,v3,v4,dem a,v6,v7,v8,dem b,dem a,C,D,E,F,dem a,G,H,I,J,K,L,M,N,P,Q,A,B],a6)) ()) ()) ()) ()) ()) ()) ()) ()) ()) ()) ()) ()) ()) ()) ()) ()) ()) ()) ()) ()) ()):=by
 rw [yO jw.d0 jw.ff0 jw.k0 jw.g0]
 refine congrArg J4 ?_
 refine tP Try.f21 0 0 (v:=a) ?_
 refine tP Try.f21 0 1 (v:=a) ?_
 refine tD Try.f21 0 2 (fun v2 c=>?_)
 refine tD Try.f21 0 3 (fun v3 S2=>?_)
 refine tD Try.f21 0 4 (fun v4 S3=>?_)
 refine tP Try.f21 0 5 (v:=a) ?_
 refine tD Try.f21 0 6 (fun v6 S4=>?_)
 refine tD Try.f21 0 7 (fun v7 S5=>?_)
 refine tD Try.f21 0 8 (fun v8 S6=>?_)
 refine tP Try.f21 0 9 (v:=b) ?_
 refine tP Try.f21 0 10 (v:=a) ?_
 refine tD Try.f21 0 11 (fun C S7=>?_)
 refine tD Try.f21 0 12 (fun D S8=>?_)
 refine tD Try.f21 0 13 (fun E S9=>?_)
 refine tD Try.f21 0 14 (fun F V=>?_)
 refine tP Try.f21 0 15 (v:=a) ?_
 refine tD Try.f21 0 16 (fun G W=>?_)
 refine tD Try.f21 0 17 (fun H X=>?_)
 refine tD Try.f21 0 18 (fun I Y=>?_)
 refine tD Try.f21 0 19 (fun J Z=>?_)
 refine tD Try.f21 0 20 (fun K a0=>?_)
 refine tD Try.f21 0 21 (fun L a1=>?_)
 refine tD Try.f21 0 22 (fun M a2=>?_)
 refine tD Try.f21 0 23 (fun N a3=>?_)
 refine tD Try.f21 0 24 (fun P a4=>?_)
 refine tD Try.f21 0 25 (fun Q a5=>?_)
 refine tD Try.f21 0 26 (fun a7 a6=>?_)
 kernel_rfl
theorem jw.r1 :jF zi ⟨false,false,false⟩ (jm zi O) (reg Try.f21 1) (reg Try.f21 1).toList ([a,b,R,U,x4,x5,x6,x7,x8,x9,d,f,g,i,j,k,l,m,n,o,p,q,r,s,t,u,w,x,y,z,A,B]) S =
  (zU ((jm zi O) 19 [(dem (dem a))] S) (fun v1 c=>some ([a,b,R,U,x4,x5,x6,x7,x8,x9,d,f,g,i,j,k,l,m,n,o,p,q,r,s,t,u,w,x,y,z,dem a,v1],c)) ()):=by
 kernel_rfl
theorem jw.rs:type_of% (aij @jw.r0 (@jw.r1)):=aij @jw.r0 (@jw.r1)
theorem jw.runs {a b:Value} {S c:zx} {e:AEx} {T:List Value} (h:zI zi O false jw.code ([a,b,zh,zh,zh,zh,zh,zh,zh,zh,zh,zh,zh,zh,zh,zh,zh,zh,zh,zh,zh,zh,zh,zh,zh,zh,zh,zh,zh,zh,zh,zh]) S=some (e,T,c)) (he:e=.normal∨e=.ret):jm zi O 21 [a,b] S=some (Value.tuple #[],c) :=
 wo rfl rfl Try.func21 (by decide) jw.body (by exact h) he rfl
end Go.Proofs.Ytblpnklfimkfoaa
namespace Go.Proofs.Ytblpnklfimkfoaa
open Go.Abs
abbrev jP.id:FuncId:=39
noncomputable def jP.code:Code:=(.region 0 (reg Try.f39 0) false)
theorem jP.body:Try.f39.body=some jP.code:=by kernel_rfl
variable (a b d f l m n o p q:Value) (S:zx)
theorem jP.r0 :jF zi ⟨false,false,false⟩ (jm zi O) (reg Try.f39 0) (reg Try.f39 0).toList ([a,b,d,f,l,m,n,o,p,q]) S =
  (zU (kY zi false Builtin.min #[3,3] 3 [(dem b),(.int .i64 65536)] S) (fun g c=>zU (kY zi false Builtin.max #[3,3] 3 [(.int .i64 0),g] c) (fun i r=>zU (wJ (dem a) r) (fun j s=>zU (zS zi 73 j 2 s) (fun k t=>zU (wz zi 3 k (dem i) t) (fun v u=>some ([a,b,d,f,dem a,dem b,g,i,j,k],u)) ()) ()) ()) ()) ()):=by
 kernel_rfl
theorem jP.rs:type_of% (@jP.r0):=@jP.r0
theorem jP.runs {a b:Value} {S c:zx} {e:AEx} {T:List Value} (h:zI zi O false jP.code ([a,b,zh,zh,zh,zh,zh,zh,zh,zh]) S=some (e,T,c)) (he:e=.normal∨e=.ret):jm zi O 39 [a,b] S=some (Value.tuple #[],c) :=
 wo rfl rfl Try.func39 (by decide) jP.body (by exact h) he rfl
end Go.Proofs.Ytblpnklfimkfoaa
namespace Go.Proofs.Ytblpnklfimkfoaa
open Go.Abs
def Z5 (S:zx) (q:Nat) (a:Option Addr) (data:List UInt8):Prop :=
 (a=none∧data=[])∨∃ r anc rest,a=some ⟨r,0,none⟩∧S.get r=some (.cells (data.flatMap cb++rest) (.own anc) 1)∧q < r∧r < S.next∧∀ a ∈ anc,q < a∧a < r
def Old (q:Nat) (S S1:zx):Prop:=∀ k,k < q→S1.get k=S.get k
theorem Old.refl (q:Nat) (S:zx):Old q S S:=fun _ _=>rfl
theorem Old.trans {q:Nat} {S S1 S2:zx} (h:Old q S S1) (k:Old q S1 S2):Old q S S2:=fun i hi=>(k i hi).trans (h i hi)
theorem Old.set {q r:Nat} {S S1:zx} (h:Old q S S1) (hr:q≤r) (o:qp):Old q S (S1.set r o):=fun i hi=>by rw [zx.jS,if_neg (by omega)];exact h i hi
structure Dk (S:zx) (q:Nat) (data:List UInt8) (sy room:Int):Prop where
 lt:q < S.next
 len:data.length≤65536
 sy0:0≤sy
 syl:sy≤data.length
 rm0:0≤room
 rml:room≤65536
 cell:∃ a,S.get q=some (.cells [.slice a data.length data.length,.int .i64 sy,.int .i64 room] (.own []) 0)∧Z5 S q a data
theorem Dk.ext {S S1:zx} {q:Nat} {data:List UInt8} {sy room:Int} (h:Dk S q data sy room) (k:Ext S S1):Dk S1 q data sy room:=by
 obtain ⟨a,h1,h2⟩:=h.cell
 refine ⟨Nat.lt_of_lt_of_le h.lt k.1,h.len,h.sy0,h.syl,h.rm0,h.rml,a,by rw [k.2 q h.lt];exact h1,?_⟩
 rcases h2 with h2 | ⟨r,anc,rest,h3,h4,h5,h6,h7⟩
 ·
  exact .inl h2
 ·
  exact .inr ⟨r,anc,rest,h3,by rw [k.2 r h6];exact h4,h5,Nat.lt_of_lt_of_le h6 k.1,h7⟩
theorem Dk.put {S:zx} {q:Nat} {data data':List UInt8} {sy room sy' room':Int} {a:Option Addr} (h:Dk S q data sy room) (hd:Z5 S q a data') (h0:data'.length≤65536) (h1:0≤sy') (h2:sy'≤data'.length) (h3:0≤room') (h4:room'≤65536) {cs:List Value} (hc:cs=[.slice a data'.length data'.length,.int .i64 sy',.int .i64 room']) :
  Dk (S.set q (.cells cs (.own []) 0)) q data' sy' room':=by
 subst hc
 refine ⟨by simpa using h.lt,h0,h1,h2,h3,h4,a,by rw [zx.jS,if_pos rfl],?_⟩
 rcases hd with hd | ⟨r,anc,rest,k1,k2,k3,k4,k5⟩
 ·
  exact .inl hd
 ·
  exact .inr ⟨r,anc,rest,k1,by rw [zx.jS,if_neg (by omega)];exact k2,k3,by simpa using k4,k5⟩
theorem Z5.take {S:zx} {q:Nat} {a:Option Addr} {data:List UInt8} (h:Z5 S q a data) (n:Nat):Z5 S q a (data.take n):=by
 rcases h with ⟨h1,h2⟩ | ⟨r,anc,rest,k1,k2,k3,k4,k5⟩
 ·
  exact .inl ⟨h1,by rw [h2,List.take_nil]⟩
 ·
  refine .inr ⟨r,anc,(data.drop n).flatMap cb++rest,k1,?_,k3,k4,k5⟩
  rw [k2,← List.append_assoc,← List.flatMap_append,List.take_append_drop]
def roomOf (room:Int) (n:Nat):Int:=if room - n > 0 then room - n else 0
section
variable {S:zx} {q:Nat} {data:List UInt8} {sy room:Int}
theorem jC.v (h:Dk S q data sy room):jm zi O jC.id [.pointer (some ⟨q,0,none⟩)] S=some (.int .i64 (roomOf room data.length),S):=by
 obtain ⟨T,hTe⟩:∃ T,T=(.pointer (some ⟨q,0,none⟩)::zh::zh::zh::zh::zh::zh::zh::zh::zh::zh::zh::zh::zh::[]):=⟨_,rfl⟩
 have hr:zI zi O true jC.code T S=zI zi O true jC.code T S:=rfl
 obtain ⟨a,h1,h2⟩:=h.cell
 have l1:=qU (t:=3) (o:=0+2) h1 JW rfl
 have l2:=Zw (t:=26) (o:=0+0) h1 qg rfl
 have ln:=fun S=>Yu wF a data.length data.length S
 have b1:=h.rm0;have b2:=h.rml;have b3:=h.len
 have w1:IntKind.i64.wrap (room - data.length)=room - data.length:=wrap_i64 (by omega) (by omega)
 conv at hr =>
  rhs
  rw [hTe]
  simp only [jC.code,jC.rs,zSs,reduceIte,zk,zn,zo,zq,y7,yR,Jd,l1,l2,ln,goInt,w1,ahT]
 rw [hTe] at hr
 exact jC.runs hr (.inr rfl)
theorem jP.v {r:Int} (h:Dk S q data sy room):∃ v S1,jm zi O jP.id [.pointer (some ⟨q,0,none⟩),.int .i64 r] S=some (v,S1)∧Dk S1 q data sy (max 0 (min r 65536))∧Old q S S1:=by
 obtain ⟨T,hTe⟩:∃ T,T=(.pointer (some ⟨q,0,none⟩)::.int .i64 r::zh::zh::zh::zh::zh::zh::zh::zh::[]):=⟨_,rfl⟩
 have hr:zI zi O false jP.code T S=zI zi O false jP.code T S:=rfl
 obtain ⟨a,h1,h2⟩:=h.cell
 have s1:=fun x:Int=>xg (P:=zi) (t:=3) (o:=0+2) (x:=.int .i64 x) h1 abz rfl rfl (by simp)
 conv at hr =>
  rhs
  rw [hTe]
  simp only [jP.code,jP.rs,zSs,reduceIte,zk,zn,zo,zq,y7,Jd,ahZ,ahT,s1]
 rw [hTe] at hr
 have hrun:=jP.runs hr (.inl rfl)
 refine ⟨_,_,hrun,?_⟩
 have e:∀ x:Int,(if (if (65536:Int) < x then 65536 else x) > 0 then (if (65536:Int) < x then 65536 else x) else 0)=max 0 (min x 65536):=by intro x;split <;> omega
 rw [e]
 exact ⟨h.put h2 h.len h.sy0 h.syl (by omega) (by omega) rfl,(Old.refl q S).set (Nat.le_refl _) _⟩
end
end Go.Proofs.Ytblpnklfimkfoaa
