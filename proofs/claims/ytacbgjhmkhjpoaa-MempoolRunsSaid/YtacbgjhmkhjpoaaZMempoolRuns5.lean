/-
The law MempoolRuns returns true for every input, and leaves it as it was; no condition. Part 5 of 5 of the texts (put together by a program: own names are short, what isn't needed is left out).
-/
import Derived.Test.YtacbgjhmkhjpoaaZMempoolRuns4
import Derived.Test.YtacbgjhmkhjpoaaChecked
import Derived.KernelRfl
import Derived.Test.YtacbgjhmkhjpoaaRows
import Derived.WalkKit
import Derived.ProofKit
import Derived.OpenShut
import Derived.ShutString
import Derived.ChangeOld
import Derived.Below
import Derived.SizedLaws
import Derived.Carry
set_option linter.unusedVariables false
set_option linter.unusedSimpArgs false
set_option maxRecDepth 100000
open Go renaming undef → zh
open Go.Proofs.Try renaming prog → zi
open Nat renaming reduceEqDiff → zk
open Int renaming reduceEq → zn
open Int renaming reduceLT → zo
open Int renaming reduceLE → zq
namespace Go.Proofs.Ytacbgjhmkhjpoaa
open Go.Abs
abbrev zU.id:FuncId:=11
noncomputable def zU.code:Code:=(.seq (.region 0 (reg Try.f11 0) false) (.seq (.region 1 (reg Try.f11 1) false) Code.ret))
theorem zU.body:Try.f11.body=some zU.code:=by kernel_rfl
variable (b d l f g i j k:Value) (S:zx)
theorem zU.r0 :jh zi ⟨false,false,false⟩ (zT zi O) (reg Try.f11 0) (reg Try.f11 0).toList ([b,d,l,f,g,i,j,k]) S =
  ( some ([b,d,Value.slice none 0 0,f,g,i,j,k],S)):=by
 kernel_rfl
theorem zU.r1 :jh zi ⟨false,false,false⟩ (zT zi O) (reg Try.f11 1) (reg Try.f11 1).toList ([b,d,l,f,g,i,j,k]) S =
  (zW (jX (dem b) S) (fun m c=>zW (zK zi 49 m 0 c) (fun n q=>zW (jf zi false 23 n q) (fun o r=>zW ((zT zi O) 21 [(dem o)] r) (fun p s=>some ([b,d,p,dem b,m,n,o,dem p],s)) ()) ()) ()) ()):=by
 kernel_rfl
theorem zU.rs:type_of% (afL @zU.r0 (@zU.r1)):=afL @zU.r0 (@zU.r1)
theorem zU.runs {b:Value} {S c:zx} {e:AEx} {T:List Value} (h:zG zi O false zU.code ([b,zh,zh,zh,zh,zh,zh,zh]) S=some (e,T,c)) (he:e=.normal∨e=.ret):zT zi O 11 [b] S=some (T.getD 2 zh,c) :=
 jC rfl rfl Try.func11 (by decide) zU.body (by exact h) he (jD (a:=T.getD 2 zh) ((show zJ zi T c Try.f11.results.toList=zJ zi T c [(ResultVar.tmp 2)] from by kernel_rfl).trans (by simp only [zJ])) (by kernel_rfl))
end Go.Proofs.Ytacbgjhmkhjpoaa
namespace Go.Proofs.Ytacbgjhmkhjpoaa
open Go.Abs
abbrev zV.id:FuncId:=17
noncomputable def zV.code:Code:=(.seq (.region 0 (reg Try.f17 0) false) (.region 1 (reg Try.f17 1) false))
theorem zV.body:Try.f17.body=some zV.code:=by kernel_rfl
variable (a b j d k l m n o p f g i:Value) (S:zx)
theorem zV.r0 :jh zi ⟨false,false,false⟩ (zT zi O) (reg Try.f17 0) (reg Try.f17 0).toList ([a,b,j,d,k,l,m,n,o,p,f,g,i]) S =
  (zW (ZC (dem b) S) (fun w c=>some ([a,b,j,w,k,l,m,n,o,p,f,g,i],c)) ()):=by
 kernel_rfl
theorem zV.r1 :jh zi ⟨false,false,false⟩ (zT zi O) (reg Try.f17 1) (reg Try.f17 1).toList ([a,b,j,d,k,l,m,n,o,p,f,g,i]) S =
  (zW (jX (dem a) S) (fun q c=>zW (zK zi 49 q 0 c) (fun r x=>zW (jf zi false 23 r x) (fun s y=>zW ((zT zi O) 30 [(dem s),(Value.func (Fn.func 31) #[] #[(dem d)])] y) (fun t z=>zW (jX (dem a) z) (fun u A=>zW (zK zi 49 u 0 A) (fun v B=>zW (qE zi 23 v (dem t) B) (fun D C=>some ([a,b,j,d,dem a,dem a,q,r,s,Value.func (Fn.func 31) #[] #[(dem d)],t,u,v],C)) ()) ()) ()) ()) ()) ()) ()):=by
 kernel_rfl
theorem zV.rs:type_of% (afL @zV.r0 (@zV.r1)):=afL @zV.r0 (@zV.r1)
theorem zV.runs {a b:Value} {S c:zx} {e:AEx} {T:List Value} (h:zG zi O false zV.code ([a,b,zh,zh,zh,zh,zh,zh,zh,zh,zh,zh,zh]) S=some (e,T,c)) (he:e=.normal∨e=.ret):zT zi O 17 [a,b] S=some (Value.tuple #[],c) :=
 jC rfl rfl Try.func17 (by decide) zV.body (by exact h) he rfl
end Go.Proofs.Ytacbgjhmkhjpoaa
namespace Go.Proofs.Ytacbgjhmkhjpoaa
open Go.Abs
abbrev zL.id:FuncId:=31
noncomputable def zL.code:Code:=(.seq (.region 0 (reg Try.f31 0) false) (.seq (.region 1 (reg Try.f31 1) false) Code.ret))
theorem zL.body:Try.f31.body=some zL.code:=by kernel_rfl
variable (b c f m i j k l:Value) (S:zx)
theorem zL.r0 :jh zi ⟨false,false,false⟩ (zT zi O) (reg Try.f31 0) (reg Try.f31 0).toList ([b,c,f,m,i,j,k,l]) S =
  (zW (ZC (dem b) S) (fun g d=>some ([b,c,g,Value.bool false,i,j,k,l],d)) ()):=by
 kernel_rfl
theorem zL.r1 :jh zi ⟨false,false,false⟩ (zT zi O) (reg Try.f31 1) (reg Try.f31 1).toList ([b,c,f,m,i,j,k,l]) S =
  (zW (jf zi false 38 c S) (fun g d=>zW (zK zi 30 f 0 d) (fun n q=>zW (jf zi false 3 n q) (fun o r=>zW ((zT zi O) 29 [(dem g),(dem o)] r) (fun p s=>some ([b,c,f,p,g,n,o,dem p],s)) ()) ()) ()) ()):=by
 kernel_rfl
theorem zL.rs:type_of% (afL @zL.r0 (@zL.r1)):=afL @zL.r0 (@zL.r1)
theorem zL.runs {b c:Value} {S d:zx} {e:AEx} {T:List Value} (h:zG zi O false zL.code ([b,c,zh,zh,zh,zh,zh,zh]) S=some (e,T,d)) (he:e=.normal∨e=.ret):zT zi O 31 [b,c] S=some (T.getD 3 zh,d) :=
 jC rfl rfl Try.func31 (by decide) zL.body (by exact h) he (jD (a:=T.getD 3 zh) ((show zJ zi T d Try.f31.results.toList=zJ zi T d [(ResultVar.tmp 3)] from by kernel_rfl).trans (by simp only [zJ])) (by kernel_rfl))
end Go.Proofs.Ytacbgjhmkhjpoaa
namespace Go.Proofs.Ytacbgjhmkhjpoaa
open Go.Abs
abbrev zD.id:FuncId:=16
noncomputable def zD.je:Code:=(.seq (.region 3 (reg Try.f16 3) false) (.seq (.cond (.tmp 16) Code.skip (.exit 0)) (.seq (.block 1 (.seq (.region 4 (reg Try.f16 4) false) (.seq (.region 5 (reg Try.f16 5) false) (.cond (.tmp 29) (.region 6 (reg Try.f16 6) false) Code.skip)))) (.region 7 (reg Try.f16 7) false))))
noncomputable def zD.code:Code:=(.seq (.region 0 (reg Try.f16 0) false) (.seq (.region 1 (reg Try.f16 1) false) (.seq (.seq (.region 2 (reg Try.f16 2) false) (.block 0 (.loop zD.je))) (.seq (.region 8 (reg Try.f16 8) false) Code.ret))))
theorem zD.body:Try.f16.body=some zD.code:=by kernel_rfl
theorem zD.eta {T:List Value} (h:T.length=36):T=[T.getD 0 zh,T.getD 1 zh,T.getD 2 zh,T.getD 3 zh,T.getD 4 zh,T.getD 5 zh,T.getD 6 zh,T.getD 7 zh,T.getD 8 zh,T.getD 9 zh,T.getD 10 zh,T.getD 11 zh,T.getD 12 zh,T.getD 13 zh,T.getD 14 zh,T.getD 15 zh,T.getD 16 zh,T.getD 17 zh,T.getD 18 zh,T.getD 19 zh,T.getD 20 zh,T.getD 21 zh,T.getD 22 zh,T.getD 23 zh,T.getD 24 zh,T.getD 25 zh,T.getD 26 zh,T.getD 27 zh,T.getD 28 zh,T.getD 29 zh,T.getD 30 zh,T.getD 31 zh,T.getD 32 zh,T.getD 33 zh,T.getD 34 zh,T.getD 35 zh]:=(yZ T 36 h).trans (by kernel_rfl)
variable (G F I K L M R H N J f g i c d b k l m n o p q r s t u w x y z A B C D E:Value) (S:zx)
theorem zD.r0 :jh zi ⟨false,false,false⟩ (zT zi O) (reg Try.f16 0) (reg Try.f16 0).toList ([G,F,I,K,L,M,R,H,N,J,f,g,i,c,d,b,k,l,m,n,o,p,q,r,s,t,u,w,x,y,z,A,B,C,D,E]) S =
  ( some ([G,F,I,K,L,M,Value.slice none 0 0,H,N,J,f,g,i,c,d,b,k,l,m,n,o,p,q,r,s,t,u,w,x,y,z,A,B,C,D,E],S)):=by
 kernel_rfl
theorem zD.r1 :jh zi ⟨false,false,false⟩ (zT zi O) (reg Try.f16 1) (reg Try.f16 1).toList ([G,F,I,K,L,M,R,H,N,J,f,g,i,c,d,b,k,l,m,n,o,p,q,r,s,t,u,w,x,y,z,A,B,C,D,E]) S =
  ( some ([G,F,I,K,L,M,R,Value.slice none 0 0,N,J,f,g,i,c,d,b,k,l,m,n,o,p,q,r,s,t,u,w,x,y,z,A,B,C,D,E],S)):=by
 kernel_rfl
theorem zD.r2 :jh zi ⟨false,false,false⟩ (zT zi O) (reg Try.f16 2) (reg Try.f16 2).toList ([G,F,I,K,L,M,R,H,N,J,f,g,i,c,d,b,k,l,m,n,o,p,q,r,s,t,u,w,x,y,z,A,B,C,D,E]) S =
  (zW (jX (dem G) S) (fun U P=>zW (zK zi 49 U 0 P) (fun V W=>zW (jf zi false 23 V W) (fun Q X=>zW (xI zi 23 Q X) (fun v4 Z=>some ([G,F,I,K,L,M,R,H,N,J,dem G,U,V,Q,v4,.int .i64 0,k,l,m,n,o,p,q,r,s,t,u,w,x,y,z,A,B,C,D,E],Z)) ()) ()) ()) ()):=by
 kernel_rfl
theorem zD.r3 :jh zi ⟨false,false,false⟩ (zT zi O) (reg Try.f16 3) (reg Try.f16 3).toList ([G,F,I,K,L,M,R,H,N,J,f,g,i,c,d,b,k,l,m,n,o,p,q,r,s,t,u,w,x,y,z,A,B,C,D,E]) S =
  (zW (wV zi BinOp.lss 3 b d S) (fun Y P=>some ([G,F,I,K,L,M,R,H,N,J,f,g,i,c,d,b,Y,l,m,n,o,p,q,r,s,t,u,w,x,y,z,A,B,C,D,E],P)) ()):=by
 kernel_rfl
theorem zD.r4 :jh zi ⟨false,false,false⟩ (zT zi O) (reg Try.f16 4) (reg Try.f16 4).toList ([G,F,I,K,L,M,R,H,N,J,f,g,i,c,d,b,k,l,m,n,o,p,q,r,s,t,u,w,x,y,z,A,B,C,D,E]) S =
  (zW (zZ zi 23 c b S) (fun Y P=>zW (jf zi false 30 Y P) (fun U W=>zW (qJ zi 30 W) (fun V X=>zW (qE zi 30 V (dem U) X) (fun Q Z=>some ([G,F,I,K,L,M,R,H,N,V,f,g,i,c,d,b,k,Y,U,n,o,p,q,r,s,t,u,w,x,y,z,A,B,C,D,E],Z)) ()) ()) ()) ()):=by
 kernel_rfl
theorem zD.r5 :jh zi ⟨false,false,false⟩ (zT zi O) (reg Try.f16 5) (reg Try.f16 5).toList ([G,F,I,K,L,M,R,H,N,J,f,g,i,c,d,b,k,l,m,n,o,p,q,r,s,t,u,w,x,y,z,A,B,C,D,E]) S =
  (zW (xI zi 23 (dem H) S) (fun U P=>zW (wV zi BinOp.lss 3 U (dem F) P) (fun Q W=>gdK (dem Q) true (ret I) W (fun v5 X=>gdK (dem Q) true (zK zi 30 J 0) X (fun v6 Z=>gdK (dem Q) true (jf zi false 3 v6) Z (fun v7 S5=>gdK (dem Q) true ((zT zi O) 29 [(dem (dem v5)),(dem v7)]) S5 (fun v8 S6=>gdK (dem Q) true (aUn zi UnOp.not v8) S6 (fun v9 S7=>zW (xk (dem Q) v9 (Value.bool false) S7) (fun a0 S8=>some ([G,F,I,K,L,M,R,H,N,J,f,g,i,c,d,b,k,l,m,dem H,U,dem F,Q,dem Q,dem v5,v6,v7,v8,v9,a0,z,A,B,C,D,E],S8)) ()) ()) ()) ()) ()) ()) ()) ()):=by
 refine sP Try.f16 5 0 (v:=H) ?_
 refine sD Try.f16 5 1 (fun U P=>?_)
 refine sP Try.f16 5 2 (v:=F) ?_
 refine sD Try.f16 5 3 (fun Q W=>?_)
 refine sP Try.f16 5 4 (v:=Q) ?_
 refine sG Try.f16 5 5 (j:=4) (fun v5 X=>?_)
 refine sG Try.f16 5 6 (j:=4) (fun v6 Z=>?_)
 refine sG Try.f16 5 7 (j:=4) (fun v7 S5=>?_)
 refine sG Try.f16 5 8 (j:=4) (fun v8 S6=>?_)
 refine sG Try.f16 5 9 (j:=4) (fun v9 S7=>?_)
 refine sD Try.f16 5 10 (fun a0 S8=>?_)
 kernel_rfl
theorem zD.r6 :jh zi ⟨false,false,false⟩ (zT zi O) (reg Try.f16 6) (reg Try.f16 6).toList ([G,F,I,K,L,M,R,H,N,J,f,g,i,c,d,b,k,l,m,n,o,p,q,r,s,t,u,w,x,y,z,A,B,C,D,E]) S =
  (zW (jf zi false 30 J S) (fun U P=>zW (jd zi 23 1 [(0,U)] P) (fun V W=>zW (yE zi 23 23 H V W) (fun Q X=>some ([G,F,I,K,L,M,R,Q,N,J,f,g,i,c,d,b,k,l,m,n,o,p,q,r,s,t,u,w,x,y,dem H,U,V,dem Q,D,E],X)) ()) ()) ()):=by
 kernel_rfl
theorem zD.r7 :jh zi ⟨false,false,false⟩ (zT zi O) (reg Try.f16 7) (reg Try.f16 7).toList ([G,F,I,K,L,M,R,H,N,J,f,g,i,c,d,b,k,l,m,n,o,p,q,r,s,t,u,w,x,y,z,A,B,C,D,E]) S =
  (zW (wV zi BinOp.add 3 b (.int .i64 1) S) (fun Y P=>some ([G,F,I,K,L,M,R,H,N,J,f,g,i,c,d,dem Y,k,l,m,n,o,p,q,r,s,t,u,w,x,y,z,A,B,C,Y,E],P)) ()):=by
 kernel_rfl
theorem zD.r8 :jh zi ⟨false,false,false⟩ (zT zi O) (reg Try.f16 8) (reg Try.f16 8).toList ([G,F,I,K,L,M,R,H,N,J,f,g,i,c,d,b,k,l,m,n,o,p,q,r,s,t,u,w,x,y,z,A,B,C,D,E]) S =
  ( some ([G,F,I,K,L,M,H,dem H,N,J,f,g,i,c,d,b,k,l,m,n,o,p,q,r,s,t,u,w,x,y,z,A,B,C,D,dem H],S)):=by
 kernel_rfl
theorem zD.rs:type_of% (afL @zD.r0 (afL @zD.r1 (afL @zD.r2 (afL @zD.r3 (afL @zD.r4 (afL @zD.r5 (afL @zD.r6 (afL @zD.r7 (@zD.r8))))))))):=afL @zD.r0 (afL @zD.r1 (afL @zD.r2 (afL @zD.r3 (afL @zD.r4 (afL @zD.r5 (afL @zD.r6 (afL @zD.r7 (@zD.r8))))))))
theorem zD.runs {G F I:Value} {S P:zx} {e:AEx} {T:List Value} (h:zG zi O false zD.code ([G,F,I,zh,zh,zh,zh,zh,zh,zh,zh,zh,zh,zh,zh,zh,zh,zh,zh,zh,zh,zh,zh,zh,zh,zh,zh,zh,zh,zh,zh,zh,zh,zh,zh,zh]) S=some (e,T,P)) (he:e=.normal∨e=.ret):zT zi O 16 [G,F,I] S=some (T.getD 6 zh,P) :=
 jC rfl rfl Try.func16 (by decide) zD.body (by exact h) he (jD (a:=T.getD 6 zh) ((show zJ zi T P Try.f16.results.toList=zJ zi T P [(ResultVar.tmp 6)] from by kernel_rfl).trans (by simp only [zJ])) (by kernel_rfl))
end Go.Proofs.Ytacbgjhmkhjpoaa
namespace Go.Proofs.Ytacbgjhmkhjpoaa
open Go.Abs
abbrev slices_Clone.id:FuncId:=21
noncomputable def slices_Clone.code:Code:=(.seq (.region 0 (reg Try.f21 0) false) (.seq (.seq (.region 1 (reg Try.f21 1) false) (.cond (.tmp 4) (.seq (.region 2 (reg Try.f21 2) false) Code.ret) Code.skip)) (.seq (.region 3 (reg Try.f21 3) false) Code.ret)))
theorem slices_Clone.body:Try.f21.body=some slices_Clone.code:=by kernel_rfl
variable (b c l f g i j k:Value) (S:zx)
theorem slices_Clone.r0 :jh zi ⟨false,false,false⟩ (zT zi O) (reg Try.f21 0) (reg Try.f21 0).toList ([b,c,l,f,g,i,j,k]) S =
  ( some ([b,c,Value.slice none 0 0,f,g,i,j,k],S)):=by
 kernel_rfl
theorem slices_Clone.r1 :jh zi ⟨false,false,false⟩ (zT zi O) (reg Try.f21 1) (reg Try.f21 1).toList ([b,c,l,f,g,i,j,k]) S =
  (zW (wV zi BinOp.eql 23 (dem b) (Value.slice none 0 0) S) (fun o d=>some ([b,c,l,dem b,o,i,j,k],d)) ()):=by
 kernel_rfl
theorem slices_Clone.r2 :jh zi ⟨false,false,false⟩ (zT zi O) (reg Try.f21 2) (reg Try.f21 2).toList ([b,c,l,f,g,i,j,k]) S =
  ( some ([b,c,Value.slice none 0 0,f,g,i,j,k],S)):=by
 kernel_rfl
theorem slices_Clone.r3 :jh zi ⟨false,false,false⟩ (zT zi O) (reg Try.f21 3) (reg Try.f21 3).toList ([b,c,l,f,g,i,j,k]) S =
  (zW (jd zi 23 0 [] S) (fun m d=>zW (yE zi 23 23 m (dem b) d) (fun n p=>some ([b,c,n,f,g,dem m,dem b,dem n],p)) ()) ()):=by
 kernel_rfl
theorem slices_Clone.rs:type_of% (afL @slices_Clone.r0 (afL @slices_Clone.r1 (afL @slices_Clone.r2 (@slices_Clone.r3)))):=afL @slices_Clone.r0 (afL @slices_Clone.r1 (afL @slices_Clone.r2 (@slices_Clone.r3)))
theorem slices_Clone.runs {b:Value} {S d:zx} {e:AEx} {T:List Value} (h:zG zi O false slices_Clone.code ([b,zh,zh,zh,zh,zh,zh,zh]) S=some (e,T,d)) (he:e=.normal∨e=.ret):zT zi O 21 [b] S=some (T.getD 2 zh,d) :=
 jC rfl rfl Try.func21 (by decide) slices_Clone.body (by exact h) he (jD (a:=T.getD 2 zh) ((show zJ zi T d Try.f21.results.toList=zJ zi T d [(ResultVar.tmp 2)] from by kernel_rfl).trans (by simp only [zJ])) (by kernel_rfl))
end Go.Proofs.Ytacbgjhmkhjpoaa
namespace Go.Proofs.Ytacbgjhmkhjpoaa
open Go.Abs
abbrev jo.id:FuncId:=10
noncomputable def jo.code:Code:=(.seq (.region 0 (reg Try.f10 0) false) (.seq (.region 1 (reg Try.f10 1) false) Code.ret))
theorem jo.body:Try.f10.body=some jo.code:=by kernel_rfl
variable (f c d:Value) (S:zx)
theorem jo.r0 :jh zi ⟨false,false,false⟩ (zT zi O) (reg Try.f10 0) (reg Try.f10 0).toList ([f,c,d]) S =
  ( some ([Value.pointer none,c,d],S)):=by
 kernel_rfl
theorem jo.r1 :jh zi ⟨false,false,false⟩ (zT zi O) (reg Try.f10 1) (reg Try.f10 1).toList ([f,c,d]) S =
  (zW (yj zi 49 [] S) (fun g b=>zW (ZC (dem g) b) (fun i j=>some ([i,g,dem i],j)) ()) ()):=by
 kernel_rfl
theorem jo.rs:type_of% (afL @jo.r0 (@jo.r1)):=afL @jo.r0 (@jo.r1)
theorem jo.runs {S b:zx} {e:AEx} {T:List Value} (h:zG zi O false jo.code ([zh,zh,zh]) S=some (e,T,b)) (he:e=.normal∨e=.ret):zT zi O 10 [] S=some (T.getD 0 zh,b) :=
 jC rfl rfl Try.func10 (by decide) jo.body (by exact h) he (jD (a:=T.getD 0 zh) ((show zJ zi T b Try.f10.results.toList=zJ zi T b [(ResultVar.tmp 0)] from by kernel_rfl).trans (by simp only [zJ])) (by kernel_rfl))
end Go.Proofs.Ytacbgjhmkhjpoaa
namespace Go.Proofs.Ytacbgjhmkhjpoaa
open Go.Abs
abbrev zC.id:FuncId:=12
noncomputable def zC.code:Code:=(.seq (.region 0 (reg Try.f12 0) false) (.seq (.seq (.region 1 (reg Try.f12 1) false) (.cond (.tmp 8) (.seq (.region 2 (reg Try.f12 2) false) Code.ret) Code.skip)) (.seq (.seq (.region 3 (reg Try.f12 3) false) (.cond (.tmp 14) (.seq (.region 4 (reg Try.f12 4) false) Code.ret) Code.skip)) (.seq (.region 5 (reg Try.f12 5) false) (.seq (.seq (.region 6 (reg Try.f12 6) false) (.cond (.tmp 22) (.region 7 (reg Try.f12 7) false) Code.skip)) (.seq (.seq (.region 8 (reg Try.f12 8) false) (.cond (.tmp 29) (.seq (.region 9 (reg Try.f12 9) false) Code.ret) Code.skip)) (.seq (.region 10 (reg Try.f12 10) true) (.seq (.region 11 (reg Try.f12 11) true) (.seq (.region 12 (reg Try.f12 12) false) Code.ret)))))))))
theorem zC.body:Try.f12.body=some zC.code:=by kernel_rfl
variable (b x1 x2 x3 x4 x5 x6 x7 x8 x9 c d f g i j k l m n o p q r s t u w x y z A B C D E F G H I J K L M N P Q R U V W X Y Z a0:Value) (S:zx)
theorem zC.r0 :jh zi ⟨true,false,false⟩ (jY O.hp true (zT zi O)) (reg Try.f12 0) (reg Try.f12 0).toList ([b,x1,x2,x3,x4,x5,x6,x7,x8,x9,c,d,f,g,i,j,k,l,m,n,o,p,q,r,s,t,u,w,x,y,z,A,B,C,D,E,F,G,H,I,J,K,L,M,N,P,Q,R,U,V,W,X,Y,Z,a0]) S =
  (zW (ZC (dem x1) S) (fun v0 S1=>some ([b,x1,x2,v0,.int .i64 0,x5,x6,x7,x8,x9,c,d,f,g,i,j,k,l,m,n,o,p,q,r,s,t,u,w,x,y,z,A,B,C,D,E,F,G,H,I,J,K,L,M,N,P,Q,R,U,V,W,X,Y,Z,a0],S1)) ()):=by
 kernel_rfl
theorem zC.r1 :jh zi ⟨true,false,false⟩ (jY O.hp true (zT zi O)) (reg Try.f12 1) (reg Try.f12 1).toList ([b,x1,x2,x3,x4,x5,x6,x7,x8,x9,c,d,f,g,i,j,k,l,m,n,o,p,q,r,s,t,u,w,x,y,z,A,B,C,D,E,F,G,H,I,J,K,L,M,N,P,Q,R,U,V,W,X,Y,Z,a0]) S =
  (zW (jf zi false 30 x3 S) (fun v0 S1=>zW (vk (zT zi O) 22 [(dem v0)] S1) (fun v1 S2=>zW (aUn zi UnOp.not v1 S2) (fun v2 S3=>some ([b,x1,x2,x3,x4,x5,v0,v1,v2,x9,c,d,f,g,i,j,k,l,m,n,o,p,q,r,s,t,u,w,x,y,z,A,B,C,D,E,F,G,H,I,J,K,L,M,N,P,Q,R,U,V,W,X,Y,Z,a0],S3)) ()) ()) ()):=by
 kernel_rfl
theorem zC.r2 :jh zi ⟨true,false,false⟩ (jY O.hp true (zT zi O)) (reg Try.f12 2) (reg Try.f12 2).toList ([b,x1,x2,x3,x4,x5,x6,x7,x8,x9,c,d,f,g,i,j,k,l,m,n,o,p,q,r,s,t,u,w,x,y,z,A,B,C,D,E,F,G,H,I,J,K,L,M,N,P,Q,R,U,V,W,X,Y,Z,a0]) S =
  ( some ([b,x1,x2,x3,.int .i64 61,x5,x6,x7,x8,x9,c,d,f,g,i,j,k,l,m,n,o,p,q,r,s,t,u,w,x,y,z,A,B,C,D,E,F,G,H,I,J,K,L,M,N,P,Q,R,U,V,W,X,Y,Z,a0],S)):=by
 kernel_rfl
theorem zC.r3 :jh zi ⟨true,false,false⟩ (jY O.hp true (zT zi O)) (reg Try.f12 3) (reg Try.f12 3).toList ([b,x1,x2,x3,x4,x5,x6,x7,x8,x9,c,d,f,g,i,j,k,l,m,n,o,p,q,r,s,t,u,w,x,y,z,A,B,C,D,E,F,G,H,I,J,K,L,M,N,P,Q,R,U,V,W,X,Y,Z,a0]) S =
  (zW (jX (dem b) S) (fun v1 S1=>zW (zK zi 49 v1 0 S1) (fun v2 S2=>zW (jf zi false 23 v2 S2) (fun v3 S3=>zW (vk (zT zi O) 23 [(dem v3),(Value.func (Fn.func 24) #[] #[(dem x3)])] S3) (fun v5 S4=>some ([b,x1,x2,x3,x4,x5,x6,x7,x8,dem b,v1,v2,v3,Value.func (Fn.func 24) #[] #[(dem x3)],v5,j,k,l,m,n,o,p,q,r,s,t,u,w,x,y,z,A,B,C,D,E,F,G,H,I,J,K,L,M,N,P,Q,R,U,V,W,X,Y,Z,a0],S4)) ()) ()) ()) ()):=by
 kernel_rfl
theorem zC.r4 :jh zi ⟨true,false,false⟩ (jY O.hp true (zT zi O)) (reg Try.f12 4) (reg Try.f12 4).toList ([b,x1,x2,x3,x4,x5,x6,x7,x8,x9,c,d,f,g,i,j,k,l,m,n,o,p,q,r,s,t,u,w,x,y,z,A,B,C,D,E,F,G,H,I,J,K,L,M,N,P,Q,R,U,V,W,X,Y,Z,a0]) S =
  ( some ([b,x1,x2,x3,.int .i64 91,x5,x6,x7,x8,x9,c,d,f,g,i,j,k,l,m,n,o,p,q,r,s,t,u,w,x,y,z,A,B,C,D,E,F,G,H,I,J,K,L,M,N,P,Q,R,U,V,W,X,Y,Z,a0],S)):=by
 kernel_rfl
theorem zC.r5 :jh zi ⟨true,false,false⟩ (jY O.hp true (zT zi O)) (reg Try.f12 5) (reg Try.f12 5).toList ([b,x1,x2,x3,x4,x5,x6,x7,x8,x9,c,d,f,g,i,j,k,l,m,n,o,p,q,r,s,t,u,w,x,y,z,A,B,C,D,E,F,G,H,I,J,K,L,M,N,P,Q,R,U,V,W,X,Y,Z,a0]) S =
  (zW (jX (dem b) S) (fun v1 S1=>zW (zK zi 49 v1 0 S1) (fun v2 S2=>zW (jf zi false 23 v2 S2) (fun v3 S3=>zW (vk (zT zi O) 25 [(dem v3),(Value.func (Fn.func 26) #[] #[(dem x3)])] S3) (fun v5 S4=>some ([b,x1,x2,x3,x4,v5,x6,x7,x8,x9,c,d,f,g,i,dem b,v1,v2,v3,Value.func (Fn.func 26) #[] #[(dem x3)],dem v5,p,q,r,s,t,u,w,x,y,z,A,B,C,D,E,F,G,H,I,J,K,L,M,N,P,Q,R,U,V,W,X,Y,Z,a0],S4)) ()) ()) ()) ()):=by
 kernel_rfl
theorem zC.r6 :jh zi ⟨true,false,false⟩ (jY O.hp true (zT zi O)) (reg Try.f12 6) (reg Try.f12 6).toList ([b,x1,x2,x3,x4,x5,x6,x7,x8,x9,c,d,f,g,i,j,k,l,m,n,o,p,q,r,s,t,u,w,x,y,z,A,B,C,D,E,F,G,H,I,J,K,L,M,N,P,Q,R,U,V,W,X,Y,Z,a0]) S =
  (zW (wV zi BinOp.lss 3 (dem x5) (.int .i64 0) S) (fun v1 S1=>some ([b,x1,x2,x3,x4,x5,x6,x7,x8,x9,c,d,f,g,i,j,k,l,m,n,o,dem x5,v1,r,s,t,u,w,x,y,z,A,B,C,D,E,F,G,H,I,J,K,L,M,N,P,Q,R,U,V,W,X,Y,Z,a0],S1)) ()):=by
 kernel_rfl
theorem zC.r7 :jh zi ⟨true,false,false⟩ (jY O.hp true (zT zi O)) (reg Try.f12 7) (reg Try.f12 7).toList ([b,x1,x2,x3,x4,x5,x6,x7,x8,x9,c,d,f,g,i,j,k,l,m,n,o,p,q,r,s,t,u,w,x,y,z,A,B,C,D,E,F,G,H,I,J,K,L,M,N,P,Q,R,U,V,W,X,Y,Z,a0]) S =
  (zW (jX (dem b) S) (fun v1 S1=>zW (zK zi 49 v1 0 S1) (fun v2 S2=>zW (jf zi false 23 v2 S2) (fun v3 S3=>zW (xI zi 23 v3 S3) (fun v4 S4=>some ([b,x1,x2,x3,x4,v4,x6,x7,x8,x9,c,d,f,g,i,j,k,l,m,n,o,p,q,dem b,v1,v2,v3,dem v4,x,y,z,A,B,C,D,E,F,G,H,I,J,K,L,M,N,P,Q,R,U,V,W,X,Y,Z,a0],S4)) ()) ()) ()) ()):=by
 kernel_rfl
theorem zC.r8 :jh zi ⟨true,false,false⟩ (jY O.hp true (zT zi O)) (reg Try.f12 8) (reg Try.f12 8).toList ([b,x1,x2,x3,x4,x5,x6,x7,x8,x9,c,d,f,g,i,j,k,l,m,n,o,p,q,r,s,t,u,w,x,y,z,A,B,C,D,E,F,G,H,I,J,K,L,M,N,P,Q,R,U,V,W,X,Y,Z,a0]) S =
  (zW (wV zi BinOp.eql 3 (dem x5) (.int .i64 16) S) (fun v1 S1=>some ([b,x1,x2,x3,x4,x5,x6,x7,x8,x9,c,d,f,g,i,j,k,l,m,n,o,p,q,r,s,t,u,w,dem x5,v1,z,A,B,C,D,E,F,G,H,I,J,K,L,M,N,P,Q,R,U,V,W,X,Y,Z,a0],S1)) ()):=by
 kernel_rfl
theorem zC.r9 :jh zi ⟨true,false,false⟩ (jY O.hp true (zT zi O)) (reg Try.f12 9) (reg Try.f12 9).toList ([b,x1,x2,x3,x4,x5,x6,x7,x8,x9,c,d,f,g,i,j,k,l,m,n,o,p,q,r,s,t,u,w,x,y,z,A,B,C,D,E,F,G,H,I,J,K,L,M,N,P,Q,R,U,V,W,X,Y,Z,a0]) S =
  ( some ([b,x1,x2,x3,.int .i64 91,x5,x6,x7,x8,x9,c,d,f,g,i,j,k,l,m,n,o,p,q,r,s,t,u,w,x,y,z,A,B,C,D,E,F,G,H,I,J,K,L,M,N,P,Q,R,U,V,W,X,Y,Z,a0],S)):=by
 kernel_rfl
theorem zC.d10:kC zi (reg Try.f12 10)=true:=by kernel_rfl
theorem zC.afK:fixed zi (reg Try.f12 10)=false:=by kernel_rfl
theorem zC.k10:checked zi (reg Try.f12 10)=[0,0,1,2,3,4,5]:=by kernel_rfl
theorem zC.g10:again zi (reg Try.f12 10)=[(4,7)]:=by kernel_rfl
theorem zC.r10 :zG zi O true (.region 10 (reg Try.f12 10) true) ([b,x1,x2,x3,x4,x5,x6,x7,x8,x9,c,d,f,g,i,j,k,l,m,n,o,p,q,r,s,t,u,w,x,y,z,A,B,C,D,E,F,G,H,I,J,K,L,M,N,P,Q,R,U,V,W,X,Y,Z,a0]) S =
  KR (okK b ( okK b ( zW (jX (dem b) S) (fun v2 S1=>okK v2 ( zW (zK zi 49 v2 0 S1) (fun v3 S2=>okK v3 ( zW (jf zi false 23 v3 S2) (fun v4 S3=>okK v4 ( okK x5 ( zW (jf zi false 30 x3 S3) (fun v6 S4=>zW (jE zi 23 1 [(0,(dem v6))] S4) (fun v7 S5=>zW ((zT zi O) 28 [(dem v4),(dem (dem x5)),(dem v7)] S5) (fun v8 S6=>zW (jX (dem b) S6) (fun v9 S7=>zW (zK zi 49 v9 0 S7) (fun a1 S8=>zW (qE zi 23 a1 (dem v8) S8) (fun a2 S9=>ckK (yL v3 S2 S5 && (true)) (some ([b,x1,x2,x3,x4,x5,x6,x7,x8,x9,c,d,f,g,i,j,k,l,m,n,o,p,q,r,s,t,u,w,x,y,dem b,dem b,v2,v3,v4,dem x5,v6,v7,v8,v9,a1,K,L,M,N,P,Q,R,U,V,W,X,Y,Z,a0],S9)) ()) ()) ()) ()) ()) ()) ()) ()) ()) ()) ()) ()) ()) ()) ()) ()):=by
 rw [Zw zC.d10 zC.afK zC.k10 zC.g10]
 refine congrArg KR ?_
 refine uPC Try.f12 10 0 (v:=b) (pe:=zh) ?_
 refine uPC Try.f12 10 1 (v:=b) (pe:=zh) ?_
 refine uDC Try.f12 10 2 (pe:=zh) (fun v2 S1=>?_)
 refine uDC Try.f12 10 3 (pe:=zh) (fun v3 S2=>?_)
 refine uDC Try.f12 10 4 (pe:=v3) (fun v4 S3=>?_)
 refine uPC Try.f12 10 5 (v:=x5) (pe:=zh) ?_
 refine uD Try.f12 10 6 (pe:=x3) (fun v6 S4=>?_)
 refine uD Try.f12 10 7 (pe:=zh) (fun v7 S5=>?_)
 refine uD Try.f12 10 8 (pe:=zh) (fun v8 S6=>?_)
 refine uD Try.f12 10 9 (pe:=zh) (fun v9 S7=>?_)
 refine uD Try.f12 10 10 (pe:=zh) (fun a1 S8=>?_)
 refine uD Try.f12 10 11 (pe:=zh) (fun a2 S9=>?_)
 kernel_rfl
theorem zC.d11:kC zi (reg Try.f12 11)=true:=by kernel_rfl
theorem zC.afH:fixed zi (reg Try.f12 11)=false:=by kernel_rfl
theorem zC.k11:checked zi (reg Try.f12 11)=[]:=by kernel_rfl
theorem zC.g11:again zi (reg Try.f12 11)=[]:=by kernel_rfl
theorem zC.r11 :zG zi O true (.region 11 (reg Try.f12 11) true) ([b,x1,x2,x3,x4,x5,x6,x7,x8,x9,c,d,f,g,i,j,k,l,m,n,o,p,q,r,s,t,u,w,x,y,z,A,B,C,D,E,F,G,H,I,J,K,L,M,N,P,Q,R,U,V,W,X,Y,Z,a0]) S =
  KR (zW (jX (dem b) S) (fun v2 S1=>zW (zK zi 49 v2 0 S1) (fun v3 S2=>zW (jf zi false 23 v3 S2) (fun v4 S3=>zW (jX (dem b) S3) (fun v6 S4=>zW (zK zi 49 v6 0 S4) (fun v7 S5=>zW (jf zi false 23 v7 S5) (fun v8 S6=>zW (xI zi 23 v8 S6) (fun v9 S7=>zW (Zo zi true Builtin.min #[3,3] 3 [v9,(.int .i64 16)] S7) (fun a1 S8=>zW (wW zi false 23 v4 none (some a1) S8) (fun a2 S9=>zW (jX (dem b) S9) (fun a3 a5=>zW (zK zi 49 a3 0 a5) (fun a4 a6=>zW (qE zi 23 a4 (dem a2) a6) (fun a8 a7=>some ([b,x1,x2,x3,x4,x5,x6,x7,x8,x9,c,d,f,g,i,j,k,l,m,n,o,p,q,r,s,t,u,w,x,y,z,A,B,C,D,E,F,G,H,I,J,dem b,dem b,v2,v3,v4,dem b,v6,v7,v8,v9,a1,a2,a3,a4],a7)) ()) ()) ()) ()) ()) ()) ()) ()) ()) ()) ()) ()):=by
 rw [Zw zC.d11 zC.afH zC.k11 zC.g11]
 refine congrArg KR ?_
 refine tP Try.f12 11 0 (v:=b) ?_
 refine tP Try.f12 11 1 (v:=b) ?_
 refine tD Try.f12 11 2 (fun v2 S1=>?_)
 refine tD Try.f12 11 3 (fun v3 S2=>?_)
 refine tD Try.f12 11 4 (fun v4 S3=>?_)
 refine tP Try.f12 11 5 (v:=b) ?_
 refine tD Try.f12 11 6 (fun v6 S4=>?_)
 refine tD Try.f12 11 7 (fun v7 S5=>?_)
 refine tD Try.f12 11 8 (fun v8 S6=>?_)
 refine tD Try.f12 11 9 (fun v9 S7=>?_)
 refine tD Try.f12 11 10 (fun a1 S8=>?_)
 refine tD Try.f12 11 11 (fun a2 S9=>?_)
 refine tD Try.f12 11 12 (fun a3 a5=>?_)
 refine tD Try.f12 11 13 (fun a4 a6=>?_)
 refine tD Try.f12 11 14 (fun a8 a7=>?_)
 kernel_rfl
theorem zC.r12 :jh zi ⟨true,false,false⟩ (jY O.hp true (zT zi O)) (reg Try.f12 12) (reg Try.f12 12).toList ([b,x1,x2,x3,x4,x5,x6,x7,x8,x9,c,d,f,g,i,j,k,l,m,n,o,p,q,r,s,t,u,w,x,y,z,A,B,C,D,E,F,G,H,I,J,K,L,M,N,P,Q,R,U,V,W,X,Y,Z,a0]) S =
  ( some ([b,x1,x2,x3,.int .i64 0,x5,x6,x7,x8,x9,c,d,f,g,i,j,k,l,m,n,o,p,q,r,s,t,u,w,x,y,z,A,B,C,D,E,F,G,H,I,J,K,L,M,N,P,Q,R,U,V,W,X,Y,Z,a0],S)):=by
 kernel_rfl
theorem zC.rs:type_of% (afL @zC.r0 (afL @zC.r1 (afL @zC.r2 (afL @zC.r3 (afL @zC.r4 (afL @zC.r5 (afL @zC.r6 (afL @zC.r7 (afL @zC.r8 (afL @zC.r9 (afL @zC.r10 (afL @zC.r11 (@zC.r12))))))))))))):=afL @zC.r0 (afL @zC.r1 (afL @zC.r2 (afL @zC.r3 (afL @zC.r4 (afL @zC.r5 (afL @zC.r6 (afL @zC.r7 (afL @zC.r8 (afL @zC.r9 (afL @zC.r10 (afL @zC.r11 (@zC.r12))))))))))))
theorem zC.runs {b x1:Value} {S S1:zx} {e:AEx} {T:List Value} (h:zG zi O true zC.code ([b,x1,zh,zh,zh,zh,zh,zh,zh,zh,zh,zh,zh,zh,zh,zh,zh,zh,zh,zh,zh,zh,zh,zh,zh,zh,zh,zh,zh,zh,zh,zh,zh,zh,zh,zh,zh,zh,zh,zh,zh,zh,zh,zh,zh,zh,zh,zh,zh,zh,zh,zh,zh,zh,zh]) S=some (e,T,S1)) (he:e=.normal∨e=.ret):zT zi O 12 [b,x1] S=some (T.getD 4 zh,S1) :=
 jC rfl rfl Try.func12 (by decide) zC.body (by exact h) he (jD (a:=T.getD 4 zh) ((show zJ zi T S1 Try.f12.results.toList=zJ zi T S1 [(ResultVar.tmp 4)] from by kernel_rfl).trans (by simp only [zJ])) (by kernel_rfl))
end Go.Proofs.Ytacbgjhmkhjpoaa
namespace Go.Proofs.Ytacbgjhmkhjpoaa
open Go.Abs
abbrev zS.id:FuncId:=24
noncomputable def zS.code:Code:=(.seq (.region 0 (reg Try.f24 0) false) (.seq (.region 1 (reg Try.f24 1) false) Code.ret))
theorem zS.body:Try.f24.body=some zS.code:=by kernel_rfl
variable (b c f n i j k l m:Value) (S:zx)
theorem zS.r0 :jh zi ⟨false,false,false⟩ (zT zi O) (reg Try.f24 0) (reg Try.f24 0).toList ([b,c,f,n,i,j,k,l,m]) S =
  (zW (ZC (dem b) S) (fun g d=>some ([b,c,g,Value.bool false,i,j,k,l,m],d)) ()):=by
 kernel_rfl
theorem zS.r1 :jh zi ⟨false,false,false⟩ (zT zi O) (reg Try.f24 1) (reg Try.f24 1).toList ([b,c,f,n,i,j,k,l,m]) S =
  (zW (zK zi 30 f 0 S) (fun g d=>zW (jf zi false 3 g d) (fun o s=>zW (zK zi 30 c 0 s) (fun p t=>zW (jf zi false 3 p t) (fun q u=>zW (wV zi BinOp.eql 3 o q u) (fun r v=>some ([b,c,f,r,g,o,p,q,dem r],v)) ()) ()) ()) ()) ()):=by
 kernel_rfl
theorem zS.rs:type_of% (afL @zS.r0 (@zS.r1)):=afL @zS.r0 (@zS.r1)
theorem zS.runs {b c:Value} {S d:zx} {e:AEx} {T:List Value} (h:zG zi O false zS.code ([b,c,zh,zh,zh,zh,zh,zh,zh]) S=some (e,T,d)) (he:e=.normal∨e=.ret):zT zi O 24 [b,c] S=some (T.getD 3 zh,d) :=
 jC rfl rfl Try.func24 (by decide) zS.body (by exact h) he (jD (a:=T.getD 3 zh) ((show zJ zi T d Try.f24.results.toList=zJ zi T d [(ResultVar.tmp 3)] from by kernel_rfl).trans (by simp only [zJ])) (by kernel_rfl))
end Go.Proofs.Ytacbgjhmkhjpoaa
namespace Go.Proofs.Ytacbgjhmkhjpoaa
open Go.Abs
abbrev zO.id:FuncId:=26
noncomputable def zO.code:Code:=(.seq (.region 0 (reg Try.f26 0) false) (.seq (.region 1 (reg Try.f26 1) false) Code.ret))
theorem zO.body:Try.f26.body=some zO.code:=by kernel_rfl
variable (b c f l i j k:Value) (S:zx)
theorem zO.r0 :jh zi ⟨false,false,false⟩ (zT zi O) (reg Try.f26 0) (reg Try.f26 0).toList ([b,c,f,l,i,j,k]) S =
  (zW (ZC (dem b) S) (fun g d=>some ([b,c,g,Value.bool false,i,j,k],d)) ()):=by
 kernel_rfl
theorem zO.r1 :jh zi ⟨false,false,false⟩ (zT zi O) (reg Try.f26 1) (reg Try.f26 1).toList ([b,c,f,l,i,j,k]) S =
  (zW (jf zi false 30 c S) (fun g d=>zW (jf zi false 30 f d) (fun m o=>zW ((zT zi O) 27 [(dem g),(dem m)] o) (fun n p=>some ([b,c,f,n,g,m,dem n],p)) ()) ()) ()):=by
 kernel_rfl
theorem zO.rs:type_of% (afL @zO.r0 (@zO.r1)):=afL @zO.r0 (@zO.r1)
theorem zO.runs {b c:Value} {S d:zx} {e:AEx} {T:List Value} (h:zG zi O false zO.code ([b,c,zh,zh,zh,zh,zh]) S=some (e,T,d)) (he:e=.normal∨e=.ret):zT zi O 26 [b,c] S=some (T.getD 3 zh,d) :=
 jC rfl rfl Try.func26 (by decide) zO.body (by exact h) he (jD (a:=T.getD 3 zh) ((show zJ zi T d Try.f26.results.toList=zJ zi T d [(ResultVar.tmp 3)] from by kernel_rfl).trans (by simp only [zJ])) (by kernel_rfl))
end Go.Proofs.Ytacbgjhmkhjpoaa
namespace Go.Proofs.Ytacbgjhmkhjpoaa
open Go.Abs
abbrev slices_ContainsFunc.id:FuncId:=23
noncomputable def slices_ContainsFunc.code:Code:=(.seq (.region 0 (reg Try.f23 0) false) (.seq (.region 1 (reg Try.f23 1) false) Code.ret))
theorem slices_ContainsFunc.body:Try.f23.body=some slices_ContainsFunc.code:=by kernel_rfl
variable (b c f g m i j k l:Value) (S:zx)
theorem slices_ContainsFunc.r0 :jh zi ⟨false,false,false⟩ (zT zi O) (reg Try.f23 0) (reg Try.f23 0).toList ([b,c,f,g,m,i,j,k,l]) S =
  ( some ([b,c,f,g,Value.bool false,i,j,k,l],S)):=by
 kernel_rfl
theorem slices_ContainsFunc.r1 :jh zi ⟨false,false,false⟩ (zT zi O) (reg Try.f23 1) (reg Try.f23 1).toList ([b,c,f,g,m,i,j,k,l]) S =
  (zW ((zT zi O) 25 [(dem (dem b)),(dem (dem c))] S) (fun n d=>zW (wV zi BinOp.geq 3 n (.int .i64 0) d) (fun o p=>some ([b,c,f,g,o,dem b,dem c,n,dem o],p)) ()) ()):=by
 kernel_rfl
theorem slices_ContainsFunc.rs:type_of% (afL @slices_ContainsFunc.r0 (@slices_ContainsFunc.r1)):=afL @slices_ContainsFunc.r0 (@slices_ContainsFunc.r1)
theorem slices_ContainsFunc.runs {b c:Value} {S d:zx} {e:AEx} {T:List Value} (h:zG zi O false slices_ContainsFunc.code ([b,c,zh,zh,zh,zh,zh,zh,zh]) S=some (e,T,d)) (he:e=.normal∨e=.ret):zT zi O 23 [b,c] S=some (T.getD 4 zh,d) :=
 jC rfl rfl Try.func23 (by decide) slices_ContainsFunc.body (by exact h) he (jD (a:=T.getD 4 zh) ((show zJ zi T d Try.f23.results.toList=zJ zi T d [(ResultVar.tmp 4)] from by kernel_rfl).trans (by simp only [zJ])) (by kernel_rfl))
end Go.Proofs.Ytacbgjhmkhjpoaa
namespace Go.Proofs.Ytacbgjhmkhjpoaa
open Go.Abs
abbrev zB.id:FuncId:=15
noncomputable def zB.je:Code:=(.seq (.region 4 (reg Try.f15 4) false) (.seq (.cond (.tmp 14) Code.skip (.exit 0)) (.seq (.block 1 (.seq (.region 5 (reg Try.f15 5) false) (.seq (.region 6 (reg Try.f15 6) true) (.cond (.tmp 24) (.seq (.region 7 (reg Try.f15 7) false) Code.ret) Code.skip)))) (.region 8 (reg Try.f15 8) false))))
noncomputable def zB.code:Code:=(.seq (.region 0 (reg Try.f15 0) false) (.seq (.seq (.region 1 (reg Try.f15 1) false) (.cond (.tmp 10) (.seq (.region 2 (reg Try.f15 2) false) Code.ret) Code.skip)) (.seq (.seq (.region 3 (reg Try.f15 3) false) (.block 0 (.loop zB.je))) (.seq (.region 9 (reg Try.f15 9) false) Code.ret))))
theorem zB.body:Try.f15.body=some zB.code:=by kernel_rfl
theorem zB.eta {T:List Value} (h:T.length=26):T=[T.getD 0 zh,T.getD 1 zh,T.getD 2 zh,T.getD 3 zh,T.getD 4 zh,T.getD 5 zh,T.getD 6 zh,T.getD 7 zh,T.getD 8 zh,T.getD 9 zh,T.getD 10 zh,T.getD 11 zh,T.getD 12 zh,T.getD 13 zh,T.getD 14 zh,T.getD 15 zh,T.getD 16 zh,T.getD 17 zh,T.getD 18 zh,T.getD 19 zh,T.getD 20 zh,T.getD 21 zh,T.getD 22 zh,T.getD 23 zh,T.getD 24 zh,T.getD 25 zh]:=(yZ T 26 h).trans (by kernel_rfl)
variable (d u x y D w z A B C f g c b i j k l m n o p q r s t:Value) (S:zx)
theorem zB.r0 :jh zi ⟨false,false,false⟩ (zT zi O) (reg Try.f15 0) (reg Try.f15 0).toList ([d,u,x,y,D,w,z,A,B,C,f,g,c,b,i,j,k,l,m,n,o,p,q,r,s,t]) S =
  ( some ([d,u,x,y,Value.bool false,w,z,A,B,C,f,g,c,b,i,j,k,l,m,n,o,p,q,r,s,t],S)):=by
 kernel_rfl
theorem zB.r1 :jh zi ⟨false,false,false⟩ (zT zi O) (reg Try.f15 1) (reg Try.f15 1).toList ([d,u,x,y,D,w,z,A,B,C,f,g,c,b,i,j,k,l,m,n,o,p,q,r,s,t]) S =
  (zW (xI zi 23 (dem d) S) (fun G E=>zW (xI zi 23 (dem u) E) (fun F H=>zW (wV zi BinOp.neq 3 G F H) (fun R I=>some ([d,u,x,y,D,w,dem d,G,dem u,F,R,g,c,b,i,j,k,l,m,n,o,p,q,r,s,t],I)) ()) ()) ()):=by
 kernel_rfl
theorem zB.r2 :jh zi ⟨false,false,false⟩ (zT zi O) (reg Try.f15 2) (reg Try.f15 2).toList ([d,u,x,y,D,w,z,A,B,C,f,g,c,b,i,j,k,l,m,n,o,p,q,r,s,t]) S =
  ( some ([d,u,x,y,Value.bool false,w,z,A,B,C,f,g,c,b,i,j,k,l,m,n,o,p,q,r,s,t],S)):=by
 kernel_rfl
theorem zB.r3 :jh zi ⟨false,false,false⟩ (zT zi O) (reg Try.f15 3) (reg Try.f15 3).toList ([d,u,x,y,D,w,z,A,B,C,f,g,c,b,i,j,k,l,m,n,o,p,q,r,s,t]) S =
  (zW (xI zi 23 (dem d) S) (fun G E=>some ([d,u,x,y,D,w,z,A,B,C,f,dem d,G,.int .i64 0,i,j,k,l,m,n,o,p,q,r,s,t],E)) ()):=by
 kernel_rfl
theorem zB.r4 :jh zi ⟨false,false,false⟩ (zT zi O) (reg Try.f15 4) (reg Try.f15 4).toList ([d,u,x,y,D,w,z,A,B,C,f,g,c,b,i,j,k,l,m,n,o,p,q,r,s,t]) S =
  (zW (wV zi BinOp.lss 3 b c S) (fun J E=>some ([d,u,x,y,D,w,z,A,B,C,f,g,c,b,J,j,k,l,m,n,o,p,q,r,s,t],E)) ()):=by
 kernel_rfl
theorem zB.r5 :jh zi ⟨false,false,false⟩ (zT zi O) (reg Try.f15 5) (reg Try.f15 5).toList ([d,u,x,y,D,w,z,A,B,C,f,g,c,b,i,j,k,l,m,n,o,p,q,r,s,t]) S =
  ( some ([d,u,x,y,D,b,z,A,B,C,f,g,c,dem b,i,dem b,k,l,m,n,o,p,q,r,s,t],S)):=by
 kernel_rfl
theorem zB.d6:kC zi (reg Try.f15 6)=true:=by kernel_rfl
theorem zB.ff6:fixed zi (reg Try.f15 6)=false:=by kernel_rfl
theorem zB.k6:checked zi (reg Try.f15 6)=[]:=by kernel_rfl
theorem zB.g6:again zi (reg Try.f15 6)=[]:=by kernel_rfl
theorem zB.r6 :zG zi O false (.region 6 (reg Try.f15 6) true) ([d,u,x,y,D,w,z,A,B,C,f,g,c,b,i,j,k,l,m,n,o,p,q,r,s,t]) S =
  KR (zW (zZ zi 23 (dem d) (dem w) S) (fun K E=>zW (jf zi false 30 K E) (fun F H=>zW (zZ zi 23 (dem u) (dem w) H) (fun L I=>zW (jf zi false 30 L I) (fun M N=>zW (wV zi BinOp.neq 30 F M N) (fun P Q=>some ([d,u,x,y,D,w,z,A,B,C,f,g,c,b,i,j,dem d,dem w,K,F,dem u,dem w,L,M,P,t],Q)) ()) ()) ()) ()) ()):=by
 rw [Z7 zB.d6 zB.ff6 zB.k6 zB.g6]
 refine congrArg KR ?_
 refine tP Try.f15 6 0 (v:=d) ?_
 refine tP Try.f15 6 1 (v:=w) ?_
 refine tD Try.f15 6 2 (fun K E=>?_)
 refine tD Try.f15 6 3 (fun F H=>?_)
 refine tP Try.f15 6 4 (v:=u) ?_
 refine tP Try.f15 6 5 (v:=w) ?_
 refine tD Try.f15 6 6 (fun L I=>?_)
 refine tD Try.f15 6 7 (fun M N=>?_)
 refine tD Try.f15 6 8 (fun P Q=>?_)
 kernel_rfl
theorem zB.r7 :jh zi ⟨false,false,false⟩ (zT zi O) (reg Try.f15 7) (reg Try.f15 7).toList ([d,u,x,y,D,w,z,A,B,C,f,g,c,b,i,j,k,l,m,n,o,p,q,r,s,t]) S =
  ( some ([d,u,x,y,Value.bool false,w,z,A,B,C,f,g,c,b,i,j,k,l,m,n,o,p,q,r,s,t],S)):=by
 kernel_rfl
theorem zB.r8 :jh zi ⟨false,false,false⟩ (zT zi O) (reg Try.f15 8) (reg Try.f15 8).toList ([d,u,x,y,D,w,z,A,B,C,f,g,c,b,i,j,k,l,m,n,o,p,q,r,s,t]) S =
  (zW (wV zi BinOp.add 3 b (.int .i64 1) S) (fun J E=>some ([d,u,x,y,D,w,z,A,B,C,f,g,c,dem J,i,j,k,l,m,n,o,p,q,r,s,J],E)) ()):=by
 kernel_rfl
theorem zB.r9 :jh zi ⟨false,false,false⟩ (zT zi O) (reg Try.f15 9) (reg Try.f15 9).toList ([d,u,x,y,D,w,z,A,B,C,f,g,c,b,i,j,k,l,m,n,o,p,q,r,s,t]) S =
  ( some ([d,u,x,y,Value.bool true,w,z,A,B,C,f,g,c,b,i,j,k,l,m,n,o,p,q,r,s,t],S)):=by
 kernel_rfl
theorem zB.rs:type_of% (afL @zB.r0 (afL @zB.r1 (afL @zB.r2 (afL @zB.r3 (afL @zB.r4 (afL @zB.r5 (afL @zB.r6 (afL @zB.r7 (afL @zB.r8 (@zB.r9)))))))))):=afL @zB.r0 (afL @zB.r1 (afL @zB.r2 (afL @zB.r3 (afL @zB.r4 (afL @zB.r5 (afL @zB.r6 (afL @zB.r7 (afL @zB.r8 (@zB.r9)))))))))
theorem zB.runs {d u:Value} {S E:zx} {e:AEx} {T:List Value} (h:zG zi O false zB.code ([d,u,zh,zh,zh,zh,zh,zh,zh,zh,zh,zh,zh,zh,zh,zh,zh,zh,zh,zh,zh,zh,zh,zh,zh,zh]) S=some (e,T,E)) (he:e=.normal∨e=.ret):zT zi O 15 [d,u] S=some (T.getD 4 zh,E) :=
 jC rfl rfl Try.func15 (by decide) zB.body (by exact h) he (jD (a:=T.getD 4 zh) ((show zJ zi T E Try.f15.results.toList=zJ zi T E [(ResultVar.tmp 4)] from by kernel_rfl).trans (by simp only [zJ])) (by kernel_rfl))
end Go.Proofs.Ytacbgjhmkhjpoaa
namespace Go.Proofs.Ytacbgjhmkhjpoaa
open Go.Abs
abbrev slices_IndexFunc.id:FuncId:=25
noncomputable def slices_IndexFunc.je:Code:=(.seq (.region 2 (reg Try.f25 2) false) (.seq (.cond (.tmp 9) Code.skip (.exit 0)) (.seq (.block 1 (.seq (.region 3 (reg Try.f25 3) false) (.seq (.region 4 (reg Try.f25 4) false) (.cond (.tmp 16) (.seq (.region 5 (reg Try.f25 5) false) Code.ret) Code.skip)))) (.region 6 (reg Try.f25 6) false))))
noncomputable def slices_IndexFunc.code:Code:=(.seq (.region 0 (reg Try.f25 0) false) (.seq (.seq (.region 1 (reg Try.f25 1) false) (.block 0 (.loop slices_IndexFunc.je))) (.seq (.region 7 (reg Try.f25 7) false) Code.ret)))
theorem slices_IndexFunc.body:Try.f25.body=some slices_IndexFunc.code:=by kernel_rfl
theorem slices_IndexFunc.eta {T:List Value} (h:T.length=19):T=[T.getD 0 zh,T.getD 1 zh,T.getD 2 zh,T.getD 3 zh,T.getD 4 zh,T.getD 5 zh,T.getD 6 zh,T.getD 7 zh,T.getD 8 zh,T.getD 9 zh,T.getD 10 zh,T.getD 11 zh,T.getD 12 zh,T.getD 13 zh,T.getD 14 zh,T.getD 15 zh,T.getD 16 zh,T.getD 17 zh,T.getD 18 zh]:=(yZ T 19 h).trans (by kernel_rfl)
variable (b n q r v o t s p u c d f g i j k l m:Value) (S:zx)
theorem slices_IndexFunc.r0 :jh zi ⟨false,false,false⟩ (zT zi O) (reg Try.f25 0) (reg Try.f25 0).toList ([b,n,q,r,v,o,t,s,p,u,c,d,f,g,i,j,k,l,m]) S =
  ( some ([b,n,q,r,.int .i64 0,o,t,s,p,u,c,d,f,g,i,j,k,l,m],S)):=by
 kernel_rfl
theorem slices_IndexFunc.r1 :jh zi ⟨false,false,false⟩ (zT zi O) (reg Try.f25 1) (reg Try.f25 1).toList ([b,n,q,r,v,o,t,s,p,u,c,d,f,g,i,j,k,l,m]) S =
  (zW (xI zi 23 (dem b) S) (fun A w=>some ([b,n,q,r,v,o,dem b,A,.int .i64 0,u,c,d,f,g,i,j,k,l,m],w)) ()):=by
 kernel_rfl
theorem slices_IndexFunc.r2 :jh zi ⟨false,false,false⟩ (zT zi O) (reg Try.f25 2) (reg Try.f25 2).toList ([b,n,q,r,v,o,t,s,p,u,c,d,f,g,i,j,k,l,m]) S =
  (zW (wV zi BinOp.lss 3 p s S) (fun x w=>some ([b,n,q,r,v,o,t,s,p,x,c,d,f,g,i,j,k,l,m],w)) ()):=by
 kernel_rfl
theorem slices_IndexFunc.r3 :jh zi ⟨false,false,false⟩ (zT zi O) (reg Try.f25 3) (reg Try.f25 3).toList ([b,n,q,r,v,o,t,s,p,u,c,d,f,g,i,j,k,l,m]) S =
  ( some ([b,n,q,r,v,p,t,s,dem p,u,dem p,d,f,g,i,j,k,l,m],S)):=by
 kernel_rfl
theorem slices_IndexFunc.r4 :jh zi ⟨false,false,false⟩ (zT zi O) (reg Try.f25 4) (reg Try.f25 4).toList ([b,n,q,r,v,o,t,s,p,u,c,d,f,g,i,j,k,l,m]) S =
  (zW (zZ zi 23 (dem b) (dem o) S) (fun y w=>zW (jf zi false 30 y w) (fun z B=>zW (aff (zT zi O) (dem n) [(dem z)] B) (fun C D=>some ([b,n,q,r,v,o,t,s,p,u,c,dem n,dem b,dem o,y,z,C,l,m],D)) ()) ()) ()):=by
 kernel_rfl
theorem slices_IndexFunc.r5 :jh zi ⟨false,false,false⟩ (zT zi O) (reg Try.f25 5) (reg Try.f25 5).toList ([b,n,q,r,v,o,t,s,p,u,c,d,f,g,i,j,k,l,m]) S =
  ( some ([b,n,q,r,o,dem o,t,s,p,u,c,d,f,g,i,j,k,dem o,m],S)):=by
 kernel_rfl
theorem slices_IndexFunc.r6 :jh zi ⟨false,false,false⟩ (zT zi O) (reg Try.f25 6) (reg Try.f25 6).toList ([b,n,q,r,v,o,t,s,p,u,c,d,f,g,i,j,k,l,m]) S =
  (zW (wV zi BinOp.add 3 p (.int .i64 1) S) (fun x w=>some ([b,n,q,r,v,o,t,s,dem x,u,c,d,f,g,i,j,k,l,x],w)) ()):=by
 kernel_rfl
theorem slices_IndexFunc.r7 :jh zi ⟨false,false,false⟩ (zT zi O) (reg Try.f25 7) (reg Try.f25 7).toList ([b,n,q,r,v,o,t,s,p,u,c,d,f,g,i,j,k,l,m]) S =
  ( some ([b,n,q,r,.int .i64 (-1),o,t,s,p,u,c,d,f,g,i,j,k,l,m],S)):=by
 kernel_rfl
theorem slices_IndexFunc.rs:type_of% (afL @slices_IndexFunc.r0 (afL @slices_IndexFunc.r1 (afL @slices_IndexFunc.r2 (afL @slices_IndexFunc.r3 (afL @slices_IndexFunc.r4 (afL @slices_IndexFunc.r5 (afL @slices_IndexFunc.r6 (@slices_IndexFunc.r7)))))))):=afL @slices_IndexFunc.r0 (afL @slices_IndexFunc.r1 (afL @slices_IndexFunc.r2 (afL @slices_IndexFunc.r3 (afL @slices_IndexFunc.r4 (afL @slices_IndexFunc.r5 (afL @slices_IndexFunc.r6 (@slices_IndexFunc.r7)))))))
theorem slices_IndexFunc.runs {b n:Value} {S w:zx} {e:AEx} {T:List Value} (h:zG zi O false slices_IndexFunc.code ([b,n,zh,zh,zh,zh,zh,zh,zh,zh,zh,zh,zh,zh,zh,zh,zh,zh,zh]) S=some (e,T,w)) (he:e=.normal∨e=.ret):zT zi O 25 [b,n] S=some (T.getD 4 zh,w) :=
 jC rfl rfl Try.func25 (by decide) slices_IndexFunc.body (by exact h) he (jD (a:=T.getD 4 zh) ((show zJ zi T w Try.f25.results.toList=zJ zi T w [(ResultVar.tmp 4)] from by kernel_rfl).trans (by simp only [zJ])) (by kernel_rfl))
end Go.Proofs.Ytacbgjhmkhjpoaa
namespace Go.Proofs.Ytacbgjhmkhjpoaa
open Go.Abs
abbrev slices_DeleteFunc.id:FuncId:=30
noncomputable def slices_DeleteFunc.je:Code:=(.seq (.seq (.region 5 (reg Try.f30 5) false) (.cond (.tmp 19) Code.skip (.exit 0))) (.seq (.block 1 (.seq (.region 7 (reg Try.f30 7) false) (.seq (.region 8 (reg Try.f30 8) false) (.cond (.tmp 29) (.seq (.region 9 (reg Try.f30 9) false) (.region 10 (reg Try.f30 10) false)) Code.skip)))) (.region 6 (reg Try.f30 6) false)))
noncomputable def slices_DeleteFunc.code:Code:=(.seq (.region 0 (reg Try.f30 0) false) (.seq (.region 1 (reg Try.f30 1) false) (.seq (.seq (.region 2 (reg Try.f30 2) false) (.cond (.tmp 12) (.seq (.region 3 (reg Try.f30 3) false) Code.ret) Code.skip)) (.seq (.seq (.region 4 (reg Try.f30 4) false) (.block 0 (.loop slices_DeleteFunc.je))) (.seq (.region 11 (reg Try.f30 11) false) (.seq (.region 12 (reg Try.f30 12) false) Code.ret))))))
theorem slices_DeleteFunc.body:Try.f30.body=some slices_DeleteFunc.code:=by kernel_rfl
theorem slices_DeleteFunc.eta {T:List Value} (h:T.length=42):T=[T.getD 0 zh,T.getD 1 zh,T.getD 2 zh,T.getD 3 zh,T.getD 4 zh,T.getD 5 zh,T.getD 6 zh,T.getD 7 zh,T.getD 8 zh,T.getD 9 zh,T.getD 10 zh,T.getD 11 zh,T.getD 12 zh,T.getD 13 zh,T.getD 14 zh,T.getD 15 zh,T.getD 16 zh,T.getD 17 zh,T.getD 18 zh,T.getD 19 zh,T.getD 20 zh,T.getD 21 zh,T.getD 22 zh,T.getD 23 zh,T.getD 24 zh,T.getD 25 zh,T.getD 26 zh,T.getD 27 zh,T.getD 28 zh,T.getD 29 zh,T.getD 30 zh,T.getD 31 zh,T.getD 32 zh,T.getD 33 zh,T.getD 34 zh,T.getD 35 zh,T.getD 36 zh,T.getD 37 zh,T.getD 38 zh,T.getD 39 zh,T.getD 40 zh,T.getD 41 zh]:=(yZ T 42 h).trans (by kernel_rfl)
variable (b L P Q W K M N U V c d f g i j k l m n o p q r s t u v w x y z A B C D E F G H I J:Value) (S:zx)
theorem slices_DeleteFunc.r0 :jh zi ⟨true,false,false⟩ (jY O.hp true (zT zi O)) (reg Try.f30 0) (reg Try.f30 0).toList ([b,L,P,Q,W,K,M,N,U,V,c,d,f,g,i,j,k,l,m,n,o,p,q,r,s,t,u,v,w,x,y,z,A,B,C,D,E,F,G,H,I,J]) S =
  ( some ([b,L,P,Q,Value.slice none 0 0,K,M,N,U,V,c,d,f,g,i,j,k,l,m,n,o,p,q,r,s,t,u,v,w,x,y,z,A,B,C,D,E,F,G,H,I,J],S)):=by
 kernel_rfl
theorem slices_DeleteFunc.r1 :jh zi ⟨true,false,false⟩ (jY O.hp true (zT zi O)) (reg Try.f30 1) (reg Try.f30 1).toList ([b,L,P,Q,W,K,M,N,U,V,c,d,f,g,i,j,k,l,m,n,o,p,q,r,s,t,u,v,w,x,y,z,A,B,C,D,E,F,G,H,I,J]) S =
  (zW (vk (zT zi O) 25 [(dem (dem b)),(dem (dem L))] S) (fun X R=>some ([b,L,P,Q,W,X,M,N,dem b,dem L,dem X,d,f,g,i,j,k,l,m,n,o,p,q,r,s,t,u,v,w,x,y,z,A,B,C,D,E,F,G,H,I,J],R)) ()):=by
 kernel_rfl
theorem slices_DeleteFunc.r2 :jh zi ⟨true,false,false⟩ (jY O.hp true (zT zi O)) (reg Try.f30 2) (reg Try.f30 2).toList ([b,L,P,Q,W,K,M,N,U,V,c,d,f,g,i,j,k,l,m,n,o,p,q,r,s,t,u,v,w,x,y,z,A,B,C,D,E,F,G,H,I,J]) S =
  (zW (wV zi BinOp.eql 3 (dem K) (.int .i64 (-1)) S) (fun Y R=>some ([b,L,P,Q,W,K,M,N,U,V,c,dem K,Y,g,i,j,k,l,m,n,o,p,q,r,s,t,u,v,w,x,y,z,A,B,C,D,E,F,G,H,I,J],R)) ()):=by
 kernel_rfl
theorem slices_DeleteFunc.r3 :jh zi ⟨true,false,false⟩ (jY O.hp true (zT zi O)) (reg Try.f30 3) (reg Try.f30 3).toList ([b,L,P,Q,W,K,M,N,U,V,c,d,f,g,i,j,k,l,m,n,o,p,q,r,s,t,u,v,w,x,y,z,A,B,C,D,E,F,G,H,I,J]) S =
  ( some ([dem b,L,P,Q,b,K,M,N,U,V,c,d,f,dem b,i,j,k,l,m,n,o,p,q,r,s,t,u,v,w,x,y,z,A,B,C,D,E,F,G,H,I,J],S)):=by
 kernel_rfl
theorem slices_DeleteFunc.r4 :jh zi ⟨true,false,false⟩ (jY O.hp true (zT zi O)) (reg Try.f30 4) (reg Try.f30 4).toList ([b,L,P,Q,W,K,M,N,U,V,c,d,f,g,i,j,k,l,m,n,o,p,q,r,s,t,u,v,w,x,y,z,A,B,C,D,E,F,G,H,I,J]) S =
  (zW (wV zi BinOp.add 3 (dem K) (.int .i64 1) S) (fun Y R=>some ([b,L,P,Q,W,K,Y,N,U,V,c,d,f,g,dem K,dem Y,k,l,m,n,o,p,q,r,s,t,u,v,w,x,y,z,A,B,C,D,E,F,G,H,I,J],R)) ()):=by
 kernel_rfl
theorem slices_DeleteFunc.r5 :jh zi ⟨true,false,false⟩ (jY O.hp true (zT zi O)) (reg Try.f30 5) (reg Try.f30 5).toList ([b,L,P,Q,W,K,M,N,U,V,c,d,f,g,i,j,k,l,m,n,o,p,q,r,s,t,u,v,w,x,y,z,A,B,C,D,E,F,G,H,I,J]) S =
  (zW (xI zi 23 (dem b) S) (fun X R=>zW (wV zi BinOp.lss 3 (dem M) X R) (fun Z S2=>some ([b,L,P,Q,W,K,M,N,U,V,c,d,f,g,i,j,dem M,dem b,X,Z,o,p,q,r,s,t,u,v,w,x,y,z,A,B,C,D,E,F,G,H,I,J],S2)) ()) ()):=by
 kernel_rfl
theorem slices_DeleteFunc.r7 :jh zi ⟨true,false,false⟩ (jY O.hp true (zT zi O)) (reg Try.f30 7) (reg Try.f30 7).toList ([b,L,P,Q,W,K,M,N,U,V,c,d,f,g,i,j,k,l,m,n,o,p,q,r,s,t,u,v,w,x,y,z,A,B,C,D,E,F,G,H,I,J]) S =
  (zW (zZ zi 23 (dem b) (dem M) S) (fun X R=>zW (jf zi false 30 X R) (fun Z S2=>zW (qJ zi 30 S2) (fun v4 S3=>zW (qE zi 30 v4 (dem Z) S3) (fun v5 S4=>some ([b,L,P,Q,W,K,M,v4,U,V,c,d,f,g,i,j,k,l,m,n,o,p,dem b,dem M,X,Z,u,v,w,x,y,z,A,B,C,D,E,F,G,H,I,J],S4)) ()) ()) ()) ()):=by
 kernel_rfl
theorem slices_DeleteFunc.r8 :jh zi ⟨true,false,false⟩ (jY O.hp true (zT zi O)) (reg Try.f30 8) (reg Try.f30 8).toList ([b,L,P,Q,W,K,M,N,U,V,c,d,f,g,i,j,k,l,m,n,o,p,q,r,s,t,u,v,w,x,y,z,A,B,C,D,E,F,G,H,I,J]) S =
  (zW (jf zi false 30 N S) (fun Y R=>zW (aff (jY O.hp true (zT zi O)) (dem L) [(dem Y)] R) (fun X S2=>zW (aUn zi UnOp.not X S2) (fun Z S3=>some ([b,L,P,Q,W,K,M,N,U,V,c,d,f,g,i,j,k,l,m,n,o,p,q,r,s,t,dem L,Y,X,Z,y,z,A,B,C,D,E,F,G,H,I,J],S3)) ()) ()) ()):=by
 kernel_rfl
theorem slices_DeleteFunc.r9 :jh zi ⟨true,false,false⟩ (jY O.hp true (zT zi O)) (reg Try.f30 9) (reg Try.f30 9).toList ([b,L,P,Q,W,K,M,N,U,V,c,d,f,g,i,j,k,l,m,n,o,p,q,r,s,t,u,v,w,x,y,z,A,B,C,D,E,F,G,H,I,J]) S =
  (zW (jf zi false 30 N S) (fun X R=>zW (zZ zi 23 (dem b) (dem K) R) (fun Z S2=>zW (qE zi 30 Z (dem X) S2) (fun v4 S3=>some ([b,L,P,Q,W,K,M,N,U,V,c,d,f,g,i,j,k,l,m,n,o,p,q,r,s,t,u,v,w,x,dem b,dem K,X,Z,C,D,E,F,G,H,I,J],S3)) ()) ()) ()):=by
 kernel_rfl
theorem slices_DeleteFunc.r10 :jh zi ⟨true,false,false⟩ (jY O.hp true (zT zi O)) (reg Try.f30 10) (reg Try.f30 10).toList ([b,L,P,Q,W,K,M,N,U,V,c,d,f,g,i,j,k,l,m,n,o,p,q,r,s,t,u,v,w,x,y,z,A,B,C,D,E,F,G,H,I,J]) S =
  (zW (wV zi BinOp.add 3 (dem K) (.int .i64 1) S) (fun Y R=>some ([b,L,P,Q,W,Y,M,N,U,V,c,d,f,g,i,j,k,l,m,n,o,p,q,r,s,t,u,v,w,x,y,z,A,B,dem K,dem Y,E,F,G,H,I,J],R)) ()):=by
 kernel_rfl
theorem slices_DeleteFunc.r6 :jh zi ⟨true,false,false⟩ (jY O.hp true (zT zi O)) (reg Try.f30 6) (reg Try.f30 6).toList ([b,L,P,Q,W,K,M,N,U,V,c,d,f,g,i,j,k,l,m,n,o,p,q,r,s,t,u,v,w,x,y,z,A,B,C,D,E,F,G,H,I,J]) S =
  (zW (wV zi BinOp.add 3 (dem M) (.int .i64 1) S) (fun Y R=>some ([b,L,P,Q,W,K,Y,N,U,V,c,d,f,g,i,j,k,l,m,n,dem M,dem Y,q,r,s,t,u,v,w,x,y,z,A,B,C,D,E,F,G,H,I,J],R)) ()):=by
 kernel_rfl
theorem slices_DeleteFunc.r11 :jh zi ⟨true,false,false⟩ (jY O.hp true (zT zi O)) (reg Try.f30 11) (reg Try.f30 11).toList ([b,L,P,Q,W,K,M,N,U,V,c,d,f,g,i,j,k,l,m,n,o,p,q,r,s,t,u,v,w,x,y,z,A,B,C,D,E,F,G,H,I,J]) S =
  (zW (wW zi false 23 (dem b) (some (dem K)) none S) (fun X R=>zW (WG zi 23 X R) (fun Z S2=>some ([b,L,P,Q,W,K,M,N,U,V,c,d,f,g,i,j,k,l,m,n,o,p,q,r,s,t,u,v,w,x,y,z,A,B,C,D,dem b,dem K,X,H,I,J],S2)) ()) ()):=by
 kernel_rfl
theorem slices_DeleteFunc.r12 :jh zi ⟨true,false,false⟩ (jY O.hp true (zT zi O)) (reg Try.f30 12) (reg Try.f30 12).toList ([b,L,P,Q,W,K,M,N,U,V,c,d,f,g,i,j,k,l,m,n,o,p,q,r,s,t,u,v,w,x,y,z,A,B,C,D,E,F,G,H,I,J]) S =
  (zW (wW zi false 23 (dem b) none (some (dem K)) S) (fun X R=>some ([b,L,P,Q,X,K,M,N,U,V,c,d,f,g,i,j,k,l,m,n,o,p,q,r,s,t,u,v,w,x,y,z,A,B,C,D,E,F,G,dem b,dem K,dem X],R)) ()):=by
 kernel_rfl
theorem slices_DeleteFunc.rs:type_of% (afL @slices_DeleteFunc.r0 (afL @slices_DeleteFunc.r1 (afL @slices_DeleteFunc.r2 (afL @slices_DeleteFunc.r3 (afL @slices_DeleteFunc.r4 (afL @slices_DeleteFunc.r5 (afL @slices_DeleteFunc.r7 (afL @slices_DeleteFunc.r8 (afL @slices_DeleteFunc.r9 (afL @slices_DeleteFunc.r10 (afL @slices_DeleteFunc.r6 (afL @slices_DeleteFunc.r11 (@slices_DeleteFunc.r12))))))))))))):=afL @slices_DeleteFunc.r0 (afL @slices_DeleteFunc.r1 (afL @slices_DeleteFunc.r2 (afL @slices_DeleteFunc.r3 (afL @slices_DeleteFunc.r4 (afL @slices_DeleteFunc.r5 (afL @slices_DeleteFunc.r7 (afL @slices_DeleteFunc.r8 (afL @slices_DeleteFunc.r9 (afL @slices_DeleteFunc.r10 (afL @slices_DeleteFunc.r6 (afL @slices_DeleteFunc.r11 (@slices_DeleteFunc.r12))))))))))))
theorem slices_DeleteFunc.runs {b L:Value} {S R:zx} {e:AEx} {T:List Value} (h:zG zi O true slices_DeleteFunc.code ([b,L,zh,zh,zh,zh,zh,zh,zh,zh,zh,zh,zh,zh,zh,zh,zh,zh,zh,zh,zh,zh,zh,zh,zh,zh,zh,zh,zh,zh,zh,zh,zh,zh,zh,zh,zh,zh,zh,zh,zh,zh]) S=some (e,T,R)) (he:e=.normal∨e=.ret):zT zi O 30 [b,L] S=some (T.getD 4 zh,R) :=
 jC rfl rfl Try.func30 (by decide) slices_DeleteFunc.body (by exact h) he (jD (a:=T.getD 4 zh) ((show zJ zi T R Try.f30.results.toList=zJ zi T R [(ResultVar.tmp 4)] from by kernel_rfl).trans (by simp only [zJ])) (by kernel_rfl))
end Go.Proofs.Ytacbgjhmkhjpoaa
namespace Go.Abs
open Go.RowKit
theorem aeI {b:Nat} {e:Ty} {α:Type} (f:α→List Value) (Q:α→Prop) (h:∀ x,e.Good x→∃ y,e.Ja x=f y∧Q y) (hf:∀ y,(f y).length=e.sz) (x:(Ty.slc b e).Val) (hg:(Ty.slc b e).Good x) :
  ∃ k l,Okl k l∧k≠2∧(Ty.slc b e).Ja x=[vs f e.sz k l]∧l.length * b≤140737488351232∧∀ y ∈ l,Q y:=by
 match x,hg with
 | none,_=>exact ⟨0,[],Okl.none,by decide,rfl,by simp,fun y hy=>by cases hy⟩
 | some xs,hg =>
  obtain ⟨h1,h2,h3⟩:=hg
  have key:∀ xs:List e.Val,(∀ n ∈ xs,e.Good n)→∃ l:List α,xs.flatMap e.Ja=l.flatMap f∧l.length=xs.length∧∀ y ∈ l,Q y:=by
   intro xs
   induction xs with
   | nil=>intro _;exact ⟨[],rfl,rfl,fun y hy=>by cases hy⟩
   | cons n xs ih =>
    intro hn
    obtain ⟨y,hy,hq⟩:=h n (hn n (by simp))
    obtain ⟨l,k1,k2,k3⟩:=ih (fun m hm=>hn m (by simp [hm]))
    refine ⟨y::l,by rw [List.flatMap_cons,List.flatMap_cons,hy,k1],by simp [k2],fun z hz=>?_⟩
    rcases List.mem_cons.1 hz with rfl | hz
    ·
     exact hq
    ·
     exact k3 z hz
  obtain ⟨l,k1,k2,k3⟩:=key xs h3
  refine ⟨1,l,Okl.read,by decide,?_,by rw [k2];exact h1,k3⟩
  show [SL 1 e.sz (List.length xs) (List.flatMap e.Ja xs)]=[_]
  unfold vs
  rw [sv1,k1,k2]
theorem XW {cs xs:List Value} (h:cs.length=xs.length):splice cs 0 xs=xs:=by
 unfold splice
 rw [List.take_zero,List.nil_append,Nat.zero_add,← h,List.drop_length,List.append_nil]
theorem aew {k e n:Nat} {cs:List Value}:(sv k e n cs).oneCell'=true:=by unfold sv;split <;> rfl
theorem afc {α:Type} {f:α→List Value} {e k:Nat} {l:List α}:(vs f e k l).oneCell'=true:=aew
theorem adZ {k:IntKind} {n:Int}:(Value.int k n).oneCell'=true:=rfl
theorem JI {P:Program} {t:TypeId} {z xs:List Value} {x:Value} (S:zx) (hx:x.cells.toList=xs) (hs:qB P t=some z.length) (hl:xs.length=z.length) (h1:xs.all (·.oneCell')=true) :
  ∃ S2,qE P t (.pointer (some ⟨S.next,0,none⟩)) x (S.push (.cells z (.own []) 0))=some (zh,S2)∧S2.get S.next=some (.cells xs (.own []) 0)∧Ext S S2∧S.next < S2.next:=by
 have hg:(S.push (.cells z (.own []) 0)).get S.next=some (.cells z (.own []) 0):=by rw [zx.zY,if_pos rfl]
 refine ⟨_,xB hg hs (by rw [← Array.length_toList,hx,hl]) (by rw [hx];exact h1) (by simp),?_,(Ext.push S _).set (Nat.le_refl _) _,by simp [zx.kills]⟩
 rw [zx.jq,if_pos rfl,hx,XW hl.symm]
theorem aac (x:Value) (S:zx):∃ S2,ZC x S=some (.pointer (some ⟨S.next,0,none⟩),S2)∧S2.get S.next=some (.cells x.cells.toList (.own []) 0)∧Ext S S2∧S.next < S2.next :=
 ⟨_,rfl,by rw [zx.zY,if_pos rfl],Ext.push _ _,by simp⟩
end Go.Abs
namespace Go.Abs
open Go.RowKit
abbrev ms (q n:Nat):Value:=.slice (some ⟨q,0,none⟩) n n
theorem ad8 {P:Program} {O:Ora} {g:FuncId} {args:List Value} {S:zx} {r:Option (Value×zx)} (h:zT P O g args S=r) (ha:args.all (fun x=>!ZI x)=true):vk (zT P O) g args S=r:=(XI ha).trans h
theorem Jp {α:Type} {f:α→List Value} {e q:Nat} {l:List α} {rest:List Value} {anc:List Nat} {S:zx} (hf:∀ x,(f x).length=e) (hg:S.get q=some (.cells (l.flatMap f++rest) (.own anc) e)) :
  xO (ms q l.length) S=some (vs f e 1 l,S.set q .dead):=by
 have hl:=jM hf l
 have e0:xO (ms q l.length) S=kG (ms q l.length) S:=rfl
 rw [e0,X8 hg (by rw [List.length_append,hl];omega),List.drop_zero,← hl,List.take_left]
 rfl
theorem Jr {x y:Value} {args:List Value} {S S1:zx} (h:xO x S=some (y,S1)) (ha:args.all (fun x=>!ZI x)=true):yV (x::args) S=some (y::args,S1):=by
 simp only [yV,h,vP ha]
section
variable {P:Program} {O:Ora} {α:Type} {f:α→List Value} {e q:Nat} {l:List α} {rest:List Value} {anc:List Nat} {S:zx}
end
end Go.Abs
namespace Go.Abs
open Go.RowKit
def Fr (fp:List Nat) (S S1:zx):Prop:=S.next≤S1.next∧∀ p,p < S.next→p ∉ fp→S1.get p=S.get p
theorem Fr.refl (fp:List Nat) (S:zx):Fr fp S S:=⟨Nat.le_refl _,fun _ _ _=>rfl⟩
theorem Fr.ext {fp:List Nat} {S S1:zx} (h:Ext S S1):Fr fp S S1:=⟨h.next,fun p hp _=>h.get p hp⟩
theorem Fr.trans {fp fp2:List Nat} {S S1 S2:zx} (h:Fr fp S S1) (k:Fr fp2 S1 S2) (hs:∀ x ∈ fp2,x ∈ fp∨S.next≤x):Fr fp S S2:=⟨Nat.le_trans h.1 k.1,fun p hp hn=>by
 rw [k.2 p (Nat.lt_of_lt_of_le hp h.1) (fun hx=>(hs p hx).elim hn (fun h=>by omega)),h.2 p hp hn]⟩
theorem Fr.set {fp:List Nat} {S S1:zx} (h:Fr fp S S1) {r:Nat} (hr:r ∈ fp∨S.next≤r) (o:wH):Fr fp S (S1.set r o):=⟨h.1,fun p hp hn=>by
 rw [zx.jq,if_neg (fun e=>by subst e;exact hr.elim hn (fun h=>by omega))];exact h.2 p hp hn⟩
theorem Fr.kills {fp:List Nat} {S S1:zx} (h:Fr fp S S1) {l:List Nat} (hl:∀ x ∈ l,x ∈ fp∨S.next≤x):Fr fp S (S1.kills l):=⟨by rw [zx.qL];exact h.1,fun p hp hn=>by
 rw [zx.yh,if_neg (fun e=>(hl p e).elim hn (fun h=>by omega))];exact h.2 p hp hn⟩
theorem Fr.push {fp:List Nat} {S S1:zx} (h:Fr fp S S1) (o:wH):Fr fp S (S1.push o):=⟨by simp;have:=h.1;omega,fun p hp hn=>by
 rw [zx.zY,if_neg (by have:=h.1;omega)];exact h.2 p hp hn⟩
theorem Fr.more {fp fp2:List Nat} {S S1:zx} (h:Fr fp S S1) (hs:∀ x ∈ fp,x ∈ fp2∨S.next≤x):Fr fp2 S S1:=⟨h.1,fun p hp hn=>h.2 p hp (fun hx=>(hs p hx).elim hn (fun h=>by omega))⟩
def Many (S:zx) (x:Nat):Prop:=∀ cs own,S.get x≠some (.cells cs own 0)
def qW {α:Type} (f:α→List Value) (e:Nat) (S:zx) (a:Option Addr) (l:List α) (fp:List Nat):Prop :=
 (a=none∧l=[]∧fp=[])∨∃ r anc rest,a=some ⟨r,0,none⟩∧fp=r::anc∧S.get r=some (.cells (l.flatMap f++rest) (.own anc) e)∧∀ x ∈ fp,x < S.next∧Many S x
theorem Ya {A B C D:List Value} {o:Nat} (h:o=A.length) (hl:B.length=C.length):splice (A++(B++D)) o C=A++(C++D):=by
 subst h
 unfold splice
 rw [List.take_left,← hl,List.drop_append,List.drop_eq_nil_of_le (by omega),List.nil_append,show A.length+B.length - A.length=B.length by omega,List.drop_left,List.append_assoc]
section
variable {α:Type} {f:α→List Value} {e:Nat} {S S1:zx} {a:Option Addr} {l:List α} {fp:List Nat}
theorem qW.keep (h:qW f e S a l fp) (hn:S.next≤S1.next) (hk:∀ x ∈ fp,S1.get x=S.get x):qW f e S1 a l fp:=by
 rcases h with h | ⟨r,anc,rest,h1,h2,h3,h4⟩
 ·
  exact .inl h
 ·
  refine .inr ⟨r,anc,rest,h1,h2,by rw [hk r (by rw [h2];simp)];exact h3,fun x hx=>⟨Nat.lt_of_lt_of_le (h4 x hx).1 hn,fun cs own=>by rw [hk x hx];exact (h4 x hx).2 cs own⟩⟩
theorem qW.lt (h:qW f e S a l fp):∀ x ∈ fp,x < S.next:=by
 rcases h with ⟨_,_,rfl⟩ | ⟨r,anc,rest,h1,h2,h3,h4⟩
 ·
  intro x hx;cases hx
 ·
  exact fun x hx=>(h4 x hx).1
theorem qW.many (h:qW f e S a l fp):∀ x ∈ fp,Many S x:=by
 rcases h with ⟨_,_,rfl⟩ | ⟨r,anc,rest,h1,h2,h3,h4⟩
 ·
  intro x hx;cases hx
 ·
  exact fun x hx=>(h4 x hx).2
theorem qW.ext (h:qW f e S a l fp) (k:Ext S S1):qW f e S1 a l fp:=h.keep k.next fun x hx=>k.get x (h.lt x hx)
theorem qW.fr {fp2:List Nat} (h:qW f e S a l fp) (k:Fr fp2 S S1) (hd:∀ x ∈ fp,x ∉ fp2):qW f e S1 a l fp:=h.keep k.1 fun x hx=>k.2 x (h.lt x hx) (hd x hx)
theorem qW.Vp (h:qW f e S a l fp) {p:Nat} {cs:List Value} {own:Own} (hp:S.get p=some (.cells cs own 0)):p ∉ fp:=fun hx=>h.many p hx cs own hp
theorem qW.take (h:qW f e S a l fp) (n:Nat):qW f e S a (l.take n) fp:=by
 rcases h with ⟨h1,h2,h3⟩ | ⟨r,anc,rest,h1,h2,h3,h4⟩
 ·
  exact .inl ⟨h1,by rw [h2,List.take_nil],h3⟩
 ·
  refine .inr ⟨r,anc,(l.drop n).flatMap f++rest,h1,h2,?_,h4⟩
  rw [h3,← List.append_assoc,← List.flatMap_append,List.take_append_drop]
theorem YH {x r:Nat} {cs:List Value} {own:Own} (he:e≠0) (h:Many S x):Many (S.set r (.cells cs own e)) x:=fun cs' own'=>by
 rw [zx.jq]
 split
 ·
  intro hx;simp only [Option.some.injEq,wH.cells.injEq] at hx;exact he hx.2.2
 ·
  exact h cs' own'
theorem WC {x:Nat} {l:List Nat} (h:Many S x):Many (S.kills l) x:=fun cs' own'=>by
 rw [zx.yh]
 split
 ·
  intro hx;simp at hx
 ·
  exact h cs' own'
theorem abl {x:Nat} {cs:List Value} {own:Own} (he:e≠0) (h:Many S x):Many (S.push (.cells cs own e)) x:=fun cs' own'=>by
 rw [zx.zY]
 split
 ·
  intro hx;simp only [Option.some.injEq,wH.cells.injEq] at hx;exact he hx.2.2
 ·
  exact h cs' own'
variable {P:Program} {t te tx:TypeId} {z:Value} {bytes:Nat}
theorem qW.append (u:P.underlying t=some (.slice te)) (us:qB P te=some e) (hz:zeroOf P te=some z) (hzs:z.cells.size=e) (hb:bytesOf P te=some bytes) (hpos:0 < e) (hf:∀ x,(f x).length=e) (h1:∀ x,(f x).all (·.oneCell')=true)
  (hd:qW f e S a l fp) {x:Value} {b:List α} (hsrc:JW P tx e x S=some (b.length,b.flatMap f)) (hm:(l.length+b.length) * bytes≤140737488355328) (hm2:l.length+b.length≤4611686018427387903) :
  ∃ a' S1 fp',yB P true t tx (.slice a l.length l.length) x S=some (.slice a' (l++b).length (l++b).length,S1)∧qW f e S1 a' (l++b) fp'∧(∀ x ∈ fp',x ∈ fp∨S.next≤x)∧Fr fp S S1:=by
 have hone:∀ l:List α,(l.flatMap f).all (·.oneCell')=true:=by
  intro l
  rw [List.all_flatMap,List.all_eq_true]
  exact fun x _=>h1 x
 have he:e≠0:=by omega
 rcases hd with ⟨rfl,rfl,rfl⟩ | ⟨r,anc,rest,rfl,rfl,k2,k3⟩
 ·
  have e1:=Vf (t:=t) (tx:=tx) (S:=S) u us hz hzs hb hpos hsrc (by simpa using hm) (by simpa using hm2)
  by_cases h0:b.length=0
  ·
   have hb:b=[]:=List.length_eq_zero_iff.1 h0
   subst hb
   exact ⟨none,S,[],e1,.inl ⟨rfl,rfl,rfl⟩,(fun x hx=>by cases hx),Fr.refl _ _⟩
  ·
   rw [if_neg h0,if_neg h0] at e1
   refine ⟨some ⟨S.next,0,none⟩,_,[S.next],e1,.inr ⟨S.next,[],[],rfl,rfl,?_,fun x hx=>?_⟩,(fun x hx=>by simp at hx;omega),(Fr.refl _ _).push _⟩
   ·
    rw [zx.zY,if_pos rfl,List.append_nil,List.nil_append]
   ·
    simp only [List.mem_singleton] at hx
    subst hx
    refine ⟨by simp,fun cs own=>?_⟩
    rw [zx.zY,if_pos rfl]
    intro hx;simp only [Option.some.injEq,wH.cells.injEq] at hx;exact he hx.2.2
 ·
  have hlen:(l.flatMap f).length=l.length * e:=jM hf l
  have htk:((l.flatMap f++rest).drop 0).take (l.length * e)=l.flatMap f:=by rw [List.drop_zero,← hlen,List.take_left]
  have e1:=X9 (hp:=true) (t:=t) (tx:=tx) (o:=0) (n:=l.length) (c:=l.length) u us hz hzs hb hpos hsrc k2 (by rw [List.length_append,hlen];omega) hm hm2 (by rw [htk];exact hone l)
  rw [htk,← List.length_append] at e1
  have hnew:∀ {S2:zx} {cs:List Value} {own:Own},Many (S2.push (.cells cs own e)) S2.next:=fun {S2 cs own} cs' own'=>by
   rw [zx.zY,if_pos rfl]
   intro hx;simp only [Option.some.injEq,wH.cells.injEq] at hx;exact he hx.2.2
  by_cases h0:0+l.length * e=(l.flatMap f++rest).length
  ·
   rw [if_pos h0] at e1
   refine ⟨some ⟨S.next,0,none⟩,_,_,e1,.inr ⟨S.next,_,[],rfl,rfl,by rw [zx.zY,zx.kU,if_pos rfl,List.append_nil,List.flatMap_append],fun x hx=>?_⟩,fun x hx=>?_,((Fr.refl _ _).set (.inl (by simp)) _).push _⟩
   ·
    rcases List.mem_cons.1 hx with rfl | hx
    ·
     exact ⟨by simp,hnew (S2:=S.set r (.cells (l.flatMap f++rest) .ro e))⟩
    ·
     have hx:x ∈ r::anc:=by
      split at hx
      ·
       cases hx
      ·
       exact hx
     exact ⟨by have:=(k3 x hx).1;simp;omega,abl he (YH he (k3 x hx).2)⟩
   ·
    rcases List.mem_cons.1 hx with rfl | hx
    ·
     exact .inr (Nat.le_refl _)
    ·
     left
     split at hx
     ·
      cases hx
     ·
      exact hx
  ·
   rw [if_neg h0] at e1
   refine ⟨some ⟨S.next,0,none⟩,_,[S.next],e1,.inr ⟨S.next,[],[],rfl,rfl,by rw [zx.zY,zx.kU,zx.qL,if_pos rfl,List.append_nil,List.flatMap_append],fun x hx=>?_⟩,fun x hx=>?_,(((Fr.refl _ _).kills (l:=anc) (fun x hx=>.inl (by simp [hx]))).set (.inl (by simp)) _).push _⟩
   ·
    simp only [List.mem_singleton] at hx
    subst hx
    exact ⟨by simp,by have:=hnew (S2:=(S.kills anc).set r .dead) (cs:=l.flatMap f++b.flatMap f) (own:=.own []);rwa [zx.kU,zx.qL] at this⟩
   ·
    simp only [List.mem_singleton] at hx
    exact .inr (by omega)
theorem qW.aez (hf:∀ x,(f x).length=e) {x:α} {pre suf:List α} {rest:List Value}:(((pre++x::suf).flatMap f++rest).drop (0+pre.length * e)).take e=f x:=by
 rw [List.flatMap_append,List.flatMap_cons,List.append_assoc,List.append_assoc,Nat.zero_add,← jM hf pre,List.drop_left,← hf x,List.take_left]
theorem qW.load (g:yT P te=some true) (us:qB P te=some e) (hf:∀ x,(f x).length=e) (hdm:∀ x,(f x).map qP=f x) {r:Nat} {own:Own} {x:α} {pre suf:List α} {rest:List Value} (hg:S.get r=some (.cells ((pre++x::suf).flatMap f++rest) own e)) :
  jf P false te (.pointer (some ⟨r,0+pre.length * e,none⟩)) S=some (.agg (f x).toArray,S):=by
 have hle:0+pre.length * e+e≤((pre++x::suf).flatMap f++rest).length:=by
  rw [List.length_append,jM hf,List.length_append,List.length_cons,Nat.add_mul,Nat.add_mul];omega
 rw [YU hg g us hle,aez hf]
 simp only [List.map_toArray,hdm]
theorem qW.put (us:qB P te=some e) (hf:∀ x,(f x).length=e) (h1:∀ x,(f x).all (·.oneCell')=true) (he:e≠0) {r:Nat} {anc:List Nat} {x y:α} {pre suf:List α} {rest:List Value} (hg:S.get r=some (.cells ((pre++x::suf).flatMap f++rest) (.own anc) e))
  (hx:∀ k ∈ r::anc,k < S.next∧Many S k) :
  ∃ S1,qE P te (.pointer (some ⟨r,0+pre.length * e,none⟩)) (.agg (f y).toArray) S=some (zh,S1)∧S1.get r=some (.cells ((pre++y::suf).flatMap f++rest) (.own []) e)∧S1.next=S.next∧Fr (r::anc) S S1∧Many S1 r:=by
 have hle:0+pre.length * e+e≤((pre++x::suf).flatMap f++rest).length:=by
  rw [List.length_append,jM hf,List.length_append,List.length_cons,Nat.add_mul,Nat.add_mul];omega
 have hs:splice ((pre++x::suf).flatMap f++rest) (0+pre.length * e) (f y)=(pre++y::suf).flatMap f++rest:=by
  rw [List.flatMap_append,List.flatMap_cons,List.append_assoc,List.append_assoc,Ya (by rw [jM hf,Nat.zero_add]) (by rw [hf,hf]),List.flatMap_append,List.flatMap_cons,List.append_assoc,List.append_assoc]
 have:=xB (P:=P) (t:=te) (o:=0+pre.length * e) (n:=e) (x:=.agg (f y).toArray) hg us (by rw [xA,List.size_toArray,hf]) (by rw [xA];exact h1 y) hle
 refine ⟨_,this,?_,by simp,((Fr.refl _ _).kills (fun k hk=>.inl (by simp [hk]))).set (.inl (by simp)) _,?_⟩
 ·
  rw [zx.jq,if_pos rfl,xA]
  show some (wH.cells (splice _ _ (f y)) _ _)=_
  rw [hs]
 ·
  refine YH he (WC (hx r (by simp)).2)
theorem qW.clear (u:P.underlying t=some (.slice te)) (us:qB P te=some e) (hz:zeroOf P te=some z) (hgz:ground z=true) (hzs:z.cells.size=e) (hz1:z.cells.toList.all (·.oneCell')=true) (hpos:0 < e) (hf:∀ x,(f x).length=e)
  {r:Nat} {anc:List Nat} {pre suf:List α} {rest:List Value} (hg:S.get r=some (.cells ((pre++suf).flatMap f++rest) (.own anc) e)) (hn:suf.length≠0) (hx:∀ k ∈ r::anc,k < S.next∧Many S k) (c:Nat) :
  ∃ S1 rest1,WG P t (.slice (some ⟨r,0+pre.length * e,none⟩) suf.length c) S=some (zh,S1)∧S1.get r=some (.cells (pre.flatMap f++rest1) (.own []) e)∧S1.next=S.next∧Fr (r::anc) S S1∧Many S1 r:=by
 have hel:wQ P t=some te:=by simp only [wQ,u]
 have hle:0+pre.length * e+suf.length * e≤((pre++suf).flatMap f++rest).length:=by
  rw [List.length_append,jM hf,List.length_append,Nat.add_mul];omega
 have hs:splice ((pre++suf).flatMap f++rest) (0+pre.length * e) (zl z.cells.toList suf.length)=pre.flatMap f++(zl z.cells.toList suf.length++rest):=by
  rw [List.flatMap_append,List.append_assoc,Ya (by rw [jM hf,Nat.zero_add]) (by rw [aa6,jM hf,show z.cells.toList.length=e from hzs])]
 refine ⟨(S.kills anc).set r (.cells (splice ((pre++suf).flatMap f++rest) (0+pre.length * e) (zl z.cells.toList suf.length)) (.own []) e),zl z.cells.toList suf.length++rest,?_,by rw [zx.jq,if_pos rfl,hs],by simp,((Fr.refl _ _).kills (fun k hk=>.inl (by simp [hk]))).set (.inl (by simp)) _,YH (by omega) (WC (hx r (by simp)).2)⟩
 simp only [WG,kL,hel,us,hz,hg]
 rw [if_neg hn,if_pos hgz,if_pos hzs,if_pos hz1,if_pos hpos,if_pos hle]
end
end Go.Abs
namespace Go.Proofs.Ytacbgjhmkhjpoaa
open Go.Abs
abbrev slices_Index.id:FuncId:=36
noncomputable def slices_Index.je:Code:=(.seq (.region 2 (reg Try.f36 2) false) (.seq (.cond (.tmp 9) Code.skip (.exit 0)) (.seq (.block 1 (.seq (.region 3 (reg Try.f36 3) false) (.seq (.region 4 (reg Try.f36 4) false) (.cond (.tmp 16) (.seq (.region 5 (reg Try.f36 5) false) Code.ret) Code.skip)))) (.region 6 (reg Try.f36 6) false))))
noncomputable def slices_Index.code:Code:=(.seq (.region 0 (reg Try.f36 0) false) (.seq (.seq (.region 1 (reg Try.f36 1) false) (.block 0 (.loop slices_Index.je))) (.seq (.region 7 (reg Try.f36 7) false) Code.ret)))
theorem slices_Index.body:Try.f36.body=some slices_Index.code:=by kernel_rfl
theorem slices_Index.eta {T:List Value} (h:T.length=19):T=[T.getD 0 zh,T.getD 1 zh,T.getD 2 zh,T.getD 3 zh,T.getD 4 zh,T.getD 5 zh,T.getD 6 zh,T.getD 7 zh,T.getD 8 zh,T.getD 9 zh,T.getD 10 zh,T.getD 11 zh,T.getD 12 zh,T.getD 13 zh,T.getD 14 zh,T.getD 15 zh,T.getD 16 zh,T.getD 17 zh,T.getD 18 zh]:=(yZ T 19 h).trans (by kernel_rfl)
variable (b n q r v o t s p u c d f g i j k l m:Value) (S:zx)
theorem slices_Index.r0 :jh zi ⟨false,false,false⟩ (zT zi O) (reg Try.f36 0) (reg Try.f36 0).toList ([b,n,q,r,v,o,t,s,p,u,c,d,f,g,i,j,k,l,m]) S =
  ( some ([b,n,q,r,.int .i64 0,o,t,s,p,u,c,d,f,g,i,j,k,l,m],S)):=by
 kernel_rfl
theorem slices_Index.r1 :jh zi ⟨false,false,false⟩ (zT zi O) (reg Try.f36 1) (reg Try.f36 1).toList ([b,n,q,r,v,o,t,s,p,u,c,d,f,g,i,j,k,l,m]) S =
  (zW (xI zi 38 (dem b) S) (fun A w=>some ([b,n,q,r,v,o,dem b,A,.int .i64 0,u,c,d,f,g,i,j,k,l,m],w)) ()):=by
 kernel_rfl
theorem slices_Index.r2 :jh zi ⟨false,false,false⟩ (zT zi O) (reg Try.f36 2) (reg Try.f36 2).toList ([b,n,q,r,v,o,t,s,p,u,c,d,f,g,i,j,k,l,m]) S =
  (zW (wV zi BinOp.lss 3 p s S) (fun x w=>some ([b,n,q,r,v,o,t,s,p,x,c,d,f,g,i,j,k,l,m],w)) ()):=by
 kernel_rfl
theorem slices_Index.r3 :jh zi ⟨false,false,false⟩ (zT zi O) (reg Try.f36 3) (reg Try.f36 3).toList ([b,n,q,r,v,o,t,s,p,u,c,d,f,g,i,j,k,l,m]) S =
  ( some ([b,n,q,r,v,p,t,s,dem p,u,dem p,d,f,g,i,j,k,l,m],S)):=by
 kernel_rfl
theorem slices_Index.r4 :jh zi ⟨false,false,false⟩ (zT zi O) (reg Try.f36 4) (reg Try.f36 4).toList ([b,n,q,r,v,o,t,s,p,u,c,d,f,g,i,j,k,l,m]) S =
  (zW (zZ zi 38 (dem b) (dem o) S) (fun y w=>zW (jf zi false 3 y w) (fun z B=>zW (wV zi BinOp.eql 3 (dem n) z B) (fun C D=>some ([b,n,q,r,v,o,t,s,p,u,c,dem n,dem b,dem o,y,z,C,l,m],D)) ()) ()) ()):=by
 kernel_rfl
theorem slices_Index.r5 :jh zi ⟨false,false,false⟩ (zT zi O) (reg Try.f36 5) (reg Try.f36 5).toList ([b,n,q,r,v,o,t,s,p,u,c,d,f,g,i,j,k,l,m]) S =
  ( some ([b,n,q,r,o,dem o,t,s,p,u,c,d,f,g,i,j,k,dem o,m],S)):=by
 kernel_rfl
theorem slices_Index.r6 :jh zi ⟨false,false,false⟩ (zT zi O) (reg Try.f36 6) (reg Try.f36 6).toList ([b,n,q,r,v,o,t,s,p,u,c,d,f,g,i,j,k,l,m]) S =
  (zW (wV zi BinOp.add 3 p (.int .i64 1) S) (fun x w=>some ([b,n,q,r,v,o,t,s,dem x,u,c,d,f,g,i,j,k,l,x],w)) ()):=by
 kernel_rfl
theorem slices_Index.r7 :jh zi ⟨false,false,false⟩ (zT zi O) (reg Try.f36 7) (reg Try.f36 7).toList ([b,n,q,r,v,o,t,s,p,u,c,d,f,g,i,j,k,l,m]) S =
  ( some ([b,n,q,r,.int .i64 (-1),o,t,s,p,u,c,d,f,g,i,j,k,l,m],S)):=by
 kernel_rfl
theorem slices_Index.rs:type_of% (afL @slices_Index.r0 (afL @slices_Index.r1 (afL @slices_Index.r2 (afL @slices_Index.r3 (afL @slices_Index.r4 (afL @slices_Index.r5 (afL @slices_Index.r6 (@slices_Index.r7)))))))):=afL @slices_Index.r0 (afL @slices_Index.r1 (afL @slices_Index.r2 (afL @slices_Index.r3 (afL @slices_Index.r4 (afL @slices_Index.r5 (afL @slices_Index.r6 (@slices_Index.r7)))))))
theorem slices_Index.runs {b n:Value} {S w:zx} {e:AEx} {T:List Value} (h:zG zi O false slices_Index.code ([b,n,zh,zh,zh,zh,zh,zh,zh,zh,zh,zh,zh,zh,zh,zh,zh,zh,zh]) S=some (e,T,w)) (he:e=.normal∨e=.ret):zT zi O 36 [b,n] S=some (T.getD 4 zh,w) :=
 jC rfl rfl Try.func36 (by decide) slices_Index.body (by exact h) he (jD (a:=T.getD 4 zh) ((show zJ zi T w Try.f36.results.toList=zJ zi T w [(ResultVar.tmp 4)] from by kernel_rfl).trans (by simp only [zJ])) (by kernel_rfl))
end Go.Proofs.Ytacbgjhmkhjpoaa
namespace Go.Proofs.Ytacbgjhmkhjpoaa
open Go.Abs
abbrev slices_Contains.id:FuncId:=29
noncomputable def slices_Contains.code:Code:=(.seq (.region 0 (reg Try.f29 0) false) (.seq (.region 1 (reg Try.f29 1) false) Code.ret))
theorem slices_Contains.body:Try.f29.body=some slices_Contains.code:=by kernel_rfl
variable (b c f g m i j k l:Value) (S:zx)
theorem slices_Contains.r0 :jh zi ⟨false,false,false⟩ (zT zi O) (reg Try.f29 0) (reg Try.f29 0).toList ([b,c,f,g,m,i,j,k,l]) S =
  ( some ([b,c,f,g,Value.bool false,i,j,k,l],S)):=by
 kernel_rfl
theorem slices_Contains.r1 :jh zi ⟨false,false,false⟩ (zT zi O) (reg Try.f29 1) (reg Try.f29 1).toList ([b,c,f,g,m,i,j,k,l]) S =
  (zW ((zT zi O) 36 [(dem (dem b)),(dem (dem c))] S) (fun n d=>zW (wV zi BinOp.geq 3 n (.int .i64 0) d) (fun o p=>some ([b,c,f,g,o,dem b,dem c,n,dem o],p)) ()) ()):=by
 kernel_rfl
theorem slices_Contains.rs:type_of% (afL @slices_Contains.r0 (@slices_Contains.r1)):=afL @slices_Contains.r0 (@slices_Contains.r1)
theorem slices_Contains.runs {b c:Value} {S d:zx} {e:AEx} {T:List Value} (h:zG zi O false slices_Contains.code ([b,c,zh,zh,zh,zh,zh,zh,zh]) S=some (e,T,d)) (he:e=.normal∨e=.ret):zT zi O 29 [b,c] S=some (T.getD 4 zh,d) :=
 jC rfl rfl Try.func29 (by decide) slices_Contains.body (by exact h) he (jD (a:=T.getD 4 zh) ((show zJ zi T d Try.f29.results.toList=zJ zi T d [(ResultVar.tmp 4)] from by kernel_rfl).trans (by simp only [zJ])) (by kernel_rfl))
end Go.Proofs.Ytacbgjhmkhjpoaa
namespace Go.Proofs.Ytacbgjhmkhjpoaa
open Go.Abs
theorem bz0 (S:zx):jd zi 38 0 [] S=some (iz 2 [],S):=by rw [Vk];rfl
end Go.Proofs.Ytacbgjhmkhjpoaa
namespace Go.Proofs.Ytacbgjhmkhjpoaa
open Go.Abs
def idxFrom {α:Type} (p:α→Bool):Int→List α→Int
 | _,[]=>-1
 | i,x::r=>if p x then i else idxFrom p (i+1) r
theorem Ze {α:Type} {p:α→Bool}:∀ {l:List α} {i:Int},l.any p=false→idxFrom p i l=-1
 | [],_,_=>rfl
 | x::r,i,h=>by
  rw [List.any_cons,Bool.or_eq_false_iff] at h
  rw [idxFrom,h.1]
  exact Ze h.2
theorem Xg {α:Type} {p:α→Bool}:∀ {l:List α} {i:Int},l.any p=true→i≤idxFrom p i l
 | [],_,h=>by cases h
 | x::r,i,h=>by
  rw [idxFrom]
  split
  ·
   omega
  ·
   rename_i hx
   rw [List.any_cons,Bool.or_eq_true] at h
   have:=Xg (i:=i+1) (h.resolve_left hx)
   omega
theorem adK {α:Type} {p:α→Bool} {l:List α}:decide (0≤idxFrom p 0 l)=l.any p:=by
 cases h:l.any p with
 | false=>rw [Ze h];decide
 | true=>rw [decide_eq_true_eq];exact Xg h
section
variable {k:Nat} {l:List Int}
theorem slices_Index.round (hv:Okl k l) (hk:k≠2) (hlen:l.length≤17592186044416) {v:Int} {S:zx}:∀ (suf pre:List Int) {T:List Value} {r:St},yc (zG zi O false slices_Index.je) T S=r→T.length=19 →
  T.getD 0 zh=iz k l→T.getD 1 zh=.int .i64 v→T.getD 7 zh=.int .i64 l.length→T.getD 8 zh=.int .i64 pre.length→l=pre++suf →
  ∃ e T',r=some (e,T',S)∧if suf.any (fun x=>decide (v=x)) then e=.ret∧T'.getD 4 zh=.int .i64 (idxFrom (fun x=>decide (v=x)) pre.length suf) else e=.exit 0∧T'.length=19:=by
 intro suf
 induction suf with
 | nil =>
  intro pre T r hL hT h0 h1 h7 h8 hl
  have hTe:=slices_Index.eta hT
  rw [h0,h1,h7,h8] at hTe
  have hr:zG zi O false slices_Index.je T S=zG zi O false slices_Index.je T S:=rfl
  have hd:¬ (pre.length:Int) < (l.length:Int):=by rw [hl];simp
  conv at hr =>
   rhs
   rw [hTe]
   simp only [slices_Index.je,slices_Index.code,slices_Index.rs,zSs,reduceIte,zk,zn,zo,zq,hd]
  exact ⟨_,_,hL.symm.trans (jF hr (by simp)),rfl,rfl⟩
 | cons x suf ih =>
  intro pre T r hL hT h0 h1 h7 h8 hl
  have hTe:=slices_Index.eta hT
  rw [h0,h1,h7,h8] at hTe
  have hr:zG zi O false slices_Index.je T S=zG zi O false slices_Index.je T S:=rfl
  have hd:(pre.length:Int) < (l.length:Int):=by rw [hl];simp;omega
  have e1:∀ S,zZ zi 38 (iz k l) (.int .i64 pre.length) S=some (EP [.int .i64 x],S):=fun S=>by
   rw [aeb hv (by omega) hd];rw [J6 hl]
  have wi:IntKind.i64.wrap ((pre.length:Int)+1)=((pre++[x]).length:Int):=by rw [wrap_i64 (by omega) (by omega)];simp
  rw [List.any_cons,idxFrom]
  by_cases hx:v=x
  ·
   have hx2:=decide_eq_true hx
   conv at hr =>
    rhs
    rw [hTe]
    simp only [slices_Index.je,slices_Index.code,slices_Index.rs,zSs,reduceIte,zk,zn,zo,zq,if_neg hk,hd,e1,ZF,hx2]
   refine ⟨_,_,hL.symm.trans (jF hr (by simp)),?_⟩
   rw [hx2,Bool.true_or]
   exact ⟨rfl,rfl⟩
  ·
   have hx2:=decide_eq_false hx
   conv at hr =>
    rhs
    rw [hTe]
    simp only [slices_Index.je,slices_Index.code,slices_Index.rs,zSs,reduceIte,zk,zn,zo,zq,if_neg hk,hd,e1,ZF,hx2,wi]
   obtain ⟨e,T',g1,g2⟩:=ih (pre++[x]) ((jy hr).symm.trans hL) rfl rfl rfl rfl rfl (by simp [hl])
   refine ⟨e,T',g1,?_⟩
   rw [hx2,Bool.false_or]
   rw [show (((pre++[x]).length:Nat):Int)=(pre.length:Int)+1 by simp] at g2
   exact g2
theorem slices_Index.v (hv:Okl k l) (hk:k≠2) (hlen:l.length≤17592186044416) {v:Int} (S:zx):zT zi O slices_Index.id [iz k l,.int .i64 v] S=some (.int .i64 (idxFrom (fun x=>decide (v=x)) 0 l),S):=by
 obtain ⟨T,hTe⟩:∃ T,T=(iz k l::.int .i64 v::zh::zh::zh::zh::zh::zh::zh::zh::zh::zh::zh::zh::zh::zh::zh::zh::zh::[]):=⟨_,rfl⟩
 have hr:zG zi O false slices_Index.code T S=zG zi O false slices_Index.code T S:=rfl
 conv at hr =>
  rhs
  rw [hTe]
  simp only [slices_Index.code,slices_Index.rs,zSs,reduceIte,zk,zn,zo,zq,if_neg hk,VU hv,goInt]
 generalize hL:yc (zG zi O false slices_Index.je) _ _=r at hr
 obtain ⟨e,T',rfl,g⟩:=slices_Index.round hv hk hlen l [] hL rfl rfl rfl rfl rfl rfl
 cases h:l.any (fun x=>decide (v=x)) with
 | true =>
  rw [h] at g
  obtain ⟨rfl,g2⟩:=g
  conv at hr =>
   rhs
   simp only [zSs,reduceIte,zk,zn,zo,zq]
  rw [hTe] at hr
  have hrun:=slices_Index.runs hr (.inr rfl)
  rw [g2] at hrun
  exact hrun
 | false =>
  rw [h] at g
  obtain ⟨rfl,g2⟩:=g
  have hTe':=slices_Index.eta g2
  conv at hr =>
   rhs
   rw [hTe']
   simp only [slices_Index.code,slices_Index.rs,zSs,reduceIte,zk,zn,zo,zq]
  rw [hTe] at hr
  rw [Ze h]
  exact slices_Index.runs hr (.inr rfl)
theorem slices_Contains.v (hv:Okl k l) (hk:k≠2) (hlen:l.length≤17592186044416) {v:Int} (S:zx):zT zi O slices_Contains.id [iz k l,.int .i64 v] S=some (.bool (l.any fun x=>decide (v=x)),S):=by
 obtain ⟨T,hTe⟩:∃ T,T=(iz k l::.int .i64 v::zh::zh::zh::zh::zh::zh::zh::[]):=⟨_,rfl⟩
 have hr:zG zi O false slices_Contains.code T S=zG zi O false slices_Contains.code T S:=rfl
 have c1:=fun S=>slices_Index.v hv hk hlen (v:=v) S
 conv at hr =>
  rhs
  rw [hTe]
  simp only [slices_Contains.code,slices_Contains.rs,zSs,reduceIte,zk,zn,zo,zq,if_neg hk,c1,adK]
 rw [hTe] at hr
 exact slices_Contains.runs hr (.inr rfl)
end
end Go.Proofs.Ytacbgjhmkhjpoaa
namespace Go.Proofs.Ytacbgjhmkhjpoaa
open Go.Abs
abbrev jQ.id:FuncId:=22
noncomputable def jQ.code:Code:=(.seq (.region 0 (reg Try.f22 0) false) (.seq (.region 1 (reg Try.f22 1) false) Code.ret))
theorem jQ.body:Try.f22.body=some jQ.code:=by kernel_rfl
variable (c i Y J K L M N P Q l m n o p q r s t u w:Value) (S:zx)
theorem jQ.r0 :jh zi ⟨false,false,false⟩ (zT zi O) (reg Try.f22 0) (reg Try.f22 0).toList ([c,i,Y,J,K,L,M,N,P,Q,l,m,n,o,p,q,r,s,t,u,w]) S =
  (zW (ZC (dem c) S) (fun x d=>some ([c,x,Value.bool false,J,K,L,M,N,P,Q,l,m,n,o,p,q,r,s,t,u,w],d)) ()):=by
 kernel_rfl
theorem jQ.r1 :jh zi ⟨false,false,false⟩ (zT zi O) (reg Try.f22 1) (reg Try.f22 1).toList ([c,i,Y,J,K,L,M,N,P,Q,l,m,n,o,p,q,r,s,t,u,w]) S =
  (zW (zK zi 30 i 0 S) (fun x d=>zW (jf zi false 3 x d) (fun R Z=>zW (wV zi BinOp.geq 3 R (.int .i64 1) Z) (fun f S3=>gdK (dem f) true (zK zi 30 i 0) S3 (fun U S4=>gdK (dem f) true (jf zi false 3 U) S4 (fun V S5=>gdK (dem f) true (wV zi BinOp.leq 3 V (.int .i64 1000000)) S5 (fun W S6=>zW (xk (dem f) W (Value.bool false) S6) (fun g S7=>gdK (dem g) true (zK zi 30 i 1) S7 (fun X S8=>gdK (dem g) true (jf zi false 3 X) S8 (fun y S9=>gdK (dem g) true (wV zi BinOp.geq 3 y (.int .i64 0)) S9 (fun z D=>zW (xk (dem g) z (Value.bool false) D) (fun b E=>gdK (dem b) true (zK zi 30 i 1) E (fun A F=>gdK (dem b) true (jf zi false 3 A) F (fun B G=>gdK (dem b) true (wV zi BinOp.leq 3 B (.int .i64 1000)) G (fun C H=>zW (xk (dem b) C (Value.bool false) H) (fun k I=>some ([c,i,k,x,R,f,dem f,U,V,W,g,dem g,X,y,z,b,dem b,A,B,C,dem k],I)) ()) ()) ()) ()) ()) ()) ()) ()) ()) ()) ()) ()) ()) ()) ()):=by
 refine sD Try.f22 1 0 (fun x d=>?_)
 refine sD Try.f22 1 1 (fun R Z=>?_)
 refine sD Try.f22 1 2 (fun f S3=>?_)
 refine sP Try.f22 1 3 (v:=f) ?_
 refine sG Try.f22 1 4 (j:=3) (fun U S4=>?_)
 refine sG Try.f22 1 5 (j:=3) (fun V S5=>?_)
 refine sG Try.f22 1 6 (j:=3) (fun W S6=>?_)
 refine sD Try.f22 1 7 (fun g S7=>?_)
 refine sP Try.f22 1 8 (v:=g) ?_
 refine sG Try.f22 1 9 (j:=8) (fun X S8=>?_)
 refine sG Try.f22 1 10 (j:=8) (fun y S9=>?_)
 refine sG Try.f22 1 11 (j:=8) (fun z D=>?_)
 refine sD Try.f22 1 12 (fun b E=>?_)
 refine sP Try.f22 1 13 (v:=b) ?_
 refine sG Try.f22 1 14 (j:=13) (fun A F=>?_)
 refine sG Try.f22 1 15 (j:=13) (fun B G=>?_)
 refine sG Try.f22 1 16 (j:=13) (fun C H=>?_)
 refine sD Try.f22 1 17 (fun k I=>?_)
 refine sP Try.f22 1 18 (v:=k) ?_
 kernel_rfl
theorem jQ.rs:type_of% (afL @jQ.r0 (@jQ.r1)):=afL @jQ.r0 (@jQ.r1)
theorem jQ.runs {c:Value} {S d:zx} {e:AEx} {T:List Value} (h:zG zi O false jQ.code ([c,zh,zh,zh,zh,zh,zh,zh,zh,zh,zh,zh,zh,zh,zh,zh,zh,zh,zh,zh,zh]) zx.empty=some (e,T,d)) (he:e=.normal∨e=.ret) (hca:[c].all (jl 16)=true) (hcv:jl 16 (T.getD 2 zh)=true):zT zi O 22 [c] S=some (T.getD 2 zh,S) :=
 kJ rfl rfl Try.func22 (by decide) jQ.body (by exact h) he (jD (a:=T.getD 2 zh) ((show zJ zi T d Try.f22.results.toList=zJ zi T d [(ResultVar.tmp 2)] from by kernel_rfl).trans (by simp only [zJ])) (by kernel_rfl)) hca hcv
end Go.Proofs.Ytacbgjhmkhjpoaa
namespace Go.Proofs.Ytacbgjhmkhjpoaa
open Go.Abs
abbrev zM.id:FuncId:=14
noncomputable def zM.code:Code:=(.seq (.region 0 (reg Try.f14 0) false) (.seq (.region 1 (reg Try.f14 1) false) Code.ret))
theorem zM.body:Try.f14.body=some zM.code:=by kernel_rfl
variable (c i Y J K L M N P Q l m n o p q r s t u w:Value) (S:zx)
theorem zM.r0 :jh zi ⟨false,false,false⟩ (zT zi O) (reg Try.f14 0) (reg Try.f14 0).toList ([c,i,Y,J,K,L,M,N,P,Q,l,m,n,o,p,q,r,s,t,u,w]) S =
  (zW (ZC (dem c) S) (fun x d=>some ([c,x,Value.bool false,J,K,L,M,N,P,Q,l,m,n,o,p,q,r,s,t,u,w],d)) ()):=by
 kernel_rfl
theorem zM.r1 :jh zi ⟨false,false,false⟩ (zT zi O) (reg Try.f14 1) (reg Try.f14 1).toList ([c,i,Y,J,K,L,M,N,P,Q,l,m,n,o,p,q,r,s,t,u,w]) S =
  (zW (zK zi 30 i 0 S) (fun x d=>zW (jf zi false 3 x d) (fun R Z=>zW (wV zi BinOp.gtr 3 R (.int .i64 0) Z) (fun f S3=>gdK (dem f) true (zK zi 30 i 0) S3 (fun U S4=>gdK (dem f) true (jf zi false 3 U) S4 (fun V S5=>gdK (dem f) true (wV zi BinOp.leq 3 V (.int .i64 1000000)) S5 (fun W S6=>zW (xk (dem f) W (Value.bool false) S6) (fun g S7=>gdK (dem g) true (zK zi 30 i 1) S7 (fun X S8=>gdK (dem g) true (jf zi false 3 X) S8 (fun y S9=>gdK (dem g) true (wV zi BinOp.geq 3 y (.int .i64 0)) S9 (fun z D=>zW (xk (dem g) z (Value.bool false) D) (fun b E=>gdK (dem b) true (zK zi 30 i 1) E (fun A F=>gdK (dem b) true (jf zi false 3 A) F (fun B G=>gdK (dem b) true (wV zi BinOp.leq 3 B (.int .i64 1000)) G (fun C H=>zW (xk (dem b) C (Value.bool false) H) (fun k I=>some ([c,i,k,x,R,f,dem f,U,V,W,g,dem g,X,y,z,b,dem b,A,B,C,dem k],I)) ()) ()) ()) ()) ()) ()) ()) ()) ()) ()) ()) ()) ()) ()) ()):=by
 refine sD Try.f14 1 0 (fun x d=>?_)
 refine sD Try.f14 1 1 (fun R Z=>?_)
 refine sD Try.f14 1 2 (fun f S3=>?_)
 refine sP Try.f14 1 3 (v:=f) ?_
 refine sG Try.f14 1 4 (j:=3) (fun U S4=>?_)
 refine sG Try.f14 1 5 (j:=3) (fun V S5=>?_)
 refine sG Try.f14 1 6 (j:=3) (fun W S6=>?_)
 refine sD Try.f14 1 7 (fun g S7=>?_)
 refine sP Try.f14 1 8 (v:=g) ?_
 refine sG Try.f14 1 9 (j:=8) (fun X S8=>?_)
 refine sG Try.f14 1 10 (j:=8) (fun y S9=>?_)
 refine sG Try.f14 1 11 (j:=8) (fun z D=>?_)
 refine sD Try.f14 1 12 (fun b E=>?_)
 refine sP Try.f14 1 13 (v:=b) ?_
 refine sG Try.f14 1 14 (j:=13) (fun A F=>?_)
 refine sG Try.f14 1 15 (j:=13) (fun B G=>?_)
 refine sG Try.f14 1 16 (j:=13) (fun C H=>?_)
 refine sD Try.f14 1 17 (fun k I=>?_)
 refine sP Try.f14 1 18 (v:=k) ?_
 kernel_rfl
theorem zM.rs:type_of% (afL @zM.r0 (@zM.r1)):=afL @zM.r0 (@zM.r1)
theorem zM.runs {c:Value} {S d:zx} {e:AEx} {T:List Value} (h:zG zi O false zM.code ([c,zh,zh,zh,zh,zh,zh,zh,zh,zh,zh,zh,zh,zh,zh,zh,zh,zh,zh,zh,zh]) zx.empty=some (e,T,d)) (he:e=.normal∨e=.ret) (hca:[c].all (jl 16)=true) (hcv:jl 16 (T.getD 2 zh)=true):zT zi O 14 [c] S=some (T.getD 2 zh,S) :=
 kJ rfl rfl Try.func14 (by decide) zM.body (by exact h) he (jD (a:=T.getD 2 zh) ((show zJ zi T d Try.f14.results.toList=zJ zi T d [(ResultVar.tmp 2)] from by kernel_rfl).trans (by simp only [zJ])) (by kernel_rfl)) hca hcv
end Go.Proofs.Ytacbgjhmkhjpoaa
namespace Go.Proofs.Ytacbgjhmkhjpoaa
open Go.Abs
abbrev jJ.id:FuncId:=27
noncomputable def jJ.code:Code:=(.seq (.region 0 (reg Try.f27 0) false) (.seq (.region 1 (reg Try.f27 1) true) Code.ret))
theorem jJ.body:Try.f27.body=some jJ.code:=by kernel_rfl
variable (b c k l U H I J K L m n o p q r s t:Value) (S:zx)
theorem jJ.r0 :jh zi ⟨false,false,false⟩ (zT zi O) (reg Try.f27 0) (reg Try.f27 0).toList ([b,c,k,l,U,H,I,J,K,L,m,n,o,p,q,r,s,t]) S =
  (zW (ZC (dem b) S) (fun g d=>zW (ZC (dem c) d) (fun u y=>some ([b,c,g,u,Value.bool false,H,I,J,K,L,m,n,o,p,q,r,s,t],y)) ()) ()):=by
 kernel_rfl
theorem jJ.d1:kC zi (reg Try.f27 1)=true:=by kernel_rfl
theorem jJ.ff1:fixed zi (reg Try.f27 1)=false:=by kernel_rfl
theorem jJ.k1:checked zi (reg Try.f27 1)=[5,6,7,8]:=by kernel_rfl
theorem jJ.g1:again zi (reg Try.f27 1)=[(6,4),(8,4)]:=by kernel_rfl
theorem jJ.r1 :zG zi O false (.region 1 (reg Try.f27 1) true) ([b,c,k,l,U,H,I,J,K,L,m,n,o,p,q,r,s,t]) S =
  KR (zW (zK zi 30 l 1 S) (fun g d=>zW (jf zi false 3 g d) (fun u y=>zW (zK zi 30 k 1 y) (fun z V=>zW (jf zi false 3 z V) (fun M A=>zW ((zT zi O) 33 [(dem u),(dem M)] A) (fun N W=>zW (zK zi 30 k 0 W) (fun i P=>okK i ( zW (jf zi false 3 i P) (fun B X=>okK B ( zW (zK zi 30 l 0 X) (fun j Q=>okK j ( zW (jf zi false 3 j Q) (fun C Y=>okK C ( zW ((zT zi O) 33 [(dem B),(dem C)] Y) (fun R D=>zW (jd zi 38 2 [(0,N),(1,R)] D) (fun w E=>zW ((zT zi O) 32 [(dem w)] E) (fun x F=>zW (wV zi BinOp.lss 3 x (.int .i64 0) F) (fun f G=>ckK (yL i A P && (yL j A Q && (true))) (some ([b,c,k,l,f,g,u,z,M,N,i,B,j,C,R,w,x,dem f],G)) ()) ()) ()) ()) ()) ()) ()) ()) ()) ()) ()) ()) ()) ()) ()) ()) ()) ()):=by
 rw [Z7 jJ.d1 jJ.ff1 jJ.k1 jJ.g1]
 refine congrArg KR ?_
 refine uD Try.f27 1 0 (pe:=zh) (fun g d=>?_)
 refine uD Try.f27 1 1 (pe:=g) (fun u y=>?_)
 refine uD Try.f27 1 2 (pe:=zh) (fun z V=>?_)
 refine uD Try.f27 1 3 (pe:=z) (fun M A=>?_)
 refine uD Try.f27 1 4 (pe:=zh) (fun N W=>?_)
 refine uDC Try.f27 1 5 (pe:=zh) (fun i P=>?_)
 refine uDC Try.f27 1 6 (pe:=i) (fun B X=>?_)
 refine uDC Try.f27 1 7 (pe:=zh) (fun j Q=>?_)
 refine uDC Try.f27 1 8 (pe:=j) (fun C Y=>?_)
 refine uD Try.f27 1 9 (pe:=zh) (fun R D=>?_)
 refine uD Try.f27 1 10 (pe:=zh) (fun w E=>?_)
 refine uD Try.f27 1 11 (pe:=zh) (fun x F=>?_)
 refine uD Try.f27 1 12 (pe:=zh) (fun f G=>?_)
 refine uP Try.f27 1 13 (v:=f) (pe:=zh) ?_
 kernel_rfl
theorem jJ.rs:type_of% (afL @jJ.r0 (@jJ.r1)):=afL @jJ.r0 (@jJ.r1)
theorem jJ.runs {b c:Value} {S d:zx} {e:AEx} {T:List Value} (h:zG zi O false jJ.code ([b,c,zh,zh,zh,zh,zh,zh,zh,zh,zh,zh,zh,zh,zh,zh,zh,zh]) zx.empty=some (e,T,d)) (he:e=.normal∨e=.ret) (hca:[b,c].all (jl 16)=true) (hcv:jl 16 (T.getD 4 zh)=true):zT zi O 27 [b,c] S=some (T.getD 4 zh,S) :=
 kJ rfl rfl Try.func27 (by decide) jJ.body (by exact h) he (jD (a:=T.getD 4 zh) ((show zJ zi T d Try.f27.results.toList=zJ zi T d [(ResultVar.tmp 4)] from by kernel_rfl).trans (by simp only [zJ])) (by kernel_rfl)) hca hcv
end Go.Proofs.Ytacbgjhmkhjpoaa
namespace Go.Proofs.Ytacbgjhmkhjpoaa
open Go.Abs
abbrev zH.id:FuncId:=13
noncomputable def zH.code:Code:=(.seq (.region 0 (reg Try.f13 0) false) (.seq (.seq (.region 1 (reg Try.f13 1) false) (.cond (.tmp 9) (.seq (.region 2 (reg Try.f13 2) false) Code.ret) Code.skip)) (.seq (.region 3 (reg Try.f13 3) false) Code.ret)))
theorem zH.body:Try.f13.body=some zH.code:=by kernel_rfl
variable (b c q r D w x y z A d f g i j k l m n o:Value) (S:zx)
theorem zH.r0 :jh zi ⟨false,false,false⟩ (zT zi O) (reg Try.f13 0) (reg Try.f13 0).toList ([b,c,q,r,D,w,x,y,z,A,d,f,g,i,j,k,l,m,n,o]) S =
  (zW (ZC (dem b) S) (fun s p=>zW (ZC (dem c) p) (fun t B=>some ([b,c,s,t,Value.bool false,w,x,y,z,A,d,f,g,i,j,k,l,m,n,o],B)) ()) ()):=by
 kernel_rfl
theorem zH.r1 :jh zi ⟨false,false,false⟩ (zT zi O) (reg Try.f13 1) (reg Try.f13 1).toList ([b,c,q,r,D,w,x,y,z,A,d,f,g,i,j,k,l,m,n,o]) S =
  (zW (zK zi 30 q 1 S) (fun s p=>zW (jf zi false 3 s p) (fun t B=>zW (zK zi 30 r 1 B) (fun u E=>zW (jf zi false 3 u E) (fun v F=>zW (wV zi BinOp.neq 3 t v F) (fun C G=>some ([b,c,q,r,D,s,t,u,v,C,d,f,g,i,j,k,l,m,n,o],G)) ()) ()) ()) ()) ()):=by
 kernel_rfl
theorem zH.r2 :jh zi ⟨false,false,false⟩ (zT zi O) (reg Try.f13 2) (reg Try.f13 2).toList ([b,c,q,r,D,w,x,y,z,A,d,f,g,i,j,k,l,m,n,o]) S =
  (zW (zK zi 30 q 1 S) (fun s p=>zW (jf zi false 3 s p) (fun t B=>zW (zK zi 30 r 1 B) (fun u E=>zW (jf zi false 3 u E) (fun v F=>zW (wV zi BinOp.gtr 3 t v F) (fun C G=>some ([b,c,q,r,C,w,x,y,z,A,s,t,u,v,dem C,k,l,m,n,o],G)) ()) ()) ()) ()) ()):=by
 kernel_rfl
theorem zH.r3 :jh zi ⟨false,false,false⟩ (zT zi O) (reg Try.f13 3) (reg Try.f13 3).toList ([b,c,q,r,D,w,x,y,z,A,d,f,g,i,j,k,l,m,n,o]) S =
  (zW (zK zi 30 q 0 S) (fun s p=>zW (jf zi false 3 s p) (fun t B=>zW (zK zi 30 r 0 B) (fun u E=>zW (jf zi false 3 u E) (fun v F=>zW (wV zi BinOp.lss 3 t v F) (fun C G=>some ([b,c,q,r,C,w,x,y,z,A,d,f,g,i,j,s,t,u,v,dem C],G)) ()) ()) ()) ()) ()):=by
 kernel_rfl
theorem zH.rs:type_of% (afL @zH.r0 (afL @zH.r1 (afL @zH.r2 (@zH.r3)))):=afL @zH.r0 (afL @zH.r1 (afL @zH.r2 (@zH.r3)))
theorem zH.runs {b c:Value} {S p:zx} {e:AEx} {T:List Value} (h:zG zi O false zH.code ([b,c,zh,zh,zh,zh,zh,zh,zh,zh,zh,zh,zh,zh,zh,zh,zh,zh,zh,zh]) zx.empty=some (e,T,p)) (he:e=.normal∨e=.ret) (hca:[b,c].all (jl 16)=true) (hcv:jl 16 (T.getD 4 zh)=true):zT zi O 13 [b,c] S=some (T.getD 4 zh,S) :=
 kJ rfl rfl Try.func13 (by decide) zH.body (by exact h) he (jD (a:=T.getD 4 zh) ((show zJ zi T p Try.f13.results.toList=zJ zi T p [(ResultVar.tmp 4)] from by kernel_rfl).trans (by simp only [zJ])) (by kernel_rfl)) hca hcv
end Go.Proofs.Ytacbgjhmkhjpoaa
namespace Go.Proofs.Ytacbgjhmkhjpoaa
open Go.Abs
abbrev zI.id:FuncId:=33
noncomputable def zI.code:Code:=(.seq (.region 0 (reg Try.f33 0) false) (.seq (.region 1 (reg Try.f33 1) false) (.seq (.region 2 (reg Try.f33 2) false) (.seq (.seq (.region 3 (reg Try.f33 3) false) (.cond (.tmp 11) (.seq (.seq (.region 4 (reg Try.f33 4) false) (.cond (.tmp 12) (.seq (.region 5 (reg Try.f33 5) false) Code.ret) Code.skip)) (.seq (.region 6 (reg Try.f33 6) false) Code.ret)) Code.skip)) (.seq (.seq (.region 7 (reg Try.f33 7) false) (.cond (.tmp 13) (.seq (.region 8 (reg Try.f33 8) false) Code.ret) Code.skip)) (.seq (.seq (.region 9 (reg Try.f33 9) false) (.cond (.tmp 16) (.seq (.region 10 (reg Try.f33 10) false) Code.ret) Code.skip)) (.seq (.seq (.region 11 (reg Try.f33 11) false) (.cond (.tmp 19) (.seq (.region 12 (reg Try.f33 12) false) Code.ret) Code.skip)) (.seq (.region 13 (reg Try.f33 13) false) Code.ret))))))))
theorem zI.body:Try.f33.body=some zI.code:=by kernel_rfl
variable (n o q r w s p t u v b c d f g i j k l m:Value) (S:zx)
theorem zI.r0 :jh zi ⟨false,false,false⟩ (zT zi O) (reg Try.f33 0) (reg Try.f33 0).toList ([n,o,q,r,w,s,p,t,u,v,b,c,d,f,g,i,j,k,l,m]) S =
  ( some ([n,o,q,r,.int .i64 0,s,p,t,u,v,b,c,d,f,g,i,j,k,l,m],S)):=by
 kernel_rfl
theorem zI.r1 :jh zi ⟨false,false,false⟩ (zT zi O) (reg Try.f33 1) (reg Try.f33 1).toList ([n,o,q,r,w,s,p,t,u,v,b,c,d,f,g,i,j,k,l,m]) S =
  (zW ((zT zi O) 37 [(dem (dem n))] S) (fun y x=>some ([n,o,q,r,w,y,p,dem n,dem y,v,b,c,d,f,g,i,j,k,l,m],x)) ()):=by
 kernel_rfl
theorem zI.r2 :jh zi ⟨false,false,false⟩ (zT zi O) (reg Try.f33 2) (reg Try.f33 2).toList ([n,o,q,r,w,s,p,t,u,v,b,c,d,f,g,i,j,k,l,m]) S =
  (zW ((zT zi O) 37 [(dem (dem o))] S) (fun y x=>some ([n,o,q,r,w,s,y,t,u,dem o,dem y,c,d,f,g,i,j,k,l,m],x)) ()):=by
 kernel_rfl
theorem zI.r3 :jh zi ⟨false,false,false⟩ (zT zi O) (reg Try.f33 3) (reg Try.f33 3).toList ([n,o,q,r,w,s,p,t,u,v,b,c,d,f,g,i,j,k,l,m]) S =
  ( some ([n,o,q,r,w,s,p,t,u,v,b,dem s,d,f,g,i,j,k,l,m],S)):=by
 kernel_rfl
theorem zI.r4 :jh zi ⟨false,false,false⟩ (zT zi O) (reg Try.f33 4) (reg Try.f33 4).toList ([n,o,q,r,w,s,p,t,u,v,b,c,d,f,g,i,j,k,l,m]) S =
  ( some ([n,o,q,r,w,s,p,t,u,v,b,c,dem p,f,g,i,j,k,l,m],S)):=by
 kernel_rfl
theorem zI.r5 :jh zi ⟨false,false,false⟩ (zT zi O) (reg Try.f33 5) (reg Try.f33 5).toList ([n,o,q,r,w,s,p,t,u,v,b,c,d,f,g,i,j,k,l,m]) S =
  ( some ([n,o,q,r,.int .i64 0,s,p,t,u,v,b,c,d,f,g,i,j,k,l,m],S)):=by
 kernel_rfl
theorem zI.r6 :jh zi ⟨false,false,false⟩ (zT zi O) (reg Try.f33 6) (reg Try.f33 6).toList ([n,o,q,r,w,s,p,t,u,v,b,c,d,f,g,i,j,k,l,m]) S =
  ( some ([n,o,q,r,.int .i64 (-1),s,p,t,u,v,b,c,d,f,g,i,j,k,l,m],S)):=by
 kernel_rfl
theorem zI.r7 :jh zi ⟨false,false,false⟩ (zT zi O) (reg Try.f33 7) (reg Try.f33 7).toList ([n,o,q,r,w,s,p,t,u,v,b,c,d,f,g,i,j,k,l,m]) S =
  ( some ([n,o,q,r,w,s,p,t,u,v,b,c,d,dem p,g,i,j,k,l,m],S)):=by
 kernel_rfl
theorem zI.r8 :jh zi ⟨false,false,false⟩ (zT zi O) (reg Try.f33 8) (reg Try.f33 8).toList ([n,o,q,r,w,s,p,t,u,v,b,c,d,f,g,i,j,k,l,m]) S =
  ( some ([n,o,q,r,.int .i64 1,s,p,t,u,v,b,c,d,f,g,i,j,k,l,m],S)):=by
 kernel_rfl
theorem zI.r9 :jh zi ⟨false,false,false⟩ (zT zi O) (reg Try.f33 9) (reg Try.f33 9).toList ([n,o,q,r,w,s,p,t,u,v,b,c,d,f,g,i,j,k,l,m]) S =
  (zW (wV zi BinOp.lss 3 (dem n) (dem o) S) (fun z x=>some ([n,o,q,r,w,s,p,t,u,v,b,c,d,f,dem n,dem o,z,k,l,m],x)) ()):=by
 kernel_rfl
theorem zI.r10 :jh zi ⟨false,false,false⟩ (zT zi O) (reg Try.f33 10) (reg Try.f33 10).toList ([n,o,q,r,w,s,p,t,u,v,b,c,d,f,g,i,j,k,l,m]) S =
  ( some ([n,o,q,r,.int .i64 (-1),s,p,t,u,v,b,c,d,f,g,i,j,k,l,m],S)):=by
 kernel_rfl
theorem zI.r11 :jh zi ⟨false,false,false⟩ (zT zi O) (reg Try.f33 11) (reg Try.f33 11).toList ([n,o,q,r,w,s,p,t,u,v,b,c,d,f,g,i,j,k,l,m]) S =
  (zW (wV zi BinOp.gtr 3 (dem n) (dem o) S) (fun z x=>some ([n,o,q,r,w,s,p,t,u,v,b,c,d,f,g,i,j,dem n,dem o,z],x)) ()):=by
 kernel_rfl
theorem zI.r12 :jh zi ⟨false,false,false⟩ (zT zi O) (reg Try.f33 12) (reg Try.f33 12).toList ([n,o,q,r,w,s,p,t,u,v,b,c,d,f,g,i,j,k,l,m]) S =
  ( some ([n,o,q,r,.int .i64 1,s,p,t,u,v,b,c,d,f,g,i,j,k,l,m],S)):=by
 kernel_rfl
theorem zI.r13 :jh zi ⟨false,false,false⟩ (zT zi O) (reg Try.f33 13) (reg Try.f33 13).toList ([n,o,q,r,w,s,p,t,u,v,b,c,d,f,g,i,j,k,l,m]) S =
  ( some ([n,o,q,r,.int .i64 0,s,p,t,u,v,b,c,d,f,g,i,j,k,l,m],S)):=by
 kernel_rfl
theorem zI.rs:type_of% (afL @zI.r0 (afL @zI.r1 (afL @zI.r2 (afL @zI.r3 (afL @zI.r4 (afL @zI.r5 (afL @zI.r6 (afL @zI.r7 (afL @zI.r8 (afL @zI.r9 (afL @zI.r10 (afL @zI.r11 (afL @zI.r12 (@zI.r13)))))))))))))):=afL @zI.r0 (afL @zI.r1 (afL @zI.r2 (afL @zI.r3 (afL @zI.r4 (afL @zI.r5 (afL @zI.r6 (afL @zI.r7 (afL @zI.r8 (afL @zI.r9 (afL @zI.r10 (afL @zI.r11 (afL @zI.r12 (@zI.r13)))))))))))))
theorem zI.runs {n o:Value} {S x:zx} {e:AEx} {T:List Value} (h:zG zi O false zI.code ([n,o,zh,zh,zh,zh,zh,zh,zh,zh,zh,zh,zh,zh,zh,zh,zh,zh,zh,zh]) S=some (e,T,x)) (he:e=.normal∨e=.ret):zT zi O 33 [n,o] S=some (T.getD 4 zh,x) :=
 jC rfl rfl Try.func33 (by decide) zI.body (by exact h) he (jD (a:=T.getD 4 zh) ((show zJ zi T x Try.f33.results.toList=zJ zi T x [(ResultVar.tmp 4)] from by kernel_rfl).trans (by simp only [zJ])) (by kernel_rfl))
end Go.Proofs.Ytacbgjhmkhjpoaa
namespace Go.Proofs.Ytacbgjhmkhjpoaa
open Go.Abs
abbrev jk.id:FuncId:=32
noncomputable def jk.je:Code:=(.seq (.region 3 (reg Try.f32 3) false) (.seq (.cond (.tmp 9) Code.skip (.exit 0)) (.seq (.block 1 (.seq (.region 4 (reg Try.f32 4) false) (.seq (.region 5 (reg Try.f32 5) false) (.cond (.tmp 14) (.seq (.region 6 (reg Try.f32 6) false) Code.ret) Code.skip)))) (.region 7 (reg Try.f32 7) false))))
noncomputable def jk.code:Code:=(.seq (.region 0 (reg Try.f32 0) false) (.seq (.region 1 (reg Try.f32 1) false) (.seq (.seq (.region 2 (reg Try.f32 2) false) (.block 0 (.loop jk.je))) (.seq (.region 8 (reg Try.f32 8) false) Code.ret))))
theorem jk.body:Try.f32.body=some jk.code:=by kernel_rfl
theorem jk.eta {T:List Value} (h:T.length=18):T=[T.getD 0 zh,T.getD 1 zh,T.getD 2 zh,T.getD 3 zh,T.getD 4 zh,T.getD 5 zh,T.getD 6 zh,T.getD 7 zh,T.getD 8 zh,T.getD 9 zh,T.getD 10 zh,T.getD 11 zh,T.getD 12 zh,T.getD 13 zh,T.getD 14 zh,T.getD 15 zh,T.getD 16 zh,T.getD 17 zh]:=(yZ T 18 h).trans (by kernel_rfl)
variable (l p u m q n r s o t b c d f g i j k:Value) (S:zx)
theorem jk.r0 :jh zi ⟨false,false,false⟩ (zT zi O) (reg Try.f32 0) (reg Try.f32 0).toList ([l,p,u,m,q,n,r,s,o,t,b,c,d,f,g,i,j,k]) S =
  ( some ([l,p,.int .i64 0,m,q,n,r,s,o,t,b,c,d,f,g,i,j,k],S)):=by
 kernel_rfl
theorem jk.r1 :jh zi ⟨false,false,false⟩ (zT zi O) (reg Try.f32 1) (reg Try.f32 1).toList ([l,p,u,m,q,n,r,s,o,t,b,c,d,f,g,i,j,k]) S =
  ( some ([l,p,u,.int .i64 0,q,n,r,s,o,t,b,c,d,f,g,i,j,k],S)):=by
 kernel_rfl
theorem jk.r2 :jh zi ⟨false,false,false⟩ (zT zi O) (reg Try.f32 2) (reg Try.f32 2).toList ([l,p,u,m,q,n,r,s,o,t,b,c,d,f,g,i,j,k]) S =
  (zW (xI zi 38 (dem l) S) (fun x v=>some ([l,p,u,m,q,n,dem l,x,.int .i64 0,t,b,c,d,f,g,i,j,k],v)) ()):=by
 kernel_rfl
theorem jk.r3 :jh zi ⟨false,false,false⟩ (zT zi O) (reg Try.f32 3) (reg Try.f32 3).toList ([l,p,u,m,q,n,r,s,o,t,b,c,d,f,g,i,j,k]) S =
  (zW (wV zi BinOp.lss 3 o s S) (fun w v=>some ([l,p,u,m,q,n,r,s,o,w,b,c,d,f,g,i,j,k],v)) ()):=by
 kernel_rfl
theorem jk.r4 :jh zi ⟨false,false,false⟩ (zT zi O) (reg Try.f32 4) (reg Try.f32 4).toList ([l,p,u,m,q,n,r,s,o,t,b,c,d,f,g,i,j,k]) S =
  (zW (zZ zi 38 r o S) (fun w v=>zW (jf zi false 3 w v) (fun x y=>some ([l,p,u,m,q,x,r,s,o,t,w,dem x,d,f,g,i,j,k],y)) ()) ()):=by
 kernel_rfl
theorem jk.r5 :jh zi ⟨false,false,false⟩ (zT zi O) (reg Try.f32 5) (reg Try.f32 5).toList ([l,p,u,m,q,n,r,s,o,t,b,c,d,f,g,i,j,k]) S =
  (zW (wV zi BinOp.neq 3 (dem n) (dem m) S) (fun z v=>some ([l,p,u,m,q,n,r,s,o,t,b,c,dem n,dem m,z,i,j,k],v)) ()):=by
 kernel_rfl
theorem jk.r6 :jh zi ⟨false,false,false⟩ (zT zi O) (reg Try.f32 6) (reg Try.f32 6).toList ([l,p,u,m,q,n,r,s,o,t,b,c,d,f,g,i,j,k]) S =
  ( some ([l,p,n,m,q,dem n,r,s,o,t,b,c,d,f,g,dem n,j,k],S)):=by
 kernel_rfl
theorem jk.r7 :jh zi ⟨false,false,false⟩ (zT zi O) (reg Try.f32 7) (reg Try.f32 7).toList ([l,p,u,m,q,n,r,s,o,t,b,c,d,f,g,i,j,k]) S =
  (zW (wV zi BinOp.add 3 o (.int .i64 1) S) (fun w v=>some ([l,p,u,m,q,n,r,s,dem w,t,b,c,d,f,g,i,w,k],v)) ()):=by
 kernel_rfl
theorem jk.r8 :jh zi ⟨false,false,false⟩ (zT zi O) (reg Try.f32 8) (reg Try.f32 8).toList ([l,p,u,m,q,n,r,s,o,t,b,c,d,f,g,i,j,k]) S =
  ( some ([l,p,m,dem m,q,n,r,s,o,t,b,c,d,f,g,i,j,dem m],S)):=by
 kernel_rfl
theorem jk.rs:type_of% (afL @jk.r0 (afL @jk.r1 (afL @jk.r2 (afL @jk.r3 (afL @jk.r4 (afL @jk.r5 (afL @jk.r6 (afL @jk.r7 (@jk.r8))))))))):=afL @jk.r0 (afL @jk.r1 (afL @jk.r2 (afL @jk.r3 (afL @jk.r4 (afL @jk.r5 (afL @jk.r6 (afL @jk.r7 (@jk.r8))))))))
theorem jk.runs {l:Value} {S v:zx} {e:AEx} {T:List Value} (h:zG zi O false jk.code ([l,zh,zh,zh,zh,zh,zh,zh,zh,zh,zh,zh,zh,zh,zh,zh,zh,zh]) S=some (e,T,v)) (he:e=.normal∨e=.ret):zT zi O 32 [l] S=some (T.getD 2 zh,v) :=
 jC rfl rfl Try.func32 (by decide) jk.body (by exact h) he (jD (a:=T.getD 2 zh) ((show zJ zi T v Try.f32.results.toList=zJ zi T v [(ResultVar.tmp 2)] from by kernel_rfl).trans (by simp only [zJ])) (by kernel_rfl))
end Go.Proofs.Ytacbgjhmkhjpoaa
namespace Go.Proofs.Ytacbgjhmkhjpoaa
open Go.Abs
abbrev jB.id:FuncId:=37
noncomputable def jB.code:Code:=(.seq (.region 0 (reg Try.f37 0) false) (.seq (.region 1 (reg Try.f37 1) false) Code.ret))
theorem jB.body:Try.f37.body=some jB.code:=by kernel_rfl
variable (b d j f g i:Value) (S:zx)
theorem jB.r0 :jh zi ⟨false,false,false⟩ (zT zi O) (reg Try.f37 0) (reg Try.f37 0).toList ([b,d,j,f,g,i]) S =
  ( some ([b,d,Value.bool false,f,g,i],S)):=by
 kernel_rfl
theorem jB.r1 :jh zi ⟨false,false,false⟩ (zT zi O) (reg Try.f37 1) (reg Try.f37 1).toList ([b,d,j,f,g,i]) S =
  (zW (wV zi BinOp.neq 3 (dem b) (dem b) S) (fun k c=>some ([b,d,k,dem b,dem b,dem k],c)) ()):=by
 kernel_rfl
theorem jB.rs:type_of% (afL @jB.r0 (@jB.r1)):=afL @jB.r0 (@jB.r1)
theorem jB.runs {b:Value} {S c:zx} {e:AEx} {T:List Value} (h:zG zi O false jB.code ([b,zh,zh,zh,zh,zh]) S=some (e,T,c)) (he:e=.normal∨e=.ret):zT zi O 37 [b] S=some (T.getD 2 zh,c) :=
 jC rfl rfl Try.func37 (by decide) jB.body (by exact h) he (jD (a:=T.getD 2 zh) ((show zJ zi T c Try.f37.results.toList=zJ zi T c [(ResultVar.tmp 2)] from by kernel_rfl).trans (by simp only [zJ])) (by kernel_rfl))
end Go.Proofs.Ytacbgjhmkhjpoaa
namespace Go.Proofs.Ytacbgjhmkhjpoaa
open Go.Abs
structure TxV where
 id:Int
 fee:Int
 deriving DecidableEq
def fT (t:TxV):List Value:=[.int .i64 t.id,.int .i64 t.fee]
abbrev tv (t:TxV):Value:=.agg [Value.int .i64 t.id,.int .i64 t.fee].toArray
structure TxV.Ok (t:TxV):Prop where
 id:-9223372036854775808≤t.id∧t.id < 9223372036854775808
 fee:-9223372036854775808≤t.fee∧t.fee < 9223372036854775808
abbrev tTx:Ty:=.pair (.int .i64) (.pair (.int .i64) .unit)
def Zp (t:TxV):Bool:=decide (1≤t.id) && decide (t.id≤1000000) && decide (0≤t.fee) && decide (t.fee≤1000)
def yM (a b:TxV):Bool:=if a.fee=b.fee then decide (a.id < b.id) else decide (b.fee < a.fee)
abbrev mem1 (t:TxV):zx:=zx.empty.push (.cells [Value.int .i64 t.id,.int .i64 t.fee] (.own []) 0)
theorem box1 (t:TxV):ZC (tv t) zx.empty=some (.pointer (some ⟨0,0,none⟩),mem1 t):=rfl
theorem Jl (t:TxV):(mem1 t).get 0=some (.cells [Value.int .i64 t.id,.int .i64 t.fee] (.own []) 0):=rfl
theorem jQ.v (t:TxV) (S:zx):zT zi O jQ.id [tv t] S=some (.bool (Zp t),S):=by
 obtain ⟨T,hTe⟩:∃ T,T=(tv t::zh::zh::zh::zh::zh::zh::zh::zh::zh::zh::zh::zh::zh::zh::zh::zh::zh::zh::zh::zh::[]):=⟨_,rfl⟩
 have hr:zG zi O false jQ.code T zx.empty=zG zi O false jQ.code T zx.empty:=rfl
 have l0:=wY (t:=3) (o:=0+0) (Jl t) vN rfl
 have l1:=wY (t:=3) (o:=0+1) (Jl t) vN rfl
 by_cases h1:1≤t.id <;> by_cases h2:t.id≤1000000 <;> by_cases h3:0≤t.fee <;> by_cases h4:t.fee≤1000
 all_goals
  conv at hr =>
   rhs
   rw [hTe]
   simp only [jQ.code,jQ.rs,zSs,reduceIte,zk,zn,zo,zq,box1,jI,qV,l0,l1,h1,h2,h3,h4]
  rw [hTe] at hr
  simp only [Zp,h1,h2,h3,h4,decide_true,decide_false,Bool.and_true,Bool.and_false,Bool.false_and]
  exact jQ.runs hr (.inr rfl) rfl rfl
theorem zM.v (t:TxV) (S:zx):zT zi O zM.id [tv t] S=some (.bool (Zp t),S):=by
 obtain ⟨T,hTe⟩:∃ T,T=(tv t::zh::zh::zh::zh::zh::zh::zh::zh::zh::zh::zh::zh::zh::zh::zh::zh::zh::zh::zh::zh::[]):=⟨_,rfl⟩
 have hr:zG zi O false zM.code T zx.empty=zG zi O false zM.code T zx.empty:=rfl
 have l0:=wY (t:=3) (o:=0+0) (Jl t) vN rfl
 have l1:=wY (t:=3) (o:=0+1) (Jl t) vN rfl
 have h0:decide (1≤t.id)=decide (0 < t.id):=decide_eq_decide.mpr (by omega)
 unfold Zp
 rw [h0]
 by_cases h1:0 < t.id <;> by_cases h2:t.id≤1000000 <;> by_cases h3:0≤t.fee <;> by_cases h4:t.fee≤1000
 all_goals
  conv at hr =>
   rhs
   rw [hTe]
   simp only [zM.code,zM.rs,zSs,reduceIte,zk,zn,zo,zq,box1,jI,qV,l0,l1,h1,h2,h3,h4]
  rw [hTe] at hr
  simp only [h1,h2,h3,h4,decide_true,decide_false,Bool.and_true,Bool.and_false,Bool.false_and]
  exact zM.runs hr (.inr rfl) rfl rfl
def adO (a b:Int):Int:=if a < b then -1 else if b < a then 1 else 0
theorem jB.v (a:Int) (S:zx):zT zi O jB.id [.int .i64 a] S=some (.bool false,S):=by
 obtain ⟨T,hTe⟩:∃ T,T=(.int .i64 a::zh::zh::zh::zh::zh::[]):=⟨_,rfl⟩
 have hr:zG zi O false jB.code T S=zG zi O false jB.code T S:=rfl
 conv at hr =>
  rhs
  rw [hTe]
  simp only [jB.code,jB.rs,zSs,reduceIte,zk,zn,zo,zq,bne_self_eq_false,ne_eq,not_true_eq_false,Bool.not_true]
 rw [hTe] at hr
 exact jB.runs hr (.inr rfl)
theorem zI.v (a b:Int) (S:zx):zT zi O zI.id [.int .i64 a,.int .i64 b] S=some (.int .i64 (adO a b),S):=by
 obtain ⟨T,hTe⟩:∃ T,T=(.int .i64 a::.int .i64 b::zh::zh::zh::zh::zh::zh::zh::zh::zh::zh::zh::zh::zh::zh::zh::zh::zh::zh::[]):=⟨_,rfl⟩
 have hr:zG zi O false zI.code T S=zG zi O false zI.code T S:=rfl
 by_cases h1:a < b <;> by_cases h2:b < a
 all_goals
  conv at hr =>
   rhs
   rw [hTe]
   simp only [zI.code,zI.rs,zSs,reduceIte,zk,zn,zo,zq,jB.v,h1,h2]
  rw [hTe] at hr
  simp only [adO,h1,h2,if_true,if_false]
  exact zI.runs hr (.inr rfl)
def ac1:List Int→Int
 | []=>0
 | x::l=>if x=0 then ac1 l else x
theorem jk.round {k:Nat} {l:List Int} (hk:Okl k l) (hl:l.length≤17592186044416) {S:zx}:∀ (suf pre:List Int) {T:List Value} {r:St},yc (zG zi O false jk.je) T S=r→T.length=18→T.getD 3 zh=.int .i64 0 →
  T.getD 6 zh=iz k l→T.getD 7 zh=.int .i64 l.length→T.getD 8 zh=.int .i64 pre.length→l=pre++suf →
  ∃ e T',r=some (e,T',S)∧if ac1 suf=0 then e=.exit 0∧T'.length=18∧T'.getD 3 zh=.int .i64 0 else e=.ret∧T'.getD 2 zh=.int .i64 (ac1 suf):=by
 intro suf
 induction suf with
 | nil =>
  intro pre T r hL hT h3 h6 h7 h8 hpre
  have hTe:=jk.eta hT
  rw [h3,h6,h7,h8] at hTe
  have hr:zG zi O false jk.je T S=zG zi O false jk.je T S:=rfl
  have d1:¬ (pre.length:Int) < (l.length:Int):=by rw [hpre];simp
  conv at hr =>
   rhs
   rw [hTe]
   simp only [jk.je,jk.code,jk.rs,zSs,reduceIte,zk,zn,zo,zq,d1]
  exact ⟨_,_,hL.symm.trans (jF hr (by simp)),rfl,rfl,rfl⟩
 | cons x suf ih =>
  intro pre T r hL hT h3 h6 h7 h8 hpre
  have hTe:=jk.eta hT
  rw [h3,h6,h7,h8] at hTe
  have hr:zG zi O false jk.je T S=zG zi O false jk.je T S:=rfl
  have d1:(pre.length:Int) < (l.length:Int):=by rw [hpre];simp;omega
  have e1:∀ S,zZ zi 38 (iz k l) (.int .i64 pre.length) S=some (EP [.int .i64 x],S):=fun S=>by
   rw [aeb hk (by omega) d1];rw [J6 hpre]
  have wi:IntKind.i64.wrap ((pre.length:Int)+1)=((pre++[x]).length:Int):=by rw [wrap_i64 (by omega) (by omega)];simp
  by_cases h1:x=0
  ·
   conv at hr =>
    rhs
    rw [hTe]
    simp only [jk.je,jk.code,jk.rs,zSs,reduceIte,zk,zn,zo,zq,d1,e1,ZF,h1,wi,not_true_eq_false,ne_eq]
   subst h1
   obtain ⟨e,T',g1,g2⟩:=ih (pre++[0]) ((jy hr).symm.trans hL) rfl rfl rfl rfl rfl (by simp [hpre])
   exact ⟨e,T',g1,g2⟩
  ·
   conv at hr =>
    rhs
    rw [hTe]
    simp only [jk.je,jk.code,jk.rs,zSs,reduceIte,zk,zn,zo,zq,d1,e1,ZF,h1,wi,not_false_eq_true,ne_eq]
   refine ⟨_,_,hL.symm.trans (jF hr (by simp)),?_⟩
   have ho:ac1 (x::suf)=x:=if_neg h1
   rw [ho,if_neg h1]
   exact ⟨rfl,rfl⟩
theorem jk.v {k:Nat} {l:List Int} (hk:Okl k l) (k2:k≠2) (hl:l.length≤17592186044416) (S:zx):zT zi O jk.id [iz k l] S=some (.int .i64 (ac1 l),S):=by
 obtain ⟨T,hTe⟩:∃ T,T=(iz k l::zh::zh::zh::zh::zh::zh::zh::zh::zh::zh::zh::zh::zh::zh::zh::zh::zh::[]):=⟨_,rfl⟩
 have hr:zG zi O false jk.code T S=zG zi O false jk.code T S:=rfl
 conv at hr =>
  rhs
  rw [hTe]
  simp only [jk.code,jk.rs,zSs,reduceIte,zk,zn,zo,zq,if_neg k2,VU hk,goInt]
 generalize hL:yc (zG zi O false jk.je) _ _=r at hr
 obtain ⟨e,T',rfl,g⟩:=jk.round hk hl l [] hL rfl rfl rfl rfl rfl rfl
 by_cases h:ac1 l=0
 ·
  rw [if_pos h] at g
  obtain ⟨rfl,g2,g3⟩:=g
  have hTe':=jk.eta g2
  rw [g3] at hTe'
  conv at hr =>
   rhs
   rw [hTe']
   simp only [jk.code,jk.rs,zSs,reduceIte,zk,zn,zo,zq]
  rw [hTe] at hr
  rw [h]
  exact jk.runs hr (.inr rfl)
 ·
  rw [if_neg h] at g
  obtain ⟨rfl,g2⟩:=g
  conv at hr =>
   rhs
   simp only [zSs,reduceIte,zk,zn,zo,zq]
  rw [hTe] at hr
  have hrun:=jk.runs hr (.inr rfl)
  rw [g2] at hrun
  exact hrun
theorem afk (x y:Int):sv 2 1 2 [.int .i64 x,.int .i64 y]=iz 2 [x,y]:=rfl
abbrev mem2 (a b:TxV):zx:=(mem1 a).push (.cells [Value.int .i64 b.id,.int .i64 b.fee] (.own []) 0)
theorem afm (a b:TxV):ZC (tv b) (mem1 a)=some (.pointer (some ⟨1,0,none⟩),mem2 a b):=by kernel_rfl
theorem Ql (a b:TxV):(mem2 a b).get 0=some (.cells [Value.int .i64 a.id,.int .i64 a.fee] (.own []) 0):=by kernel_rfl
theorem Qp (a b:TxV):(mem2 a b).get 1=some (.cells [Value.int .i64 b.id,.int .i64 b.fee] (.own []) 0):=by kernel_rfl
theorem adP (a b:TxV):decide (ac1 [adO b.fee a.fee,adO a.id b.id] < 0)=yM a b:=by
 unfold yM
 simp only [ac1,adO]
 by_cases h1:b.fee < a.fee
 ·
  rw [if_neg (show ¬ a.fee=b.fee by omega)];simp [h1]
 ·
  by_cases h2:a.fee < b.fee
  ·
   rw [if_neg (show ¬ a.fee=b.fee by omega)];simp [h1,h2]
  ·
   rw [if_pos (show a.fee=b.fee by omega)]
   simp only [h1,h2,if_false,if_true]
   by_cases h3:a.id < b.id
   ·
    simp [h3]
   ·
    by_cases h4:b.id < a.id
    ·
     simp [h3,h4]
    ·
     simp [h3,h4]
theorem jJ.v (a b:TxV) (S:zx):zT zi O jJ.id [tv a,tv b] S=some (.bool (yM a b),S):=by
 obtain ⟨T,hTe⟩:∃ T,T=(tv a::tv b::zh::zh::zh::zh::zh::zh::zh::zh::zh::zh::zh::zh::zh::zh::zh::zh::[]):=⟨_,rfl⟩
 have hr:zG zi O false jJ.code T zx.empty=zG zi O false jJ.code T zx.empty:=rfl
 have l00:=wY (t:=3) (o:=0+0) (Ql a b) vN rfl
 have l01:=wY (t:=3) (o:=0+1) (Ql a b) vN rfl
 have l10:=wY (t:=3) (o:=0+0) (Qp a b) vN rfl
 have l11:=wY (t:=3) (o:=0+1) (Qp a b) vN rfl
 have q0:=Jm (o:=0+0) (Ql a b)
 have q1:=Jm (o:=0+0) (Qp a b)
 have c1:=fun S=>jk.v (l:=[adO b.fee a.fee,adO a.id b.id]) Okl.read (by decide) (by simp) S
 conv at hr =>
  rhs
  rw [hTe]
  simp only [jJ.code,jJ.rs,zSs,reduceIte,zk,zn,zo,zq,box1,afm,jI,qV,l00,l01,l10,l11,zI.v,Vl,afk,c1,adP,q0,q1]
 rw [hTe] at hr
 exact jJ.runs hr (.inr rfl) rfl rfl
theorem zH.v (a b:TxV) (S:zx):zT zi O zH.id [tv a,tv b] S=some (.bool (yM a b),S):=by
 obtain ⟨T,hTe⟩:∃ T,T=(tv a::tv b::zh::zh::zh::zh::zh::zh::zh::zh::zh::zh::zh::zh::zh::zh::zh::zh::zh::zh::[]):=⟨_,rfl⟩
 have hr:zG zi O false zH.code T zx.empty=zG zi O false zH.code T zx.empty:=rfl
 have l00:=wY (t:=3) (o:=0+0) (Ql a b) vN rfl
 have l01:=wY (t:=3) (o:=0+1) (Ql a b) vN rfl
 have l10:=wY (t:=3) (o:=0+0) (Qp a b) vN rfl
 have l11:=wY (t:=3) (o:=0+1) (Qp a b) vN rfl
 unfold yM
 by_cases h:a.fee=b.fee
 ·
  conv at hr =>
   rhs
   rw [hTe]
   simp only [zH.code,zH.rs,zSs,reduceIte,zk,zn,zo,zq,box1,afm,jI,qV,l00,l01,l10,l11,decide_eq_true h,bne_iff_ne,ne_eq,not_true_eq_false,Bool.not_true]
  rw [if_pos h]
  rw [hTe] at hr
  exact zH.runs hr (.inr rfl) rfl rfl
 ·
  conv at hr =>
   rhs
   rw [hTe]
   simp only [zH.code,zH.rs,zSs,reduceIte,zk,zn,zo,zq,box1,afm,jI,qV,l00,l01,l10,l11,decide_eq_false h,Bool.not_false]
  rw [if_neg h]
  rw [hTe] at hr
  exact zH.runs hr (.inr rfl) rfl rfl
theorem afi (x:tTx.Val) (hg:tTx.Good x):∃ t:TxV,tTx.Ja x=fT t∧t.Ok:=by
 obtain ⟨a,b,u⟩:=x
 obtain ⟨h1,h2,_⟩:=hg
 exact ⟨⟨a,b⟩,rfl,acM h1,acM h2⟩
end Go.Proofs.Ytacbgjhmkhjpoaa
namespace Go.Proofs.Ytacbgjhmkhjpoaa
open Go.Abs
theorem WA {g:FuncId} {v c:Value} {S:zx}:aff (zT zi O) (.func (Fn.func g) #[] #[c]) [v] S=zT zi O g [v,c] S:=rfl
theorem Q8 {hps:FuncId→Bool} {g:FuncId} {v c:Value} {S:zx} (hv:ZI v=false) (hc:ZI c=false):aff (jY hps true (zT zi O)) (.func (Fn.func g) #[] #[c]) [v] S=zT zi O g [v,c] S:=by
 show jY hps true (zT zi O) g [v,c] S=_
 unfold jY
 dsimp only
 split
 ·
  rfl
 ·
  exact XI (call:=zT zi O) (g:=g) (args:=[v,c]) (by simp [hv,hc])
theorem qU (t:TxV):(fT t).length=2:=rfl
theorem KY (t:TxV):(fT t).all (·.oneCell')=true:=rfl
theorem acL (w:TxV):(fT w).map qP=fT w:=rfl
theorem Qi {α:Type} {p:α→Bool}:∀ {l:List α} {i:Int},l.any p=true→∃ pre x suf,l=pre++x::suf∧pre.any p=false∧p x=true∧idxFrom p i l=i+pre.length
 | [],_,h=>by cases h
 | x::r,i,h=>by
  cases hx:p x with
  | true=>exact ⟨[],x,r,rfl,rfl,hx,by rw [idxFrom,hx];simp⟩
  | false =>
   rw [List.any_cons,hx,Bool.false_or] at h
   obtain ⟨pre,y,suf,h1,h2,h3,h4⟩:=Qi (i:=i+1) h
   refine ⟨x::pre,y,suf,by rw [h1];rfl,by rw [List.any_cons,hx,h2];rfl,h3,?_⟩
   rw [idxFrom,hx,if_neg (by decide),h4,List.length_cons]
   omega
theorem filter_none {α:Type} {p:α→Bool} {l:List α} (h:l.any p=false):l.filter (fun x=>!p x)=l:=by
 rw [List.filter_eq_self]
 intro x hx
 rw [List.any_eq_false] at h
 have:=h x hx
 simpa using this
section
variable {l:List TxV} {p:TxV→Bool} {g:FuncId} {c:Value} {K:zx→Prop}
theorem slices_IndexFunc.aeM {k:Nat} (hv:Okl k l) (hk:k≠2) (hlen:l.length≤17592186044416) (hp:∀ S x,K S→x ∈ l→∃ S1,zT zi O g [tv x,c] S=some (.bool (p x),S1)∧Ext S S1∧S1.log=S.log) (hK:∀ S S1,K S→Ext S S1→K S1):∀ (suf pre:List TxV) {T:List Value} {r:St} {S:zx},yc (zG zi O false slices_IndexFunc.je) T S=r→T.length=19→K S →
  T.getD 0 zh=vs fT 2 k l→T.getD 1 zh=.func (Fn.func g) #[] #[c]→T.getD 7 zh=.int .i64 l.length→T.getD 8 zh=.int .i64 pre.length→l=pre++suf →
  ∃ e T' S',r=some (e,T',S')∧Ext S S'∧S'.log=S.log∧if suf.any p then e=.ret∧T'.getD 4 zh=.int .i64 (idxFrom p pre.length suf) else e=.exit 0∧T'.length=19:=by
 intro suf
 induction suf with
 | nil =>
  intro pre T r S hL hT hS h0 h1 h7 h8 hl
  have hTe:=slices_IndexFunc.eta hT
  rw [h0,h1,h7,h8] at hTe
  have hr:zG zi O false slices_IndexFunc.je T S=zG zi O false slices_IndexFunc.je T S:=rfl
  have hd:¬ (pre.length:Int) < (l.length:Int):=by rw [hl];simp
  conv at hr =>
   rhs
   rw [hTe]
   simp only [slices_IndexFunc.je,slices_IndexFunc.code,slices_IndexFunc.rs,zSs,reduceIte,zk,zn,zo,zq,hd]
  exact ⟨_,_,_,hL.symm.trans (jF hr (by simp)),Ext.refl _,rfl,rfl,rfl⟩
 | cons x suf ih =>
  intro pre T r S hL hT hS h0 h1 h7 h8 hl
  have hTe:=slices_IndexFunc.eta hT
  rw [h0,h1,h7,h8] at hTe
  have hr:zG zi O false slices_IndexFunc.je T S=zG zi O false slices_IndexFunc.je T S:=rfl
  have hd:(pre.length:Int) < (l.length:Int):=by rw [hl];simp;omega
  have e1:∀ S,zZ zi 23 (vs fT 2 k l) (.int .i64 pre.length) S=some (EP (fT x),S):=fun S=>by
   rw [ab8 jm jw qU hv (by omega) hd,aaI hl]
  have l1:∀ S,jf zi false 30 (EP (fT x)) S=some (tv x,S):=fun S=>JY xU jw rfl
  have wi:IntKind.i64.wrap ((pre.length:Int)+1)=((pre++[x]).length:Int):=by rw [wrap_i64 (by omega) (by omega)];simp
  obtain ⟨S1,p1,x1,g1⟩:=hp S x hS (by rw [hl];simp)
  rw [List.any_cons,idxFrom]
  cases hx:p x with
  | true =>
   rw [hx] at p1
   conv at hr =>
    rhs
    rw [hTe]
    simp only [slices_IndexFunc.je,slices_IndexFunc.code,slices_IndexFunc.rs,zSs,reduceIte,zk,zn,zo,zq,yw,WA,if_neg hk,hd,e1,l1,p1]
   refine ⟨_,_,_,hL.symm.trans (jF hr (by simp)),x1,g1,?_⟩
   rw [Bool.true_or]
   exact ⟨rfl,rfl⟩
  | false =>
   rw [hx] at p1
   conv at hr =>
    rhs
    rw [hTe]
    simp only [slices_IndexFunc.je,slices_IndexFunc.code,slices_IndexFunc.rs,zSs,reduceIte,zk,zn,zo,zq,yw,WA,if_neg hk,hd,e1,l1,p1,wi]
   obtain ⟨e,T',S',q1,q2,q3,q4⟩:=ih (pre++[x]) ((jy hr).symm.trans hL) rfl (hK _ _ hS x1) rfl rfl rfl rfl (by simp [hl])
   refine ⟨e,T',S',q1,x1.trans q2,q3.trans g1,?_⟩
   rw [Bool.false_or]
   rw [show (((pre++[x]).length:Nat):Int)=(pre.length:Int)+1 by simp] at q4
   exact q4
theorem slices_IndexFunc.vC {k:Nat} (hv:Okl k l) (hk:k≠2) (hlen:l.length≤17592186044416) (hp:∀ S x,K S→x ∈ l→∃ S1,zT zi O g [tv x,c] S=some (.bool (p x),S1)∧Ext S S1∧S1.log=S.log) (hK:∀ S S1,K S→Ext S S1→K S1) {S:zx} (hS:K S) :
  ∃ S1,zT zi O slices_IndexFunc.id [vs fT 2 k l,.func (Fn.func g) #[] #[c]] S=some (.int .i64 (idxFrom p 0 l),S1)∧Ext S S1∧S1.log=S.log:=by
 obtain ⟨T,hTe⟩:∃ T,T=(vs fT 2 k l::.func (Fn.func g) #[] #[c]::zh::zh::zh::zh::zh::zh::zh::zh::zh::zh::zh::zh::zh::zh::zh::zh::zh::[]):=⟨_,rfl⟩
 have hr:zG zi O false slices_IndexFunc.code T S=zG zi O false slices_IndexFunc.code T S:=rfl
 have ln:=fun S=>Xe (P:=zi) (t:=23) (f:=fT) (e:=2) (S:=S) jm hv
 conv at hr =>
  rhs
  rw [hTe]
  simp only [slices_IndexFunc.code,slices_IndexFunc.rs,zSs,reduceIte,zk,zn,zo,zq,yw,if_neg hk,ln,goInt]
 generalize hL:yc (zG zi O false slices_IndexFunc.je) _ _=r at hr
 obtain ⟨e,T',S',rfl,x1,g1,q⟩:=slices_IndexFunc.aeM hv hk hlen hp hK l [] hL rfl hS rfl rfl rfl rfl rfl
 cases h:l.any p with
 | true =>
  rw [h] at q
  obtain ⟨rfl,g2⟩:=q
  conv at hr =>
   rhs
   simp only [zSs,reduceIte,zk,zn,zo,zq]
  rw [hTe] at hr
  have hrun:=slices_IndexFunc.runs hr (.inr rfl)
  rw [g2] at hrun
  exact ⟨_,hrun,x1,g1⟩
 | false =>
  rw [h] at q
  obtain ⟨rfl,g2⟩:=q
  have hTe':=slices_IndexFunc.eta g2
  conv at hr =>
   rhs
   rw [hTe']
   simp only [slices_IndexFunc.code,slices_IndexFunc.rs,zSs,reduceIte,zk,zn,zo,zq]
  rw [hTe] at hr
  rw [Ze h]
  exact ⟨_,slices_IndexFunc.runs hr (.inr rfl),x1,g1⟩
theorem aa8 (S:zx):qJ zi 30 S=some (.pointer (some ⟨S.next,0,none⟩),S.push (.cells [.int .i64 0,.int .i64 0] (.own []) 0)):=by kernel_rfl
theorem slices_DeleteFunc.round {r n:Nat} (hlen:n≤17592186044416) {fp0:List Nat} {S0:zx} (hp:∀ S x,K S→x ∈ l→∃ S1,zT zi O g [tv x,c] S=some (.bool (p x),S1)∧Ext S S1∧S1.log=S.log) (hc:ZI c=false) (hK:∀ S S1,K S→Fr fp0 S S1→K S1) :
  ∀ (suf kept mid:List TxV) {T:List Value} {rr:St} {S:zx} {fp:List Nat},yc (zG zi O true slices_DeleteFunc.je) T S=rr→T.length=42→K S→Fr fp0 S0 S→(∀ x ∈ suf,x ∈ l) →
  T.getD 0 zh=.slice (some ⟨r,0,none⟩) n n→T.getD 1 zh=.func (Fn.func g) #[] #[c]→T.getD 5 zh=.int .i64 kept.length→T.getD 6 zh=.int .i64 (kept++mid).length→n=(kept++mid++suf).length→mid.length≠0 →
  qW fT 2 S (some ⟨r,0,none⟩) (kept++mid++suf) fp→(∀ x ∈ fp,x ∈ fp0) →
  ∃ T' S' mid' fp',rr=some (.exit 0,T',S')∧T'.length=42∧T'.getD 0 zh=.slice (some ⟨r,0,none⟩) n n∧T'.getD 5 zh=.int .i64 (kept++suf.filter fun x=>!p x).length∧n=((kept++suf.filter fun x=>!p x)++mid').length∧mid'.length≠0 ∧
   qW fT 2 S' (some ⟨r,0,none⟩) ((kept++suf.filter fun x=>!p x)++mid') fp'∧(∀ x ∈ fp',x ∈ fp0)∧Fr fp0 S0 S':=by
 intro suf
 induction suf with
 | nil =>
  intro kept mid T rr S fp hL hT hS hF hsl h0 h1 h5 h6 hn hm hA hfp
  have hTe:=slices_DeleteFunc.eta hT
  rw [h0,h1,h5,h6] at hTe
  have hr:zG zi O true slices_DeleteFunc.je T S=zG zi O true slices_DeleteFunc.je T S:=rfl
  have ln:=fun S=>Jq jm (some ⟨r,0,none⟩) n n S
  have hd:¬ ((kept++mid).length:Int) < (n:Int):=by rw [hn];simp
  conv at hr =>
   rhs
   rw [hTe]
   simp only [slices_DeleteFunc.je,slices_DeleteFunc.code,slices_DeleteFunc.rs,zSs,reduceIte,zk,zn,zo,zq,yw,ln,goInt,hd]
  rw [List.append_nil] at hn hA
  refine ⟨_,_,mid,fp,hL.symm.trans (jF hr (by simp)),rfl,rfl,?_,?_,hm,?_,hfp,hF⟩
  ·
   rw [List.filter_nil,List.append_nil];rfl
  ·
   rw [List.filter_nil,List.append_nil];exact hn
  ·
   rw [List.filter_nil,List.append_nil];exact hA
 | cons x suf ih =>
  intro kept mid T rr S fp hL hT hS hF hsl h0 h1 h5 h6 hn hm hA hfp
  have hTe:=slices_DeleteFunc.eta hT
  rw [h0,h1,h5,h6] at hTe
  have hr:zG zi O true slices_DeleteFunc.je T S=zG zi O true slices_DeleteFunc.je T S:=rfl
  have ln:=fun S=>Jq jm (some ⟨r,0,none⟩) n n S
  have hd:((kept++mid).length:Int) < (n:Int):=by rw [hn];simp;omega
  have hnl:(kept++mid).length+1≤n:=by omega
  have ix:∀ S,zZ zi 23 (.slice (some ⟨r,0,none⟩) n n) (.int .i64 (kept++mid).length) S=some (.pointer (some ⟨r,0+(kept++mid).length * 2,none⟩),S):=fun S=>by
   rw [Kq (o:=0) (n:=n) (c:=n) (q:=r) jm jw (by omega) hd,Int.toNat_natCast]
  have hA0:=hA
  rcases hA0 with ⟨h,_⟩ | ⟨r',anc,rest,ha,hfa,hg,hx⟩
  ·
   cases h
  simp only [Option.some.injEq,Addr.mk.injEq,and_true] at ha
  subst ha
  have l1:jf zi false 30 (.pointer (some ⟨r,0+(kept++mid).length * 2,none⟩)) S=some (tv x,S):=qW.load (P:=zi) (te:=30) (S:=S) xU jw qU acL (x:=x) (pre:=kept++mid) (suf:=suf) hg
  obtain ⟨S1,n1,n2,n3,n4⟩:=JI (P:=zi) (t:=30) (z:=[.int .i64 0,.int .i64 0]) (xs:=fT x) (x:=tv x) S rfl jw rfl rfl
  have al:=aa8 S
  have l2:jf zi false 30 (.pointer (some ⟨S.next,0,none⟩)) S1=some (tv x,S1):=by
   have:=JV n2
   exact this
  have hS1:K S1:=hK _ _ hS (Fr.ext n3)
  obtain ⟨S2,p1,x1,g1⟩:=hp S1 x hS1 (hsl x (by simp))
  have hS2:K S2:=hK _ _ hS1 (Fr.ext x1)
  have hA2:=(hA.ext n3).ext x1
  have hF2:Fr fp0 S0 S2:=(hF.trans (Fr.ext n3) (fp2:=[]) (fun x hx=>by cases hx)).trans (Fr.ext x1) (fp2:=[]) (fun x hx=>by cases hx)
  have l3:jf zi false 30 (.pointer (some ⟨S.next,0,none⟩)) S2=some (tv x,S2):=JV ((x1.get _ n4).trans n2)
  have wj:IntKind.i64.wrap (((kept++mid).length:Int)+1)=((kept++mid).length:Int)+1:=wrap_i64 (by omega) (by omega)
  have dq:=Q8 (hps:=O.hp) (g:=g) (v:=tv x) (c:=c) (S:=S1) rfl hc
  cases hpx:p x with
  | true =>
   rw [hpx] at p1
   conv at hr =>
    rhs
    rw [hTe]
    simp only [slices_DeleteFunc.je,slices_DeleteFunc.code,slices_DeleteFunc.rs,zSs,reduceIte,zk,zn,zo,zq,yw,ln,goInt,hd,ix,l1,al,n1,l2,dq,p1,wj]
   have hs:=(jy hr).symm.trans hL
   obtain ⟨T',S',mid',fp',q1,q2,q3,q4,q5,q6,q7,q8,q9⟩:=ih kept (mid++[x]) hs rfl hS2 hF2 (fun y hy=>hsl y (by simp [hy])) rfl rfl rfl (by show Value.int .i64 _=Value.int .i64 _;congr 1;simp <;> omega) (by rw [hn];simp <;> omega) (by simp) (by simpa using hA2) hfp
   refine ⟨T',S',mid',fp',q1,q2,q3,?_,?_,q6,?_,q8,q9⟩
   ·
    rw [List.filter_cons_of_neg (by simp [hpx])];exact q4
   ·
    rw [List.filter_cons_of_neg (by simp [hpx])];exact q5
   ·
    rw [List.filter_cons_of_neg (by simp [hpx])];exact q7
  | false =>
   rw [hpx] at p1
   obtain ⟨m,mid2,rfl⟩:∃ m mid2,mid=m::mid2:=by
    cases mid with
    | nil=>simp at hm
    | cons m mid2=>exact ⟨m,mid2,rfl⟩
   have hA3:=hA2
   rcases hA3 with ⟨h,_⟩ | ⟨r',anc2,rest2,ha2,hfa2,hg2,hx2⟩
   ·
    cases h
   simp only [Option.some.injEq,Addr.mk.injEq,and_true] at ha2
   subst ha2
   have hk5:(kept.length:Int) < (n:Int):=by rw [hn];simp;omega
   have ix2:∀ S,zZ zi 23 (.slice (some ⟨r,0,none⟩) n n) (.int .i64 kept.length) S=some (.pointer (some ⟨r,0+kept.length * 2,none⟩),S):=fun S=>by
    rw [Kq (o:=0) (n:=n) (c:=n) (q:=r) jm jw (by omega) hk5,Int.toNat_natCast]
   have hg3:S2.get r=some (.cells ((kept++m::(mid2++x::suf)).flatMap fT++rest2) (.own anc2) 2):=by rw [hg2];simp
   obtain ⟨S3,s1,s2,s3,s4,s5⟩:=qW.put (P:=zi) (te:=30) (S:=S2) jw qU KY (by decide) (x:=m) (y:=x) (pre:=kept) (suf:=mid2++x::suf) hg3 (by rw [← hfa2];exact hx2)
   have wi:IntKind.i64.wrap ((kept.length:Int)+1)=(kept.length:Int)+1:=wrap_i64 (by omega) (by omega)
   have hs4:Fr fp0 S2 S3:=s4.more fun x hx=>.inl (hfp x (by rw [hfa2];exact hx))
   have hS3:K S3:=hK _ _ hS2 hs4
   have hF3:Fr fp0 S0 S3:=hF2.trans hs4 fun x hx=>.inl hx
   have hA4:qW fT 2 S3 (some ⟨r,0,none⟩) ((kept++[x])++(mid2++[x])++suf) [r]:=.inr ⟨r,[],rest2,rfl,rfl,by rw [s2];simp,fun y hy=>by
    rw [List.mem_singleton.1 hy]
    exact ⟨by rw [s3];exact (hx2 r (by rw [hfa2];simp)).1,s5⟩⟩
   have sm:qE zi 30 (.pointer (some ⟨r,0+kept.length * 2,none⟩)) (tv x) S2=some (zh,S3):=s1
   conv at hr =>
    rhs
    rw [hTe]
    simp only [slices_DeleteFunc.je,slices_DeleteFunc.code,slices_DeleteFunc.rs,zSs,reduceIte,zk,zn,zo,zq,yw,ln,goInt,hd,ix,l1,al,n1,l2,dq,p1,wj,l3,ix2,sm,wi]
   have hs:=(jy hr).symm.trans hL
   obtain ⟨T',S',mid',fp',q1,q2,q3,q4,q5,q6,q7,q8,q9⟩:=ih (kept++[x]) (mid2++[x]) hs rfl hS3 hF3 (fun y hy=>hsl y (by simp [hy])) rfl rfl (by show Value.int .i64 _=Value.int .i64 _;congr 1;simp) (by show Value.int .i64 _=Value.int .i64 _;congr 1;simp <;> omega) (by rw [hn];simp <;> omega) (by simp) hA4 (fun y hy=>hfp y (by rw [hfa2];rw [List.mem_singleton.1 hy];simp))
   have hfl:(kept++(x::suf).filter fun x=>!p x)=(kept++[x])++suf.filter fun x=>!p x:=by
    rw [List.filter_cons_of_pos (by simp [hpx])];simp
   refine ⟨T',S',mid',fp',q1,q2,q3,?_,?_,q6,?_,q8,q9⟩
   ·
    rw [hfl];exact q4
   ·
    rw [hfl];exact q5
   ·
    rw [hfl];exact q7
theorem slices_DeleteFunc.v {a:Option Addr} {fp:List Nat} {S:zx} (hA:qW fT 2 S a l fp) (hlen:l.length≤17592186044416) (hp:∀ S x,K S→x ∈ l→∃ S1,zT zi O g [tv x,c] S=some (.bool (p x),S1)∧Ext S S1∧S1.log=S.log) (hc:ZI c=false) (hK:∀ S S1,K S→Fr fp S S1→K S1) (hS:K S) :
  ∃ a' S1 fp',zT zi O slices_DeleteFunc.id [.slice a l.length l.length,.func (Fn.func g) #[] #[c]] S=some (.slice a' (l.filter fun x=>!p x).length (l.filter fun x=>!p x).length,S1) ∧
   qW fT 2 S1 a' (l.filter fun x=>!p x) fp'∧(∀ x ∈ fp',x ∈ fp)∧Fr fp S S1:=by
 obtain ⟨T,hTe⟩:∃ T,T=(.slice a l.length l.length::.func (Fn.func g) #[] #[c]::zh::zh::zh::zh::zh::zh::zh::zh::zh::zh::zh::zh::zh::zh::zh::zh::zh::zh::zh::zh::zh::zh::zh::zh::zh::zh::zh::zh::zh::zh::zh::zh::zh::zh::zh::zh::zh::zh::zh::zh::[]):=⟨_,rfl⟩
 have hr:zG zi O true slices_DeleteFunc.code T S=zG zi O true slices_DeleteFunc.code T S:=rfl
 have hKE:∀ S S1,K S→Ext S S1→K S1:=fun S S1 h k=>hK S S1 h (Fr.ext k)
 cases hany:l.any p with
 | false =>
  have c1:vk (zT zi O) slices_IndexFunc.id [.slice a l.length l.length,.func (Fn.func g) #[] #[c]] S=some (.int .i64 (-1),S)∨∃ S1,vk (zT zi O) slices_IndexFunc.id [.slice a l.length l.length,.func (Fn.func g) #[] #[c]] S=some (.int .i64 (-1),S1)∧Ext S S1:=by
   rcases hA with ⟨rfl,rfl,rfl⟩ | ⟨r,anc,rest,rfl,rfl,hg,hx⟩
   ·
    obtain ⟨S1,q1,q2,q3⟩:=slices_IndexFunc.vC (l:=[]) (p:=p) (g:=g) (c:=c) (K:=K) (k:=0) Okl.none (by decide) (by simp) (fun S x h hx=>by cases hx) hKE hS
    exact .inr ⟨S1,ad8 q1 (by rfl),q2⟩
   ·
    left
    have hf:=Jp (f:=fT) (e:=2) (q:=r) (l:=l) (rest:=rest) (anc:=anc) (S:=S) qU hg
    obtain ⟨S1,q1,q2,q3⟩:=slices_IndexFunc.vC (k:=1) Okl.read (by decide) hlen hp hKE (hK S (S.set r .dead) hS ((Fr.refl _ _).set (.inl (by simp)) _))
    rw [Ze hany] at q1
    exact ZO (Jr hf (by rfl)) q1 (by rfl) rfl q3
  have fin:∀ S1,vk (zT zi O) slices_IndexFunc.id [.slice a l.length l.length,.func (Fn.func g) #[] #[c]] S=some (.int .i64 (-1),S1)→Ext S S1→∃ a' S1 fp',zT zi O slices_DeleteFunc.id [.slice a l.length l.length,.func (Fn.func g) #[] #[c]] S=some (.slice a' (l.filter fun x=>!p x).length (l.filter fun x=>!p x).length,S1) ∧
   qW fT 2 S1 a' (l.filter fun x=>!p x) fp'∧(∀ x ∈ fp',x ∈ fp)∧Fr fp S S1:=fun S1 c1 x1=>by
   have c1:vk (zT zi O) 25 [.slice a l.length l.length,.func (Fn.func g) #[] #[c]] S=some (.int .i64 (-1),S1):=c1
   conv at hr =>
    rhs
    rw [hTe]
    simp only [slices_DeleteFunc.code,slices_DeleteFunc.rs,zSs,reduceIte,zk,zn,zo,zq,yw,c1]
   rw [hTe] at hr
   rw [filter_none hany]
   exact ⟨a,S1,fp,slices_DeleteFunc.runs hr (.inr rfl),hA.ext x1,fun x hx=>hx,Fr.ext x1⟩
  rcases c1 with c1 | ⟨S1,c1,x1⟩
  ·
   exact fin S c1 (Ext.refl _)
  ·
   exact fin S1 c1 x1
 | true =>
  obtain ⟨pre,x,suf,hl,hpre,hpx,hidx⟩:=Qi (i:=0) hany
  have hA1:=hA
  rcases hA1 with ⟨_,h,_⟩ | ⟨r,anc,rest,rfl,rfl,hg,hx⟩
  ·
   rw [h] at hany;cases hany
  have hf:=Jp (f:=fT) (e:=2) (q:=r) (l:=l) (rest:=rest) (anc:=anc) (S:=S) qU hg
  obtain ⟨S1,q1,q2,q3⟩:=slices_IndexFunc.vC (k:=1) Okl.read (by decide) hlen hp hKE (hK S (S.set r .dead) hS ((Fr.refl _ _).set (.inl (by simp)) _))
  rw [hidx,Int.zero_add] at q1
  have c1:vk (zT zi O) 25 [.slice (some ⟨r,0,none⟩) l.length l.length,.func (Fn.func g) #[] #[c]] S=some (.int .i64 pre.length,S):=ZO (Jr hf (by rfl)) q1 (by rfl) rfl q3
  have hll:l.length=pre.length+1+suf.length:=by rw [hl];simp;omega
  have d1:((pre.length:Int)=-1)=False:=eq_false (by omega)
  have wi:IntKind.i64.wrap ((pre.length:Int)+1)=((pre++[x]).length:Int):=by rw [wrap_i64 (by omega) (by omega)];simp
  conv at hr =>
   rhs
   rw [hTe]
   simp only [slices_DeleteFunc.code,slices_DeleteFunc.rs,zSs,reduceIte,zk,zn,zo,zq,yw,c1,d1,wi]
  generalize hL:yc (zG zi O true slices_DeleteFunc.je) _ _=rr at hr
  obtain ⟨T',S',mid',fp',rfl,w2,w3,w4,w5,w6,w7,w8,w9⟩:=slices_DeleteFunc.round (l:=l) (p:=p) (g:=g) (c:=c) (K:=K) (r:=r) (n:=l.length) (fp0:=r::anc) (S0:=S) hlen hp hc hK suf pre [x] (fp:=r::anc) hL rfl hS (Fr.refl _ _) (fun y hy=>by rw [hl];simp [hy]) rfl rfl rfl rfl (by rw [hl];simp) (by simp) (by rw [List.append_assoc,List.singleton_append,← hl];exact hA) (fun y hy=>hy)
  have hfil:l.filter (fun x=>!p x)=pre++suf.filter fun x=>!p x:=by
   rw [hl,List.filter_append,filter_none hpre,List.filter_cons_of_neg (by simp [hpx])]
  rw [← hfil] at w4 w5 w7
  generalize hkp:(l.filter fun x=>!p x)=kept at *
  rcases w7 with ⟨h,_⟩ | ⟨r',anc2,rest2,ha2,hfa2,hg2,hx2⟩
  ·
   cases h
  simp only [Option.some.injEq,Addr.mk.injEq,and_true] at ha2
  subst ha2
  have hkn:kept.length+mid'.length=l.length:=by rw [w5];simp
  have sl:∀ S3,S3.get r=S'.get r→wW zi false 23 (.slice (some ⟨r,0,none⟩) l.length l.length) (some (.int .i64 kept.length)) none S3=some (.slice (some ⟨r,0+kept.length * 2,none⟩) mid'.length mid'.length,S3):=fun S3 h3=>by
   rw [JC (P:=zi) (t:=23) (o:=0) (n:=l.length) (c:=l.length) (l:=kept.length) (h:=l.length) rfl (h3.trans hg2) jm jw rfl rfl (by omega) (by omega) (by omega)]
   simp only [Int.toNat_natCast]
   rw [show l.length - kept.length=mid'.length by omega]
  obtain ⟨S4,rest4,e1,e2,e3,e4,e5⟩:=qW.clear (P:=zi) (t:=23) (te:=30) (S:=S') jm jw Xj rfl rfl rfl (by decide) qU (pre:=kept) (suf:=mid') hg2 w6 (by rw [← hfa2];exact hx2) mid'.length
  have sl2:wW zi false 23 (.slice (some ⟨r,0,none⟩) l.length l.length) none (some (.int .i64 kept.length)) S4=some (.slice (some ⟨r,0,none⟩) kept.length kept.length,S4):=by
   rw [JC (P:=zi) (t:=23) (o:=0) (n:=l.length) (c:=l.length) (l:=0) (h:=kept.length) rfl e2 jm jw rfl rfl (by omega) (by omega) (by omega)]
   simp
  have hTe':=slices_DeleteFunc.eta w2
  rw [w3,w4] at hTe'
  have sl1:=sl S' rfl
  conv at hr =>
   rhs
   simp only [zSs,reduceIte,zk,zn,zo,zq]
   rw [hTe']
   simp only [slices_DeleteFunc.code,slices_DeleteFunc.rs,zSs,reduceIte,zk,zn,zo,zq,sl1,e1,sl2]
  rw [hTe] at hr
  refine ⟨some ⟨r,0,none⟩,S4,[r],slices_DeleteFunc.runs hr (.inr rfl),.inr ⟨r,[],rest4,rfl,rfl,e2,fun y hy=>by rw [List.mem_singleton.1 hy];exact ⟨by rw [e3];exact (hx2 r (by rw [hfa2];simp)).1,e5⟩⟩,fun y hy=>by rw [List.mem_singleton.1 hy];simp,w9.trans e4 fun y hy=>.inl (w8 y (by rw [hfa2];exact hy))⟩
end
end Go.Proofs.Ytacbgjhmkhjpoaa
namespace Go.Abs
variable {P:Program} {t:TypeId} {xs ys:Array Value} {d:Nat}
theorem ZU (P:Program):jT P program=some P:=rfl
def FEq (P:Program) (d:Nat) (xs ys:Array Value):List Field→List Bool→Prop
 | [],[]=>True
 | f::fs,b::bs=>(f.name≠ "_"∧∃ v w,jT P (part f.type xs f.offset)=some v∧jT P (part f.type ys f.offset)=some w∧jT P (Op.equalIn d f.type v w)=some b)∧FEq P d xs ys fs bs
 | _,_=>False
theorem aax {fs:List Field} (hu:P.underlying t=some (.struct fs.toArray)) (hs:P.stoodInHeld t=false) {bs:List Bool} (h:FEq P d xs ys fs bs):jT P (Op.equalIn (d+1) t (.agg xs) (.agg ys))=some (bs.all id):=by
 rw [Op.equalIn]
 simp only [wE,Zy hu,Option.bind_some,ZU,hs,Bool.false_eq_true,if_false,List.forIn_toArray]
 clear hu hs
 induction fs generalizing bs with
 | nil =>
  cases bs with
  | nil=>rfl
  | cons b bs=>exact absurd h id
 | cons f fs ih =>
  cases bs with
  | nil=>exact absurd h id
  | cons b bs =>
   obtain ⟨⟨h1,v,w,h2,h3,h4⟩,h5⟩:=h
   rw [List.forIn_cons]
   simp only [wE,if_pos h1,h2,h3,h4,Option.bind_some]
   cases b with
   | true =>
    simp only [Bool.not_true,Bool.false_eq_true,if_false,jr,Option.bind_some,List.all_cons,id,Bool.true_and]
    exact ih h5
   | false =>
    simp only [Bool.not_false,if_true,jr,Option.bind_some,List.all_cons,id,Bool.false_and]
theorem XV {fs:List Field} {S:zx} (hu:P.underlying t=some (.struct fs.toArray)) (hs:P.stoodInHeld t=false) (hg:P.eqGuardType P.depth t=false) {bs:List Bool} (h:FEq P 9999 xs ys fs bs)
  (gx:ground (.agg xs)=true) (gy:ground (.agg ys)=true):wV P .eql t (.agg xs) (.agg ys) S=some (.bool (bs.all id),S)∧wV P .neq t (.agg xs) (.agg ys) S=some (.bool (!bs.all id),S):=by
 rw [Xh,Xh]
 have e:jT P (Op.equal t (.agg xs) (.agg ys))=some (bs.all id):=aax hu hs h
 have g:jT P (eqGuard .eql t (.tmp 0) (.tmp 0) (.agg xs) (.agg ys))=some ():=by
  unfold eqGuard
  simp only [Bool.not_true,Bool.false_eq_true,if_false,wE,ZU,Option.bind_some,hg,Bool.not_false,if_true]
  rfl
 have g':jT P (eqGuard .neq t (.tmp 0) (.tmp 0) (.agg xs) (.agg ys))=some ():=by
  unfold eqGuard
  simp only [Bool.not_true,Bool.false_eq_true,if_false,wE,ZU,Option.bind_some,hg,Bool.not_false,if_true]
  rfl
 have ha:[Value.agg xs,.agg ys].all ground=true:=by simp [gx,gy]
 constructor
 ·
  unfold vI yQ
  simp only [hu]
  show jK P [Value.agg xs,.agg ys] _ S=_
  refine jv ha ?_ rfl
  simp only [wE,g,Option.bind_some]
  unfold binOp
  simp only [wE,e,Option.bind_some,jr]
 ·
  unfold vI yQ
  simp only [hu]
  show jK P [Value.agg xs,.agg ys] _ S=_
  refine jv ha ?_ rfl
  simp only [wE,g',Option.bind_some]
  unfold binOp
  simp only [wE,e,Option.bind_some,jr]
end Go.Abs
namespace Go.Proofs.Ytacbgjhmkhjpoaa
open Go.Abs
abbrev tl (k:Nat) (l:List TxV):Value:=vs fT 2 k l
theorem xP {k:Nat} {l:List TxV} {S:zx} (h:Okl k l):xI zi 23 (tl k l) S=some (.int .i64 l.length,S):=Xe jm h
theorem XD {k:Nat} {l pre suf:List TxV} {t:TxV} {S:zx} (h:Okl k l) (hl:l=pre++t::suf):zZ zi 23 (tl k l) (.int .i64 pre.length) S=some (EP [.int .i64 t.id,.int .i64 t.fee],S):=by
 have h1:(pre.length:Int) < (l.length:Int):=by rw [hl];simp;omega
 rw [ab8 jm jw qU h (by omega) h1,aaI hl];rfl
theorem acz {k:Nat} {l:List TxV} {S:zx} {lo hi:Option Value} {i j:Int} (h:Okl k l) (hlo:ql 0 lo=some i) (hhi:ql l.length hi=some j) (h0:0≤i) (hij:i≤j) (hj:j≤l.length):kX zi 23 (tl k l) lo hi S=some (tl (if k=2 then 1 else k) ((l.drop i.toNat).take (j.toNat - i.toNat)),S):=acf jm jw qU h hlo hhi h0 hij hj
theorem ZQ {k:Nat} {l:List TxV} {t:TxV} {S:zx} (h:Okl k l) (hk:k≠1) (hl:l.length≤8796093022000):yE zi 23 23 (tl k l) (tl 2 [t]) S=some (tl 2 (l++[t]),S):=by
 rw [Y6 jm jw Xj rfl aco (by omega) jm qU KY h hk Okl.own (by simp;omega) (by simp;omega),if_neg (fun h=>by have:=h.2;simp at this)]
theorem adR (S:zx):qJ zi 30 S=some (.pointer (some ⟨S.next,0,none⟩),S.push (.cells (fT ⟨0,0⟩) (.own []) 0)):=by kernel_rfl
theorem adA (S:zx) (t:TxV):∃ S2,qE zi 30 (.pointer (some ⟨S.next,0,none⟩)) (tv t) (S.push (.cells (fT ⟨0,0⟩) (.own []) 0))=some (zh,S2)∧S2.get S.next=some (.cells (fT t) (.own []) 0)∧Ext S S2∧S.next < S2.next :=
 JI S (by rw [xA,List.toList_toArray];rfl) jw rfl rfl
theorem ZV {S:zx} {q:Nat} {t:TxV} (h:S.get q=some (.cells (fT t) (.own []) 0)):jf zi false 30 (.pointer (some ⟨q,0,none⟩)) S=some (tv t,S):=JV h
theorem kN {S:zx} {q:Nat} {t:TxV} (h:S.get q=some (.cells (fT t) (.own []) 0)):jf zi false 3 (.pointer (some ⟨q,0+0,none⟩)) S=some (.int .i64 t.id,S):=wY (t:=3) (o:=0+0) h vN rfl
theorem TxV.ext_iff' {t u:TxV}:t=u ↔ t.id=u.id∧t.fee=u.fee:=by cases t;cases u;simp
theorem afn (t u:TxV) (S:zx):wV zi .eql 30 (tv t) (tv u) S=some (.bool (decide (t=u)),S)∧wV zi .neq 30 (tv t) (tv u) S=some (.bool (!decide (t=u)),S):=by
 have h:=XV (S:=S) (xs:=#[Value.int .i64 t.id,.int .i64 t.fee]) (ys:=#[Value.int .i64 u.id,.int .i64 u.fee]) (bs:=[t.id == u.id,t.fee == u.fee]) acv (by kernel_rfl) (by kernel_rfl)
  ⟨⟨by decide,.int .i64 t.id,.int .i64 u.id,by kernel_rfl,by kernel_rfl,by kernel_rfl⟩,⟨by decide,.int .i64 t.fee,.int .i64 u.fee,by kernel_rfl,by kernel_rfl,by kernel_rfl⟩,trivial⟩ rfl rfl
 have e:[t.id == u.id,t.fee == u.fee].all id=decide (t=u):=by
  rw [Bool.eq_iff_iff]
  simp [TxV.ext_iff']
 rw [e] at h
 exact h
theorem zB.round {k j:Nat} {a b:List TxV} (hk:Okl k a) (hj:Okl j b) (k2:k≠2) (j2:j≠2) (hab:a.length=b.length) (hlen:a.length≤17592186044416) {S:zx}:∀ (sa sb pa pb:List TxV) {T:List Value} {r:St},yc (zG zi O false zB.je) T S=r→T.length=26 →
  T.getD 0 zh=tl k a→T.getD 1 zh=tl j b→T.getD 12 zh=.int .i64 a.length→T.getD 13 zh=.int .i64 pa.length→a=pa++sa→b=pb++sb→pa.length=pb.length→pa=pb →
  ∃ e T',r=some (e,T',S)∧if a=b then e=.exit 0∧T'.length=26 else e=.ret∧T'.getD 4 zh=.bool false:=by
 intro sa
 induction sa with
 | nil =>
  intro sb pa pb T r hL hT h0 h1 h12 h13 ha hb hp hpp
  have hTe:=zB.eta hT
  rw [h0,h1,h12,h13] at hTe
  have hr:zG zi O false zB.je T S=zG zi O false zB.je T S:=rfl
  have hd:¬ (pa.length:Int) < (a.length:Int):=by rw [ha];simp
  conv at hr =>
   rhs
   rw [hTe]
   simp only [zB.je,zB.code,zB.rs,zSs,reduceIte,zk,zn,zo,zq,hd]
  have hsb:sb=[]:=by rw [ha,hb] at hab;simp [hp] at hab;exact hab
  refine ⟨_,_,hL.symm.trans (jF hr (by simp)),?_⟩
  rw [if_pos (by rw [ha,hb,hsb,hpp])]
  exact ⟨rfl,rfl⟩
 | cons x sa ih =>
  intro sb pa pb T r hL hT h0 h1 h12 h13 ha hb hp hpp
  have hTe:=zB.eta hT
  rw [h0,h1,h12,h13] at hTe
  have hr:zG zi O false zB.je T S=zG zi O false zB.je T S:=rfl
  have hd:(pa.length:Int) < (a.length:Int):=by rw [ha];simp;omega
  cases sb with
  | nil=>rw [ha,hb] at hab;simp [hp] at hab
  | cons y sb =>
   have e1:=fun S=>XD (S:=S) hk ha
   have e2:∀ S,zZ zi 23 (tl j b) (.int .i64 pa.length) S=some (EP [.int .i64 y.id,.int .i64 y.fee],S):=fun S=>by rw [hp];exact XD hj hb
   have wi:IntKind.i64.wrap ((pa.length:Int)+1)=((pa++[x]).length:Int):=by rw [wrap_i64 (by omega) (by omega)];simp
   have q:∀ S,wV zi .neq 30 (.agg [Value.int .i64 x.id,.int .i64 x.fee].toArray) (.agg [Value.int .i64 y.id,.int .i64 y.fee].toArray) S=some (.bool (!decide (x=y)),S):=fun S=>(afn x y S).2
   by_cases hxy:x=y
   ·
    conv at hr =>
     rhs
     rw [hTe]
     simp only [zB.je,zB.code,zB.rs,zSs,reduceIte,zk,zn,zo,zq,hd,if_neg k2,if_neg j2,e1,e2,qQ,q,decide_eq_true hxy,wi]
    subst hxy
    exact ih sb (pa++[x]) (pb++[x]) ((jy hr).symm.trans hL) rfl rfl rfl rfl rfl (by simp [ha]) (by simp [hb]) (by simp [hp]) (by rw [hpp])
   ·
    conv at hr =>
     rhs
     rw [hTe]
     simp only [zB.je,zB.code,zB.rs,zSs,reduceIte,zk,zn,zo,zq,hd,if_neg k2,if_neg j2,e1,e2,qQ,q,decide_eq_false hxy]
    refine ⟨_,_,hL.symm.trans (jF hr (by simp)),?_⟩
    rw [if_neg (by rw [ha,hb,hpp];simp [hxy])]
    exact ⟨rfl,rfl⟩
theorem zB.v {k j:Nat} {a b:List TxV} (hk:Okl k a) (hj:Okl j b) (k2:k≠2) (j2:j≠2) (hlen:a.length≤17592186044416) (S:zx):zT zi O zB.id [tl k a,tl j b] S=some (.bool (decide (a=b)),S):=by
 obtain ⟨T,hTe⟩:∃ T,T=(tl k a::tl j b::zh::zh::zh::zh::zh::zh::zh::zh::zh::zh::zh::zh::zh::zh::zh::zh::zh::zh::zh::zh::zh::zh::zh::zh::[]):=⟨_,rfl⟩
 have hr:zG zi O false zB.code T S=zG zi O false zB.code T S:=rfl
 by_cases hab:a.length=b.length
 ·
  have d1:¬ (a.length:Int)≠(b.length:Int):=by omega
  conv at hr =>
   rhs
   rw [hTe]
   simp only [zB.code,zB.rs,zSs,reduceIte,zk,zn,zo,zq,if_neg k2,if_neg j2,xP hk,xP hj,hab]
  rw [← hab] at hr
  generalize hL:yc (zG zi O false zB.je) _ _=r at hr
  obtain ⟨e,T',rfl,g⟩:=zB.round hk hj k2 j2 hab hlen a b [] [] hL rfl rfl rfl rfl rfl rfl rfl rfl rfl
  by_cases h:a=b
  ·
   rw [if_pos h] at g
   obtain ⟨rfl,g2⟩:=g
   have hTe':=zB.eta g2
   conv at hr =>
    rhs
    rw [hTe']
    simp only [zB.code,zB.rs,zSs,reduceIte,zk,zn,zo,zq]
   rw [hTe] at hr
   rw [decide_eq_true h]
   exact zB.runs hr (.inr rfl)
  ·
   rw [if_neg h] at g
   obtain ⟨rfl,g2⟩:=g
   conv at hr =>
    rhs
    simp only [zSs,reduceIte,zk,zn,zo,zq]
   rw [hTe] at hr
   have hrun:=zB.runs hr (.inr rfl)
   rw [g2] at hrun
   rw [decide_eq_false h]
   exact hrun
 ·
  have d1:¬ (a.length:Int)=(b.length:Int):=by omega
  conv at hr =>
   rhs
   rw [hTe]
   simp only [zB.code,zB.rs,zSs,reduceIte,zk,zn,zo,zq,if_neg k2,if_neg j2,xP hk,xP hj,d1]
  rw [hTe] at hr
  rw [decide_eq_false (fun h:a=b=>hab (by rw [h]))]
  exact zB.runs hr (.inr rfl)
theorem adi (t:TxV) (S:zx):∃ S2,ZC (tv t) S=some (.pointer (some ⟨S.next,0,none⟩),S2)∧S2.get S.next=some (.cells (fT t) (.own []) 0)∧Ext S S2∧S.next < S2.next:=aac (tv t) S
theorem tl0 (S:zx):jd zi 23 0 [] S=some (tl 2 [],S):=by rw [Zg];rfl
end Go.Proofs.Ytacbgjhmkhjpoaa
namespace Go.Proofs.Ytacbgjhmkhjpoaa
open Go.Abs
structure Pm (S:zx) (q:Nat) (l:List TxV) (fp:List Nat):Prop where
 lt:q < S.next
 len:l.length≤16
 cell:∃ a,S.get q=some (.cells [.slice a l.length l.length] (.own []) 0)∧qW fT 2 S a l fp
section
variable {S:zx} {q:Nat} {l:List TxV} {fp:List Nat}
theorem Pm.Vp (h:Pm S q l fp):q ∉ fp:=by
 obtain ⟨a,h1,h2⟩:=h.cell
 exact h2.Vp h1
theorem Pm.flt (h:Pm S q l fp):∀ x ∈ fp,x < S.next:=by
 obtain ⟨a,h1,h2⟩:=h.cell
 exact h2.lt
theorem Pm.ext {S1:zx} (h:Pm S q l fp) (k:Ext S S1):Pm S1 q l fp:=by
 obtain ⟨a,h1,h2⟩:=h.cell
 exact ⟨Nat.lt_of_lt_of_le h.lt k.next,h.len,a,by rw [k.get q h.lt];exact h1,h2.ext k⟩
def Jo (q:Nat) (S S1:zx):Prop:=S.next≤S1.next∧∀ p cs own,p≠q→p < S.next→S.get p=some (.cells cs own 0)→S1.get p=S.get p
theorem Jo.refl (q:Nat) (S:zx):Jo q S S:=⟨Nat.le_refl _,fun _ _ _ _ _ _=>rfl⟩
theorem Jo.trans {S1 S2:zx} (h:Jo q S S1) (k:Jo q S1 S2):Jo q S S2:=⟨Nat.le_trans h.1 k.1,fun p cs own hp hl hg=>by
 have h1:=h.2 p cs own hp hl hg
 rw [k.2 p cs own hp (Nat.lt_of_lt_of_le hl h.1) (h1.trans hg),h1]⟩
theorem Jo.ext {S1:zx} (h:Ext S S1):Jo q S S1:=⟨h.next,fun p _ _ _ hl _=>h.get p hl⟩
theorem Pm.stay {S1:zx} (h:Pm S q l fp) (k:Fr (q::fp) S S1):Jo q S S1:=⟨k.1,fun p cs own hp hl hg=>k.2 p hl (by
 obtain ⟨a,h1,h2⟩:=h.cell
 simp only [List.mem_cons,not_or]
 exact ⟨hp,h2.Vp hg⟩)⟩
theorem jo.v (S:zx):∃ S1,zT zi O jo.id [] S=some (.pointer (some ⟨S.next,0,none⟩),S1)∧Pm S1 S.next [] []∧Ext S S1:=by
 obtain ⟨T,hTe⟩:∃ T,T=(zh::zh::zh::[]):=⟨_,rfl⟩
 have hr:zG zi O false jo.code T S=zG zi O false jo.code T S:=rfl
 have bd:∀ S,yj zi 49 [] S=some (.agg [.slice none 0 0].toArray,S):=fun S=>by kernel_rfl
 obtain ⟨S1,b1,b2,b3,b4⟩:=aac (.agg [.slice none 0 0].toArray) S
 conv at hr =>
  rhs
  rw [hTe]
  simp only [jo.code,jo.rs,zSs,reduceIte,zk,zn,zo,zq,bd,b1]
 rw [hTe] at hr
 exact ⟨_,jo.runs hr (.inr rfl),⟨b4,by simp,none,b2,.inl ⟨rfl,rfl,rfl⟩⟩,b3⟩
theorem zS.v {c:Nat} {t:TxV} (x:TxV) {S:zx} (hc:S.get c=some (.cells (fT t) (.own []) 0)) (hl:c < S.next):∃ S1,zT zi O zS.id [tv x,.pointer (some ⟨c,0,none⟩)] S=some (.bool (decide (x.id=t.id)),S1)∧Ext S S1∧S1.log=S.log:=by
 obtain ⟨T,hTe⟩:∃ T,T=(tv x::.pointer (some ⟨c,0,none⟩)::zh::zh::zh::zh::zh::zh::zh::[]):=⟨_,rfl⟩
 have hr:zG zi O false zS.code T S=zG zi O false zS.code T S:=rfl
 have b1:ZC (tv x) S=some (.pointer (some ⟨S.next,0,none⟩),S.push (.cells (fT x) (.own []) 0)):=rfl
 have g1:(S.push (.cells (fT x) (.own []) 0)).get S.next=some (.cells (fT x) (.own []) 0):=by rw [zx.zY,if_pos rfl]
 have g2:(S.push (.cells (fT x) (.own []) 0)).get c=some (.cells (fT t) (.own []) 0):=by rw [zx.zY,if_neg (by omega)];exact hc
 refine ⟨S.push (.cells (fT x) (.own []) 0),?_,Ext.push _ _,rfl⟩
 ·
  conv at hr =>
   rhs
   rw [hTe]
   simp only [zS.code,zS.rs,zSs,reduceIte,zk,zn,zo,zq,b1,jI,kN g1,kN g2]
  rw [hTe] at hr
  exact zS.runs hr (.inr rfl)
theorem zO.v {c:Nat} {t:TxV} (x:TxV) {S:zx} (hc:S.get c=some (.cells (fT t) (.own []) 0)) (hl:c < S.next):∃ S1,zT zi O zO.id [tv x,.pointer (some ⟨c,0,none⟩)] S=some (.bool (yM t x),S1)∧Ext S S1∧S1.log=S.log:=by
 obtain ⟨T,hTe⟩:∃ T,T=(tv x::.pointer (some ⟨c,0,none⟩)::zh::zh::zh::zh::zh::[]):=⟨_,rfl⟩
 have hr:zG zi O false zO.code T S=zG zi O false zO.code T S:=rfl
 have b1:ZC (tv x) S=some (.pointer (some ⟨S.next,0,none⟩),S.push (.cells (fT x) (.own []) 0)):=rfl
 have g1:(S.push (.cells (fT x) (.own []) 0)).get S.next=some (.cells (fT x) (.own []) 0):=by rw [zx.zY,if_pos rfl]
 have g2:(S.push (.cells (fT x) (.own []) 0)).get c=some (.cells (fT t) (.own []) 0):=by rw [zx.zY,if_neg (by omega)];exact hc
 have c1:=fun S=>jJ.v t x S
 refine ⟨S.push (.cells (fT x) (.own []) 0),?_,Ext.push _ _,rfl⟩
 ·
  conv at hr =>
   rhs
   rw [hTe]
   simp only [zO.code,zO.rs,zSs,reduceIte,zk,zn,zo,zq,b1,ZV g1,ZV g2,c1]
  rw [hTe] at hr
  exact zO.runs hr (.inr rfl)
theorem Xx {α:Type} {p:α→Bool}:∀ (l:List α) (i:Int),idxFrom p i l=if l.any p then i+(l.findIdx p:Int) else -1:=by
 intro l
 induction l with
 | nil=>intro i;rfl
 | cons x l ih =>
  intro i
  rw [idxFrom,List.any_cons,List.findIdx_cons]
  cases hx:p x with
  | true=>simp
  | false =>
   rw [if_neg (by decide),ih,Bool.false_or]
   by_cases h:l.any p=true
   ·
    rw [if_pos h,if_pos h];simp;omega
   ·
    rw [if_neg h,if_neg h]
theorem abP {α:Type} {p:α→Bool} {l:List α} (h:l.any p=false):l.findIdx p=l.length:=by
 rw [List.findIdx_eq_length]
 intro x hx
 rw [List.any_eq_false] at h
 simpa using h x hx
section
variable {p:TxV→Bool} {g:FuncId} {c:Value} {K:zx→Prop}
theorem slices_ContainsFunc.vC {k:Nat} (hv:Okl k l) (hk:k≠2) (hlen:l.length≤17592186044416) (hp:∀ S x,K S→x ∈ l→∃ S1,zT zi O g [tv x,c] S=some (.bool (p x),S1)∧Ext S S1∧S1.log=S.log) (hK:∀ S S1,K S→Ext S S1→K S1) {S:zx} (hS:K S) :
  ∃ S1,zT zi O slices_ContainsFunc.id [vs fT 2 k l,.func (Fn.func g) #[] #[c]] S=some (.bool (l.any p),S1)∧Ext S S1∧S1.log=S.log:=by
 obtain ⟨T,hTe⟩:∃ T,T=(vs fT 2 k l::.func (Fn.func g) #[] #[c]::zh::zh::zh::zh::zh::zh::zh::[]):=⟨_,rfl⟩
 have hr:zG zi O false slices_ContainsFunc.code T S=zG zi O false slices_ContainsFunc.code T S:=rfl
 obtain ⟨S1,c1,x1,g1⟩:=slices_IndexFunc.vC hv hk hlen hp hK hS
 rw [Xx] at c1
 cases h:l.any p with
 | true =>
  rw [h,if_pos rfl] at c1
  have d1:(0:Int)≤0+(l.findIdx p:Int):=by omega
  refine ⟨S1,?_,x1,g1⟩
  ·
   conv at hr =>
    rhs
    rw [hTe]
    simp only [slices_ContainsFunc.code,slices_ContainsFunc.rs,zSs,reduceIte,zk,zn,zo,zq,yw,if_neg hk,c1,decide_eq_true d1]
   rw [hTe] at hr
   exact slices_ContainsFunc.runs hr (.inr rfl)
 | false =>
  rw [h,if_neg (by decide)] at c1
  have d1:¬ (0:Int)≤-1:=by decide
  refine ⟨S1,?_,x1,g1⟩
  ·
   conv at hr =>
    rhs
    rw [hTe]
    simp only [slices_ContainsFunc.code,slices_ContainsFunc.rs,zSs,reduceIte,zk,zn,zo,zq,yw,if_neg hk,c1,decide_eq_false d1]
   rw [hTe] at hr
   exact slices_ContainsFunc.runs hr (.inr rfl)
theorem ae7 {X:FuncId} {v:Value} (hv:ground v=true) (hX:∀ {k:Nat} {S:zx},Okl k l→k≠2→K S→∃ S1,zT zi O X [vs fT 2 k l,.func (Fn.func g) #[] #[c]] S=some (v,S1)∧Ext S S1∧S1.log=S.log) (hK:∀ S S1,K S→Fr fp S S1→K S1)
  {a:Option Addr} (hA:qW fT 2 S a l fp) (hS:K S):∃ S1,vk (zT zi O) X [.slice a l.length l.length,.func (Fn.func g) #[] #[c]] S=some (v,S1)∧Ext S S1:=by
 rcases hA with ⟨rfl,rfl,rfl⟩ | ⟨r,anc,rest,rfl,rfl,hg,hx⟩
 ·
  obtain ⟨S1,q1,q2,q3⟩:=hX (k:=0) Okl.none (by decide) hS
  exact ⟨S1,ad8 q1 (by rfl),q2⟩
 ·
  have hf:=Jp (f:=fT) (e:=2) (q:=r) (l:=l) (rest:=rest) (anc:=anc) (S:=S) qU hg
  obtain ⟨S1,q1,q2,q3⟩:=hX (k:=1) Okl.read (by decide) (hK S (S.set r .dead) hS ((Fr.refl _ _).set (.inl (by simp)) _))
  exact ⟨S,ZO (Jr hf (by rfl)) q1 (by rfl) hv q3,Ext.refl _⟩
end
theorem qW.insert {a:Option Addr} {x:TxV} {i v:Nat} (hA:qW fT 2 S a l fp) (hv:S.get v=some (.cells (fT x) (.own []) 2)) (hn:v ∉ fp) (hi:i≤l.length) (hl:l.length≤16) :
  ∃ S1,QL [.slice a l.length l.length,.int .i64 i,.slice (some ⟨v,0,none⟩) 1 1] S=some (.slice (some ⟨S.next,0,none⟩) (l.length+1) (l.length+1),S1)∧qW fT 2 S1 (some ⟨S.next,0,none⟩) (l.take i++x::l.drop i) [S.next]∧Fr fp S S1∧S1.next=S.next+1:=by
 have src:(((fT x).drop 0).take (1 * 2))=fT x:=rfl
 have cond:∀ n:Nat,n≤16→i≤n→(0 < 1∧0+1 * 2≤(fT x).length∧(0:Int)≤i∧(i:Int).toNat≤n∧n+1≤1048576∧(((fT x).drop 0).take (1 * 2)).all (·.oneCell')=true):=fun n hn hin=>⟨by decide,show 2≤2 from Nat.le_refl 2,by omega,by omega,by omega,rfl⟩
 rcases hA with ⟨rfl,rfl,rfl⟩ | ⟨r,anc,rest,rfl,rfl,hg,hx⟩
 ·
  have hi0:i=0:=by simpa using hi
  subst hi0
  refine ⟨S.push (.cells (fT x) (.own []) 2),?_,.inr ⟨S.next,[],[],rfl,rfl,by rw [zx.zY,if_pos rfl];rfl,fun y hy=>?_⟩,(Fr.refl _ _).push _,by simp⟩
  ·
   simp only [QL,hv]
   rw [if_pos (cond ([]:List TxV).length (by simp) (by simp))]
   rfl
  ·
   simp only [List.mem_singleton] at hy
   subst hy
   refine ⟨by simp,fun cs own=>?_⟩
   rw [zx.zY,if_pos rfl]
   intro hx;simp at hx
 ·
  have hne:r≠v:=fun e=>hn (by simp [e])
  have hlen:(l.flatMap fT).length=l.length * 2:=jM qU l
  have hX:((l.flatMap fT++rest).drop 0).take (l.length * 2)=l.flatMap fT:=by rw [List.drop_zero,← hlen,List.take_left]
  have hone:(l.flatMap fT).all (·.oneCell')=true:=by
   rw [List.all_flatMap,List.all_eq_true]
   exact fun x _=>KY x
  have hall:(l.flatMap fT).take (i * 2)++(fT x++(l.flatMap fT).drop (i * 2))=(l.take i++x::l.drop i).flatMap fT:=by
   rw [xH qU,xG qU,List.flatMap_append,List.flatMap_cons]
  refine ⟨((S.kills anc).set r .dead).push (.cells ((l.take i++x::l.drop i).flatMap fT) (.own []) 2),?_,.inr ⟨S.next,[],[],rfl,rfl,by rw [zx.zY,zx.kU,zx.qL,if_pos rfl,List.append_nil],fun y hy=>?_⟩,(((Fr.refl _ _).kills (fun y hy=>.inl (by simp [hy]))).set (.inl (by simp)) _).push _,by simp⟩
  ·
   simp only [QL,hv]
   rw [if_pos (cond l.length hl hi)]
   simp only [hg]
   rw [if_pos ⟨hne,by rw [List.length_append,hlen];omega,by rw [hX];exact hone⟩,hX,Int.toNat_natCast,src,hall]
  ·
   simp only [List.mem_singleton] at hy
   subst hy
   refine ⟨by simp,fun cs own=>?_⟩
   rw [zx.zY,zx.kU,zx.qL,if_pos rfl]
   intro hx;simp at hx
end
end Go.Proofs.Ytacbgjhmkhjpoaa
namespace Go.Proofs.Ytacbgjhmkhjpoaa
open Go.Abs
section
variable {S:zx} {q:Nat} {l:List TxV} {fp:List Nat}
def qo (l:List TxV) (t:TxV):Nat:=l.findIdx (yM t)
def QM (l:List TxV) (t:TxV):Bool:=l.any fun x=>decide (x.id=t.id)
def adb (l:List TxV) (t:TxV):List TxV:=(l.take (qo l t)++t::l.drop (qo l t)).take 16
def kH (l:List TxV) (t:TxV):Int×List TxV:=if Zp t then if QM l t then (91,l) else if qo l t=16 then (91,l) else (0,adb l t) else (61,l)
theorem KD (l:List TxV) (t:TxV):qo l t≤l.length:=List.findIdx_le_length
theorem Xo (h:l.length≤16) (t:TxV):(adb l t).length=min (l.length+1) 16:=by
 have:=KD l t
 simp only [adb,List.length_take,List.length_append,List.length_cons,List.length_drop]
 omega
theorem zC.v (h:Pm S q l fp) (t:TxV):∃ S1 fp',zT zi O zC.id [.pointer (some ⟨q,0,none⟩),tv t] S=some (.int .i64 (kH l t).1,S1)∧Pm S1 q (kH l t).2 fp'∧(∀ x ∈ fp',x ∈ fp∨S.next≤x)∧Fr (q::fp) S S1:=by
 obtain ⟨T,hTe⟩:∃ T,T=(.pointer (some ⟨q,0,none⟩)::tv t::zh::zh::zh::zh::zh::zh::zh::zh::zh::zh::zh::zh::zh::zh::zh::zh::zh::zh::zh::zh::zh::zh::zh::zh::zh::zh::zh::zh::zh::zh::zh::zh::zh::zh::zh::zh::zh::zh::zh::zh::zh::zh::zh::zh::zh::zh::zh::zh::zh::zh::zh::zh::zh::[]):=⟨_,rfl⟩
 have hr:zG zi O true zC.code T S=zG zi O true zC.code T S:=rfl
 obtain ⟨S0,b1,b2,b3,b4⟩:=adi t S
 have h0:=h.ext b3
 have c1:vk (zT zi O) 22 [tv t] S0=some (.bool (Zp t),S0):=ad8 (jQ.v t S0) (by rfl)
 have ld:=ZV b2
 cases hR:Zp t with
 | false =>
  rw [hR] at c1
  refine ⟨S0,fp,?_,by unfold kH;rw [hR];exact h0,fun x hx=>.inl hx,Fr.ext b3⟩
  unfold kH
  rw [hR]
  conv at hr =>
   rhs
   rw [hTe]
   simp only [zC.code,zC.rs,zSs,reduceIte,zk,zn,zo,zq,b1,ld,c1]
  rw [hTe] at hr
  exact zC.runs hr (.inr rfl)
 | true =>
  rw [hR] at c1
  obtain ⟨a,g0,hA⟩:=h0.cell
  have hcn:S.next ∉ fp:=fun hx=>by have:=h.flt _ hx;omega
  have hqc:q≠S.next:=by have:=h.lt;omega
  have hKF:∀ S1 S2:zx,(S1.get S.next=some (.cells (fT t) (.own []) 0)∧S.next < S1.next)→Fr fp S1 S2→(S2.get S.next=some (.cells (fT t) (.own []) 0)∧S.next < S2.next):=fun S1 S2 hK hF=>⟨by rw [hF.2 _ hK.2 hcn];exact hK.1,Nat.lt_of_lt_of_le hK.2 hF.1⟩
  have hKE:∀ S1 S2:zx,(S1.get S.next=some (.cells (fT t) (.own []) 0)∧S.next < S1.next)→Ext S1 S2→(S2.get S.next=some (.cells (fT t) (.own []) 0)∧S.next < S2.next):=fun S1 S2 hK hF=>hKF S1 S2 hK (Fr.ext hF)
  have hll:l.length≤17592186044416:=by have:=h.len;omega
  obtain ⟨S1,c2,x1⟩:=ae7 (l:=l) (g:=24) (c:=.pointer (some ⟨S.next,0,none⟩)) (K:=fun S1=>S1.get S.next=some (.cells (fT t) (.own []) 0)∧S.next < S1.next) (X:=23) (v:=.bool (QM l t)) (by rfl)
   (fun hv hk hS=>slices_ContainsFunc.vC (p:=fun x=>decide (x.id=t.id)) hv hk hll (fun S1 x hK _=>zS.v x hK.1 hK.2) hKE hS) hKF hA ⟨b2,b4⟩
  have l0:=vX (P:=zi) (t:=23) (o:=0+0) g0 qh rfl
  cases hD:QM l t with
  | true =>
   rw [hD] at c2
   refine ⟨S1,fp,?_,by unfold kH;rw [hR,hD];exact h0.ext x1,fun x hx=>.inl hx,Fr.ext (b3.trans x1)⟩
   unfold kH
   rw [hR,hD]
   conv at hr =>
    rhs
    rw [hTe]
    simp only [zC.code,zC.rs,zSs,reduceIte,zk,zn,zo,zq,b1,ld,c1,wP,jG,l0,c2]
   rw [hTe] at hr
   exact zC.runs hr (.inr rfl)
  | false =>
   rw [hD] at c2
   have g1:S1.get q=some (.cells [.slice a l.length l.length] (.own []) 0):=(x1.get q h0.lt).trans g0
   have l1:=vX (P:=zi) (t:=23) (o:=0+0) g1 qh rfl
   have k1:=hKE _ _ ⟨b2,b4⟩ x1
   obtain ⟨S2,c3,x2⟩:=ae7 (l:=l) (g:=26) (c:=.pointer (some ⟨S.next,0,none⟩)) (K:=fun S1=>S1.get S.next=some (.cells (fT t) (.own []) 0)∧S.next < S1.next) (X:=25) (v:=.int .i64 (idxFrom (yM t) 0 l)) (by rfl)
    (fun hv hk hS=>slices_IndexFunc.vC (p:=yM t) hv hk hll (fun S1 x hK _=>zO.v x hK.1 hK.2) hKE hS) hKF (hA.ext x1) k1
   have k2:=hKE _ _ k1 x2
   have h2:Pm S2 q l fp:=(h0.ext x1).ext x2
   have xx:Ext S S2:=(b3.trans x1).trans x2
   have g2:S2.get q=some (.cells [.slice a l.length l.length] (.own []) 0):=(x2.get q (Nat.lt_of_lt_of_le h0.lt x1.next)).trans g1
   have hA2:=(hA.ext x1).ext x2
   have l2:=vX (P:=zi) (t:=23) (o:=0+0) g2 qh rfl
   have ln:=fun S=>Jq (P:=zi) jm a l.length l.length S
   have hpl:=KD l t
   have hidx:idxFrom (yM t) 0 l=(qo l t:Int)∧¬ idxFrom (yM t) 0 l < 0∨idxFrom (yM t) 0 l=-1∧(l.length:Int)=qo l t:=by
    rw [Xx]
    by_cases ha:l.any (yM t)=true
    ·
     rw [if_pos ha]
     exact .inl ⟨by unfold qo;omega,by omega⟩
    ·
     rw [if_neg ha]
     exact .inr ⟨rfl,by unfold qo;rw [abP (by simpa using ha)]⟩
   by_cases h16:qo l t=16
   ·
    refine ⟨S2,fp,?_,by unfold kH;rw [hR,hD];simp only [Bool.false_eq_true,if_true,if_false,h16];exact h2,fun x hx=>.inl hx,Fr.ext xx⟩
    unfold kH
    rw [hR,hD]
    simp only [Bool.false_eq_true,if_true,if_false,h16]
    have d16:((qo l t:Int)=16)=True:=eq_true (by omega)
    rcases hidx with ⟨e1,e2⟩ | ⟨e1,e2⟩
    ·
     rw [e1] at c3 e2
     conv at hr =>
      rhs
      rw [hTe]
      simp only [zC.code,zC.rs,zSs,reduceIte,zk,zn,zo,zq,b1,ld,c1,wP,jG,l0,c2,l1,c3,decide_eq_false e2,d16,decide_true]
     rw [hTe] at hr
     exact zC.runs hr (.inr rfl)
    ·
     rw [e1] at c3
     have dm:(-1:Int) < 0:=by decide
     conv at hr =>
      rhs
      rw [hTe]
      simp only [zC.code,zC.rs,zSs,reduceIte,zk,zn,zo,zq,b1,ld,c1,wP,jG,l0,c2,l1,c3,decide_eq_true dm,l2,ln,goInt,e2,d16,decide_true]
     rw [hTe] at hr
     exact zC.runs hr (.inr rfl)
   ·
    have d16:¬ (qo l t:Int)=16:=by omega
    have ldt:=ZV k2.1
    obtain ⟨S3,s1,s2,s3⟩:∃ S3,jE zi 23 1 [(0,tv t)] S2=some (.slice (some ⟨S2.next,0,none⟩) 1 1,S3)∧S3.get S2.next=some (.cells (fT t) (.own []) 2)∧S3=S2.push (.cells (fT t) (.own []) 2) :=
     ⟨_,by kernel_rfl,by rw [zx.zY,if_pos rfl],rfl⟩
    have x3:Ext S2 S3:=by rw [s3];exact Ext.push _ _
    obtain ⟨S4,i1,i2,i3,i4⟩:=qW.insert (i:=qo l t) (hA2.ext x3) s2 (fun hx=>by have:=h2.flt _ hx;omega) hpl h.len
    have c4:zT zi O 28 [.slice a l.length l.length,.int .i64 (qo l t),.slice (some ⟨S2.next,0,none⟩) 1 1] S3=some (.slice (some ⟨S3.next,0,none⟩) (l.length+1) (l.length+1),S4):=(abY (q:=QL) rfl S3).trans i1
    have g4:S4.get q=some (.cells [.slice a l.length l.length] (.own []) 0):=by
     rw [i3.2 q (Nat.lt_of_lt_of_le h2.lt x3.next) h2.Vp,x3.get q h2.lt,g2]
    have st1:=xB (P:=zi) (t:=23) (o:=0+0) (x:=.slice (some ⟨S3.next,0,none⟩) (l.length+1) (l.length+1)) g4 ZE rfl rfl (by simp)
    have sq:=Va (o:=0+0) g2 h2.lt x3
    have g5:((S4.kills []).set q (.cells (splice [Value.slice a l.length l.length] (0+0) (Value.slice (some ⟨S3.next,0,none⟩) (l.length+1) (l.length+1)).cells.toList) (.own []) 0)).get q=some (.cells [.slice (some ⟨S3.next,0,none⟩) (l.length+1) (l.length+1)] (.own []) 0):=by rw [zx.jq,if_pos rfl];rfl
    have hq3:q≠S3.next:=by have:=h2.lt;have:=x3.next;omega
    have n5:((S4.kills []).set q (.cells (splice [Value.slice a l.length l.length] (0+0) (Value.slice (some ⟨S3.next,0,none⟩) (l.length+1) (l.length+1)).cells.toList) (.own []) 0)).next=S4.next:=by simp [zx.kills]
    have o5:∀ x,x≠q→((S4.kills []).set q (.cells (splice [Value.slice a l.length l.length] (0+0) (Value.slice (some ⟨S3.next,0,none⟩) (l.length+1) (l.length+1)).cells.toList) (.own []) 0)).get x=S4.get x:=fun x hx=>by rw [zx.jq,if_neg hx];rfl
    generalize (S4.kills []).set q (.cells (splice [Value.slice a l.length l.length] (0+0) (Value.slice (some ⟨S3.next,0,none⟩) (l.length+1) (l.length+1)).cells.toList) (.own []) 0)=S5 at st1 g5 n5 o5
    have i5:qW fT 2 S5 (some ⟨S3.next,0,none⟩) (l.take (qo l t)++t::l.drop (qo l t)) [S3.next]:=i2.keep (by omega) fun x hx=>by
     simp only [List.mem_singleton] at hx
     exact o5 x (by rw [hx];exact fun e=>hq3 e.symm)
    have hLlen:(l.take (qo l t)++t::l.drop (qo l t)).length=l.length+1:=by simp;omega
    have l5:=vX (P:=zi) (t:=23) (o:=0+0) g5 qh rfl
    have ln5:=fun S=>Jq (P:=zi) jm (some ⟨S3.next,0,none⟩) (l.length+1) (l.length+1) S
    obtain ⟨mm,hmm⟩:∃ mm:Nat,mm=min (l.length+1) 16:=⟨_,rfl⟩
    have hmin:(if (16:Int) < ((l.length+1:Nat):Int) then (16:Int) else ((l.length+1:Nat):Int))=(mm:Int):=by split <;> omega
    have sl5:wW zi false 23 (.slice (some ⟨S3.next,0,none⟩) (l.length+1) (l.length+1)) none (some (.int .i64 mm)) S5=some (.slice (some ⟨S3.next,0,none⟩) mm mm,S5):=by
     rcases i5 with ⟨h,_⟩ | ⟨r,anc,rest,ha,hfa,hg,hx⟩
     ·
      cases h
     ·
      simp only [Option.some.injEq,Addr.mk.injEq,and_true] at ha
      subst ha
      rw [JC (P:=zi) (t:=23) (o:=0) (n:=l.length+1) (c:=l.length+1) (l:=0) (h:=mm) rfl hg jm jw rfl rfl (by omega) (by omega) (by omega)]
      simp
    have st2:=xB (P:=zi) (t:=23) (o:=0+0) (x:=.slice (some ⟨S3.next,0,none⟩) mm mm) g5 ZE rfl rfl (by simp)
    generalize hS6:(S5.kills []).set q _=S6 at st2
    have e5:kH l t=(0,adb l t):=by unfold kH;rw [hR,hD];simp [h16]
    rw [e5]
    refine ⟨S6,[S3.next],?_,⟨?_,?_,some ⟨S3.next,0,none⟩,?_,?_⟩,fun x hx=>?_,?_⟩
    ·
     rcases hidx with ⟨e1,e2⟩ | ⟨e1,e2⟩
     ·
      rw [e1] at c3 e2
      conv at hr =>
       rhs
       rw [hTe]
       simp only [zC.code,zC.rs,zSs,reduceIte,zk,zn,zo,zq,b1,ld,c1,wP,jG,l0,c2,l1,c3,decide_eq_false e2,decide_eq_false d16,l2,ldt,s1,c4,st1,sq,l5,ln5,goInt,afx,hmin,sl5,st2]
      rw [hTe] at hr
      exact zC.runs hr (.inr rfl)
     ·
      rw [e1] at c3
      have dm:(-1:Int) < 0:=by decide
      conv at hr =>
       rhs
       rw [hTe]
       simp only [zC.code,zC.rs,zSs,reduceIte,zk,zn,zo,zq,b1,ld,c1,wP,jG,l0,c2,l1,c3,decide_eq_true dm,ln,goInt,e2,decide_eq_false d16,l2,ldt,s1,c4,st1,sq,l5,ln5,afx,hmin,sl5,st2]
      rw [hTe] at hr
      exact zC.runs hr (.inr rfl)
    ·
     have:=h2.lt;have:=x3.next;have:=i4
     subst hS6
     simp [zx.kills];omega
    ·
     rw [Xo h.len];omega
    ·
     subst hS6
     rw [zx.jq,if_pos rfl,Xo h.len,← hmm];rfl
    ·
     subst hS6
     exact (i5.take 16).keep (by simp [zx.kills]) fun x hx=>by
      simp only [List.mem_singleton] at hx
      rw [zx.jq,if_neg (by rw [hx];exact fun e=>hq3 e.symm)];rfl
    ·
     simp only [List.mem_singleton] at hx
     exact .inr (by have:=xx.next;have:=x3.next;omega)
    ·
     have f1:Fr (q::fp) S S3:=Fr.ext (xx.trans x3)
     have f2:Fr (q::fp) S S4:=f1.trans i3 fun x hx=>.inl (by simp [hx])
     have f3:Fr (q::fp) S S5:=⟨by have:=f2.1;omega,fun p hp hn=>by
      rw [o5 p (fun e=>hn (by simp [e]))];exact f2.2 p hp hn⟩
     subst hS6
     exact f3.set (.inl (by simp)) _
end
end Go.Proofs.Ytacbgjhmkhjpoaa
namespace Go.Proofs.Ytacbgjhmkhjpoaa
open Go.Abs
section
variable {S:zx} {q:Nat} {l:List TxV} {fp:List Nat}
theorem slices_Clone.ms {a:Option Addr} (hA:qW fT 2 S a l fp) (hl:l.length≤16):zT zi O slices_Clone.id [.slice a l.length l.length] S=some (tl (if a=none then 0 else 2) l,S):=by
 obtain ⟨T,hTe⟩:∃ T,T=(.slice a l.length l.length::zh::zh::zh::zh::zh::zh::zh::[]):=⟨_,rfl⟩
 have hr:zG zi O false slices_Clone.code T S=zG zi O false slices_Clone.code T S:=rfl
 rcases hA with ⟨rfl,rfl,rfl⟩ | ⟨r,anc,rest,rfl,rfl,hg,hx⟩
 ·
  have e1:∀ S,wV zi .eql 23 (.slice none 0 0) (.slice none 0 0) S=some (.bool true,S):=fun S=>by kernel_rfl
  ·
   conv at hr =>
    rhs
    rw [hTe]
    simp only [slices_Clone.code,slices_Clone.rs,zSs,reduceIte,zk,zn,zo,zq,List.length_nil,e1]
   rw [hTe] at hr
   exact slices_Clone.runs hr (.inr rfl)
 ·
  have e1:∀ S,wV zi .eql 23 (.slice (some ⟨r,0,none⟩) l.length l.length) (.slice none 0 0) S=some (.bool false,S):=fun S=>by kernel_rfl
  have hlen:(l.flatMap fT).length=l.length * 2:=jM qU l
  have hX:((l.flatMap fT++rest).drop 0).take (l.length * 2)=l.flatMap fT:=by rw [List.drop_zero,← hlen,List.take_left]
  have src:JW zi 23 2 (.slice (some ⟨r,0,none⟩) l.length l.length) S=some (l.length,l.flatMap fT):=by
   have:=aat (P:=zi) (tx:=23) (c:=l.length) (o:=0) (m:=l.length) (e:=2) jm hg (by rw [List.length_append,hlen];omega) (by
    rw [hX,List.all_flatMap,List.all_eq_true];exact fun x _=>KY x)
   rw [hX] at this
   exact this
  have ap:yE zi 23 23 (sv 2 2 0 []) (.slice (some ⟨r,0,none⟩) l.length l.length) S=some (tl 2 l,S):=by
   obtain ⟨z,z1,z2,_⟩:=Yr
   have hl2:=hl
   show yB zi false 23 23 (.iface 2 (.iface 2 (.iface 0 (.agg #[])))) _ S=_
   simp only [yB,QZ,jw,z1,Jj,z2,src,if_true,show (0:Nat) < 2 from by decide]
   rw [if_pos (show (0+l.length) * 16≤140737488355328 by omega),if_pos (show 0+l.length≤4611686018427387903 by omega),if_pos (by rfl),Nat.zero_add]
   rfl
  ·
   conv at hr =>
    rhs
    rw [hTe]
    simp only [slices_Clone.code,slices_Clone.rs,zSs,reduceIte,zk,zn,zo,zq,e1,Zg,ap]
   rw [hTe] at hr
   exact slices_Clone.runs hr (.inr rfl)
theorem zU.v (h:Pm S q l fp):∃ k,Okl k l∧k≠1∧zT zi O zU.id [.pointer (some ⟨q,0,none⟩)] S=some (tl k l,S):=by
 obtain ⟨T,hTe⟩:∃ T,T=(.pointer (some ⟨q,0,none⟩)::zh::zh::zh::zh::zh::zh::zh::[]):=⟨_,rfl⟩
 have hr:zG zi O false zU.code T S=zG zi O false zU.code T S:=rfl
 obtain ⟨a,g0,hA⟩:=h.cell
 have l0:=vX (P:=zi) (t:=23) (o:=0+0) g0 qh rfl
 have c1:=slices_Clone.ms hA h.len
 refine ⟨if a=none then 0 else 2,?_,by split <;> decide,?_⟩
 ·
  split
  ·
   rename_i e
   rcases hA with ⟨_,rfl,_⟩ | ⟨r,anc,rest,h1,_⟩
   ·
    exact Okl.none
   ·
    rw [e] at h1;cases h1
  ·
   exact Okl.own
 ·
  conv at hr =>
   rhs
   rw [hTe]
   simp only [zU.code,zU.rs,zSs,reduceIte,zk,zn,zo,zq,wP,jG,l0,c1]
  rw [hTe] at hr
  exact zU.runs hr (.inr rfl)
def inT (ids:List Int) (x:TxV):Bool:=ids.any fun n=>decide (x.id=n)
def J5 (l:List TxV) (ids:List Int):List TxV:=l.filter fun x=>!inT ids x
theorem zL.v {c k:Nat} {ids:List Int} (hk:Okl k ids) (k2:k≠2) (hl:ids.length≤17592186044416) (x:TxV) {S:zx} (hc:S.get c=some (.cells [iz k ids] (.own []) 0)) (hlt:c < S.next):∃ S1,zT zi O zL.id [tv x,.pointer (some ⟨c,0,none⟩)] S=some (.bool (inT ids x),S1)∧Ext S S1∧S1.log=S.log:=by
 obtain ⟨T,hTe⟩:∃ T,T=(tv x::.pointer (some ⟨c,0,none⟩)::zh::zh::zh::zh::zh::zh::[]):=⟨_,rfl⟩
 have hr:zG zi O false zL.code T S=zG zi O false zL.code T S:=rfl
 have b1:ZC (tv x) S=some (.pointer (some ⟨S.next,0,none⟩),S.push (.cells (fT x) (.own []) 0)):=rfl
 have g1:(S.push (.cells (fT x) (.own []) 0)).get S.next=some (.cells (fT x) (.own []) 0):=by rw [zx.zY,if_pos rfl]
 have g2:(S.push (.cells (fT x) (.own []) 0)).get c=some (.cells [iz k ids] (.own []) 0):=by rw [zx.zY,if_neg (by omega)];exact hc
 have l1:jf zi false 38 (.pointer (some ⟨c,0,none⟩)) (S.push (.cells (fT x) (.own []) 0))=some (iz k ids,S.push (.cells (fT x) (.own []) 0)):=by
  rw [Ji (o:=0) (v:=iz k ids) g2 abn rfl (fun l h=>by unfold iz vs sv at h;split at h <;> cases h),XG,if_neg k2]
 have c1:=fun S=>slices_Contains.v hk k2 hl (v:=x.id) S
 refine ⟨S.push (.cells (fT x) (.own []) 0),?_,Ext.push _ _,rfl⟩
 ·
  conv at hr =>
   rhs
   rw [hTe]
   simp only [zL.code,zL.rs,zSs,reduceIte,zk,zn,zo,zq,b1,jI,kN g1,l1,if_neg k2,c1]
  rw [hTe] at hr
  exact zL.runs hr (.inr rfl)
theorem zV.v (h:Pm S q l fp) {k:Nat} {ids:List Int} (hk:Okl k ids) (k2:k≠2) (hl:ids.length≤17592186044416):∃ v S1 fp',zT zi O zV.id [.pointer (some ⟨q,0,none⟩),iz k ids] S=some (v,S1) ∧
  Pm S1 q (J5 l ids) fp'∧(∀ x ∈ fp',x ∈ fp)∧Fr (q::fp) S S1:=by
 obtain ⟨T,hTe⟩:∃ T,T=(.pointer (some ⟨q,0,none⟩)::iz k ids::zh::zh::zh::zh::zh::zh::zh::zh::zh::zh::zh::[]):=⟨_,rfl⟩
 have hr:zG zi O false zV.code T S=zG zi O false zV.code T S:=rfl
 obtain ⟨S0,b1,b2,b3,b4⟩:=aac (iz k ids) S
 have b2:S0.get S.next=some (.cells [iz k ids] (.own []) 0):=by
  rw [b2]
  have:(iz k ids).cells.toList=[iz k ids]:=by unfold iz vs sv;split <;> rfl
  rw [this]
 have h0:=h.ext b3
 obtain ⟨a,h1,h2⟩:=h0.cell
 have l1:=vX (P:=zi) (t:=23) (o:=0+0) h1 qh rfl
 have hcn:S.next ∉ fp:=fun hx=>by have:=h.flt _ hx;omega
 obtain ⟨a',S1,fp',e1,e2,e3,e4⟩:=slices_DeleteFunc.v (l:=l) (p:=inT ids) (g:=31) (c:=.pointer (some ⟨S.next,0,none⟩)) (K:=fun S1=>S1.get S.next=some (.cells [iz k ids] (.own []) 0)∧S.next < S1.next) h2 (by have:=h.len;omega)
  (fun S1 x hK _=>zL.v hk k2 hl x hK.1 hK.2) rfl (fun S1 S2 hK hF=>⟨by rw [hF.2 _ hK.2 hcn];exact hK.1,Nat.lt_of_lt_of_le hK.2 hF.1⟩) ⟨b2,b4⟩
 have e1:zT zi O 30 [.slice a l.length l.length,.func (Fn.func 31) #[] #[.pointer (some ⟨S.next,0,none⟩)]] S0=some (.slice a' (J5 l ids).length (J5 l ids).length,S1):=e1
 have hq:S1.get q=some (.cells [.slice a l.length l.length] (.own []) 0):=by rw [e4.2 q h0.lt h0.Vp,h1]
 have st:=xB (P:=zi) (t:=23) (o:=0+0) (x:=.slice a' (J5 l ids).length (J5 l ids).length) hq ZE rfl rfl (by simp)
 conv at hr =>
  rhs
  rw [hTe]
  simp only [zV.code,zV.rs,zSs,reduceIte,zk,zn,zo,zq,if_neg k2,b1,wP,jG,l1,vV,yw,e1,st]
 rw [hTe] at hr
 have hq4:q ∉ fp':=fun hx=>h.Vp (e3 q hx)
 refine ⟨_,_,fp',zV.runs hr (.inl rfl),⟨?_,?_,a',?_,?_⟩,e3,?_⟩
 ·
  have:=h0.lt;have:=e4.1
  simp [zx.kills];omega
 ·
  exact Nat.le_trans (List.length_filter_le _ _) h.len
 ·
  rw [zx.jq,if_pos rfl];rfl
 ·
  exact e2.keep (by simp [zx.kills]) fun x hx=>by rw [zx.jq,if_neg (fun e=>hq4 (by rw [← e];exact hx))];rfl
 ·
  have f2:Fr (q::fp) S S1:=(Fr.ext b3).trans e4 fun x hx=>.inl (by simp [hx])
  exact f2.set (.inl (by simp)) _
def vO (many:Int) (skip:List Int):List TxV→List TxV→List TxV
 | [],out=>out
 | x::r,out=>vO many skip r (if decide ((out.length:Int) < many) && !inT skip x then out++[x] else out)
theorem Qc (many:Int) (skip:List Int):∀ (l out:List TxV),(vO many skip l out).length≤out.length+l.length
 | [],out=>by simp [vO]
 | x::r,out=>by
  have:=Qc many skip r (if decide ((out.length:Int) < many) && !inT skip x then out++[x] else out)
  rw [vO,List.length_cons]
  split at this <;> rename_i hc <;> simp only [hc,if_true,if_false,Bool.false_eq_true] <;> simp at this ⊢ <;> omega
def xq (l:List TxV) (many:Int) (skip:List Int):List TxV:=vO many skip l []
theorem zD.round {r k2:Nat} {many:Int} {skip:List Int} (hn:l.length≤16) (hs:Okl k2 skip) (hs2:k2≠2) (hsl:skip.length≤17592186044416):∀ (suf pre:List TxV) {T:List Value} {rr:St} {S:zx} {k:Nat} {out:List TxV},yc (zG zi O false zD.je) T S=rr→T.length=36 →
  T.getD 1 zh=.int .i64 many→T.getD 2 zh=iz k2 skip→T.getD 7 zh=tl k out→T.getD 13 zh=.slice (some ⟨r,0,none⟩) l.length l.length→T.getD 14 zh=.int .i64 l.length→T.getD 15 zh=.int .i64 pre.length→l=pre++suf→Okl k out→k≠1→out.length≤pre.length→qW fT 2 S (some ⟨r,0,none⟩) l fp →
  ∃ T' S' k',rr=some (.exit 0,T',S')∧T'.length=36∧T'.getD 7 zh=tl k' (vO many skip suf out)∧Okl k' (vO many skip suf out)∧k'≠1∧Ext S S':=by
 intro suf
 induction suf with
 | nil =>
  intro pre T rr S k out hL hT h1 h2 h7 h13 h14 h15 hl hk k1 hol hA
  have hTe:=zD.eta hT
  rw [h1,h2,h7,h13,h14,h15] at hTe
  have hr:zG zi O false zD.je T S=zG zi O false zD.je T S:=rfl
  have hd:¬ (pre.length:Int) < (l.length:Int):=by rw [hl];simp
  conv at hr =>
   rhs
   rw [hTe]
   simp only [zD.je,zD.code,zD.rs,zSs,reduceIte,zk,zn,zo,zq,hd]
  exact ⟨_,_,k,hL.symm.trans (jF hr (by simp)),rfl,rfl,hk,k1,Ext.refl _⟩
 | cons x suf ih =>
  intro pre T rr S k out hL hT h1 h2 h7 h13 h14 h15 hl hk k1 hol hA
  have hTe:=zD.eta hT
  rw [h1,h2,h7,h13,h14,h15] at hTe
  have hr:zG zi O false zD.je T S=zG zi O false zD.je T S:=rfl
  have hd:(pre.length:Int) < (l.length:Int):=by rw [hl];simp;omega
  have ix:∀ S,zZ zi 23 (.slice (some ⟨r,0,none⟩) l.length l.length) (.int .i64 pre.length) S=some (.pointer (some ⟨r,0+pre.length * 2,none⟩),S):=fun S=>by
   rw [Kq (o:=0) (n:=l.length) (c:=l.length) (q:=r) jm jw (by omega) hd,Int.toNat_natCast]
  have hA0:=hA
  rcases hA0 with ⟨h,_⟩ | ⟨r',anc,rest,ha,hfa,hg,hx⟩
  ·
   cases h
  simp only [Option.some.injEq,Addr.mk.injEq,and_true] at ha
  subst ha
  have l1:jf zi false 30 (.pointer (some ⟨r,0+pre.length * 2,none⟩)) S=some (tv x,S):=qW.load (P:=zi) (te:=30) (S:=S) xU jw qU acL (x:=x) (pre:=pre) (suf:=suf) (by rw [← hl];exact hg)
  obtain ⟨S1,n1,n2,n3,n4⟩:=adA S x
  have al:=adR S
  have hpl:pre.length≤16:=by have:=congrArg List.length hl;simp at this;omega
  have ln:=fun S=>xP (S:=S) hk.dem
  have lo0:=kN n2
  have lo:=ZV n2
  have cc:=fun S=>slices_Contains.v hs hs2 hsl (v:=x.id) S
  have bsl:∀ S,jd zi 23 1 [(0,tv x)] S=some (tl 2 [x],S):=fun S=>by kernel_rfl
  have ap:=fun S=>ZQ (S:=S) (t:=x) hk k1 (by omega)
  have wi:IntKind.i64.wrap ((pre.length:Int)+1)=((pre++[x]).length:Int):=by rw [wrap_i64 (by omega) (by omega)];simp
  have step:∀ {k3:Nat} {out3:List TxV},(if decide ((out.length:Int) < many) && !inT skip x then out++[x] else out)=out3→∀ {T3:List Value},yc (zG zi O false zD.je) T3 S1=rr→T3.length=36→T3.getD 1 zh=.int .i64 many→T3.getD 2 zh=iz k2 skip→T3.getD 7 zh=tl k3 out3 →
    T3.getD 13 zh=.slice (some ⟨r,0,none⟩) l.length l.length→T3.getD 14 zh=.int .i64 l.length→T3.getD 15 zh=.int .i64 ((pre++[x]).length:Nat)→Okl k3 out3→k3≠1→out3.length≤(pre++[x]).length→∃ T' S' k',rr=some (.exit 0,T',S')∧T'.length=36∧T'.getD 7 zh=tl k' (vO many skip (x::suf) out)∧Okl k' (vO many skip (x::suf) out)∧k'≠1∧Ext S S':=by
   intro k3 out3 ho T3 hL3 hT3 q1 q2 q7 q13 q14 q15 hk3 k31 hol3
   obtain ⟨T',S',k',w1,w2,w3,w4,w5,w6⟩:=ih (pre++[x]) hL3 hT3 q1 q2 q7 q13 q14 q15 (by rw [hl];simp) hk3 k31 hol3 (hA.ext n3)
   rw [← ho] at w3 w4
   exact ⟨T',S',k',w1,w2,w3,w4,w5,n3.trans w6⟩
  by_cases hm:(out.length:Int) < many
  ·
   cases hI:inT skip x with
   | true =>
    unfold inT at hI
    rw [hI] at cc
    conv at hr =>
     rhs
     rw [hTe]
     simp only [zD.je,zD.code,zD.rs,zSs,reduceIte,zk,zn,zo,zq,hd,ix,l1,al,n1,ln,decide_eq_true hm,jI,lo0,if_neg hs2,cc,Bool.not_true,wi]
    have hs3:=(jy hr).symm.trans hL
    exact step (out3:=out) (by unfold inT;rw [hI];simp) hs3 rfl rfl rfl rfl rfl rfl rfl hk k1 (by simp;omega)
   | false =>
    unfold inT at hI
    rw [hI] at cc
    conv at hr =>
     rhs
     rw [hTe]
     simp only [zD.je,zD.code,zD.rs,zSs,reduceIte,zk,zn,zo,zq,hd,ix,l1,al,n1,ln,decide_eq_true hm,jI,lo0,if_neg hs2,cc,Bool.not_false,wi,lo,bsl,ap]
    have hs3:=(jy hr).symm.trans hL
    exact step (out3:=out++[x]) (by unfold inT;rw [hI];simp [hm]) hs3 rfl rfl rfl rfl rfl rfl rfl Okl.own (by decide) (by simp;omega)
  ·
   conv at hr =>
    rhs
    rw [hTe]
    simp only [zD.je,zD.code,zD.rs,zSs,reduceIte,zk,zn,zo,zq,hd,ix,l1,al,n1,ln,decide_eq_false hm,wi]
   have hs3:=(jy hr).symm.trans hL
   exact step (out3:=out) (by simp [hm]) hs3 rfl rfl rfl rfl rfl rfl rfl hk k1 (by simp;omega)
theorem zD.v (h:Pm S q l fp) {k2:Nat} {many:Int} {skip:List Int} (hs:Okl k2 skip) (hs2:k2≠2) (hsl:skip.length≤17592186044416):∃ k S1,zT zi O zD.id [.pointer (some ⟨q,0,none⟩),.int .i64 many,iz k2 skip] S=some (tl k (xq l many skip),S1)∧Okl k (xq l many skip)∧k≠1∧Ext S S1:=by
 obtain ⟨T,hTe⟩:∃ T,T=(.pointer (some ⟨q,0,none⟩)::.int .i64 many::iz k2 skip::zh::zh::zh::zh::zh::zh::zh::zh::zh::zh::zh::zh::zh::zh::zh::zh::zh::zh::zh::zh::zh::zh::zh::zh::zh::zh::zh::zh::zh::zh::zh::zh::zh::[]):=⟨_,rfl⟩
 have hr:zG zi O false zD.code T S=zG zi O false zD.code T S:=rfl
 obtain ⟨a,h1,h2⟩:=h.cell
 have l1:=vX (P:=zi) (t:=23) (o:=0+0) h1 qh rfl
 have ln:=fun S=>Jq (P:=zi) jm a l.length l.length S
 conv at hr =>
  rhs
  rw [hTe]
  simp only [zD.code,zD.rs,zSs,reduceIte,zk,zn,zo,zq,wP,jG,l1,ln,goInt]
 generalize hL:yc (zG zi O false zD.je) _ _=rr at hr
 have fin:∀ T' S' k',rr=some (.exit 0,T',S')→T'.length=36→T'.getD 7 zh=tl k' (xq l many skip)→Okl k' (xq l many skip)→k'≠1→Ext S S'→∃ k S1,zT zi O zD.id [.pointer (some ⟨q,0,none⟩),.int .i64 many,iz k2 skip] S=some (tl k (xq l many skip),S1)∧Okl k (xq l many skip)∧k≠1∧Ext S S1:=by
  intro T' S' k' e1 e2 e3 e4 e5 e6
  subst e1
  have hTe':=zD.eta e2
  rw [e3] at hTe'
  conv at hr =>
   rhs
   simp only [zSs,reduceIte,zk,zn,zo,zq]
   rw [hTe']
   simp only [zD.code,zD.rs,zSs,reduceIte,zk,zn,zo,zq]
  rw [hTe] at hr
  exact ⟨k',S',zD.runs hr (.inr rfl),e4,e5,e6⟩
 rcases h2 with ⟨rfl,rfl,rfl⟩ | ⟨r,anc,rest,rfl,rfl,k3,k4⟩
 ·
  generalize hT2:List.cons _ _=T2 at hL
  have hlen:T2.length=36:=by rw [← hT2];rfl
  have g7:T2.getD 7 zh=.slice none 0 0:=by rw [← hT2];rfl
  have g14:T2.getD 14 zh=.int .i64 0:=by rw [← hT2];rfl
  have g15:T2.getD 15 zh=.int .i64 0:=by rw [← hT2];rfl
  have hTe2:=zD.eta hlen
  rw [g7,g14,g15] at hTe2
  have hr2:zG zi O false zD.je T2 S=zG zi O false zD.je T2 S:=rfl
  have hd:¬ (0:Int) < (0:Int):=by decide
  conv at hr2 =>
   rhs
   rw [hTe2]
   simp only [zD.je,zD.code,zD.rs,zSs,reduceIte,zk,zn,zo,zq,hd]
  exact fin _ _ 0 (hL.symm.trans (jF hr2 (by simp))) rfl rfl Okl.none (by decide) (Ext.refl _)
 ·
  obtain ⟨T',S',k',q1,q2,q3,q4,q5,q6⟩:=zD.round h.len hs hs2 hsl l [] (k:=0) (out:=[]) hL rfl rfl rfl rfl rfl rfl rfl rfl Okl.none (by decide) (by simp) (.inr ⟨r,anc,rest,rfl,rfl,k3,k4⟩)
  exact fin T' S' k' q1 q2 q3 q4 q5 q6
end
end Go.Proofs.Ytacbgjhmkhjpoaa
namespace Go.Proofs.Ytacbgjhmkhjpoaa
open Go.Abs
section
variable {S0 S:zx} {q:Nat} {l:List TxV}
def PS (S0 S:zx) (q:Nat) (l:List TxV):Prop:=∃ fp,Pm S q l fp∧Fr [] S0 S∧S0.next≤q∧∀ x ∈ fp,S0.next≤x
theorem PS.fr (h:PS S0 S q l):Fr [] S0 S:=let ⟨_,_,h,_⟩:=h;h
theorem PS.len (h:PS S0 S q l):l.length≤16:=let ⟨_,h,_⟩:=h;h.len
theorem PS.ge (h:PS S0 S q l):S0.next≤q:=let ⟨_,_,_,h,_⟩:=h;h
theorem PS.lt (h:PS S0 S q l):q < S.next:=let ⟨_,h,_⟩:=h;h.lt
theorem PS.ext {S1:zx} (h:PS S0 S q l) (k:Ext S S1):PS S0 S1 q l:=by
 obtain ⟨fp,h1,h2,h3,h4⟩:=h
 exact ⟨fp,h1.ext k,h2.trans (Fr.ext (fp:=[]) k) fun x hx=>(by cases hx),h3,h4⟩
theorem PS.of {S1:zx} {l2:List TxV} {fp fp':List Nat} (h1:Pm S q l fp) (h2:Fr [] S0 S) (h3:S0.next≤q) (h4:∀ x ∈ fp,S0.next≤x) (k1:Pm S1 q l2 fp') (k2:∀ x ∈ fp',x ∈ fp∨S.next≤x) (k3:Fr (q::fp) S S1):PS S0 S1 q l2 :=
 ⟨fp',k1,h2.trans k3 fun x hx=>(by
  rcases List.mem_cons.1 hx with rfl | hx
  ·
   exact .inr h3
  ·
   exact .inr (h4 x hx)),h3,fun x hx=>(by
  rcases k2 x hx with hx | hx
  ·
   exact h4 x hx
  ·
   have:=h2.1;omega)⟩
theorem acS (S:zx):∃ S1,zT zi O jo.id [] S=some (.pointer (some ⟨S.next,0,none⟩),S1)∧PS S S1 S.next []:=by
 obtain ⟨S1,h1,h2,h3⟩:=jo.v S
 exact ⟨S1,h1,[],h2,Fr.ext h3,Nat.le_refl _,fun x hx=>by cases hx⟩
theorem XA (h:PS S0 S q l) (t:TxV):∃ S1,zT zi O zC.id [.pointer (some ⟨q,0,none⟩),tv t] S=some (.int .i64 (kH l t).1,S1)∧PS S0 S1 q (kH l t).2:=by
 obtain ⟨fp,h1,h2,h3,h4⟩:=h
 obtain ⟨S1,fp',e1,e2,e3,e4⟩:=zC.v h1 t
 exact ⟨S1,e1,PS.of h1 h2 h3 h4 e2 e3 e4⟩
theorem aaB (h:PS S0 S q l):∃ k,Okl k l∧k≠1∧zT zi O zU.id [.pointer (some ⟨q,0,none⟩)] S=some (tl k l,S):=by
 obtain ⟨fp,h1,_⟩:=h
 exact zU.v h1
theorem aan (h:PS S0 S q l) {k2:Nat} {many:Int} {skip:List Int} (hs:Okl k2 skip) (hs2:k2≠2) (hsl:skip.length≤17592186044416):∃ k S1,zT zi O zD.id [.pointer (some ⟨q,0,none⟩),.int .i64 many,iz k2 skip] S=some (tl k (xq l many skip),S1)∧Okl k (xq l many skip)∧k≠1∧PS S0 S1 q l:=by
 obtain ⟨fp,h1,h2⟩:=h
 obtain ⟨k,S1,e1,e2,e3,e4⟩:=zD.v (many:=many) h1 hs hs2 hsl
 exact ⟨k,S1,e1,e2,e3,PS.ext ⟨fp,h1,h2⟩ e4⟩
theorem abS (q:Nat) (S:zx):wV zi .eql 24 (.pointer (some ⟨q,0,none⟩)) (.pointer none) S=some (.bool false,S):=by kernel_rfl
theorem aaX (l:List TxV) (many:Int) (skip:List Int):(xq l many skip).length≤l.length:=by
 have:=Qc many skip l []
 simpa [xq] using this
theorem zF.v (S:zx):∃ S1,zT zi O zF.id [] S=some (.bool true,S1)∧Fr [] S S1:=by
 obtain ⟨T,hTe⟩:∃ T,T=(zh::zh::zh::zh::zh::zh::zh::zh::zh::zh::zh::zh::zh::zh::zh::zh::zh::zh::zh::zh::zh::zh::zh::zh::zh::zh::zh::zh::zh::zh::zh::zh::zh::zh::zh::zh::zh::[]):=⟨_,rfl⟩
 have hr:zG zi O false zF.code T S=zG zi O false zF.code T S:=rfl
 obtain ⟨S1,a1,p1⟩:=acS S
 obtain ⟨S2,a2,p2⟩:=XA p1 ⟨1,1⟩
 obtain ⟨S3,a3,p3⟩:=XA p2 ⟨2,5⟩
 obtain ⟨S4,a4,p4⟩:=XA p3 ⟨3,3⟩
 have e2:kH [] ⟨1,1⟩=(0,[⟨1,1⟩]):=by rfl
 rw [e2] at a2 p2 a3 p3 a4 p4
 have e3:kH [⟨1,1⟩] ⟨2,5⟩=(0,[⟨2,5⟩,⟨1,1⟩]):=by rfl
 simp only [e3] at a3 p3 a4 p4
 have e4:kH [⟨2,5⟩,⟨1,1⟩] ⟨3,3⟩=(0,[⟨2,5⟩,⟨3,3⟩,⟨1,1⟩]):=by rfl
 simp only [e4] at a4 p4
 obtain ⟨k,S5,a5,k5,_,p5⟩:=aan (many:=2) (skip:=[]) p4 Okl.none (by decide) (by simp)
 have e5:xq [⟨2,5⟩,⟨3,3⟩,⟨1,1⟩] 2 []=[⟨2,5⟩,⟨3,3⟩]:=by rfl
 rw [e5] at a5 k5
 have a5:zT zi O zD.id [.pointer (some ⟨S.next,0,none⟩),.int .i64 2,.slice none 0 0] S4=some (tl k [⟨2,5⟩,⟨3,3⟩],S5):=a5
 obtain ⟨S6,a6,p6⟩:=XA p5 ⟨1,9⟩
 have e6:kH [⟨2,5⟩,⟨3,3⟩,⟨1,1⟩] ⟨1,9⟩=(91,[⟨2,5⟩,⟨3,3⟩,⟨1,1⟩]):=by rfl
 rw [e6] at a6 p6
 have b1:∀ S,yj zi 30 [(0,.int .i64 1),(1,.int .i64 1)] S=some (tv ⟨1,1⟩,S):=fun S=>by kernel_rfl
 have b2:∀ S,yj zi 30 [(0,.int .i64 2),(1,.int .i64 5)] S=some (tv ⟨2,5⟩,S):=fun S=>by kernel_rfl
 have b3:∀ S,yj zi 30 [(0,.int .i64 3),(1,.int .i64 3)] S=some (tv ⟨3,3⟩,S):=fun S=>by kernel_rfl
 have b4:∀ S,yj zi 30 [(0,.int .i64 1),(1,.int .i64 9)] S=some (tv ⟨1,9⟩,S):=fun S=>by kernel_rfl
 have bs:∀ S,jd zi 23 2 [(0,tv ⟨2,5⟩),(1,tv ⟨3,3⟩)] S=some (tl 2 [⟨2,5⟩,⟨3,3⟩],S):=fun S=>by kernel_rfl
 have sm:∀ S,zT zi O 15 [tl (if k=2 then 1 else k) [⟨2,5⟩,⟨3,3⟩],tl 1 [⟨2,5⟩,⟨3,3⟩]] S=some (.bool true,S):=fun S=>by
  have:=zB.v k5.dem (Okl.read (l:=[(⟨2,5⟩:TxV),⟨3,3⟩])) (vS k) (by decide) (by simp) S
  rwa [decide_eq_true rfl] at this
 refine ⟨S6,?_,p6.fr⟩
 conv at hr =>
  rhs
  rw [hTe]
  simp only [zF.code,zF.rs,zSs,reduceIte,zk,zn,zo,zq,a1,abS,b1,a2,b2,a3,b3,a4,a5,bs,acG,sm,b4,a6]
 rw [hTe] at hr
 exact zF.runs hr (.inr rfl)
end
end Go.Proofs.Ytacbgjhmkhjpoaa
namespace Go.Proofs.Ytacbgjhmkhjpoaa
open Go.Abs
theorem Qy {a b:TxV}:yM a b=true ↔ b.fee < a.fee∨(a.fee=b.fee∧a.id < b.id):=by
 unfold yM
 by_cases h:a.fee=b.fee
 ·
  simp [h]
 ·
  simp [h]
theorem Ko {a b c:TxV} (h:yM a b=true) (k:yM b c=true):yM a c=true:=by
 rw [Qy] at *;omega
theorem Kz {a b:TxV} (h:¬ yM a b=true) (hne:a.id≠b.id):yM b a=true:=by
 rw [Qy] at *;omega
def Srt (l:List TxV):Prop:=l.Pairwise fun x y=>yM x y=true∧x.id≠y.id
theorem aeN {l:List TxV} {t:TxV} (h:QM l t=false):∀ x ∈ l,x.id≠t.id:=by
 intro x hx
 unfold QM at h
 rw [List.any_eq_false] at h
 simpa using h x hx
theorem adV {l:List TxV} {t x:TxV} (hx:x ∈ l.take (qo l t)):¬ yM t x=true:=by
 obtain ⟨i,hi,rfl⟩:=List.mem_iff_getElem.1 hx
 rw [List.length_take] at hi
 rw [List.getElem_take]
 have:=List.not_of_lt_findIdx (p:=yM t) (xs:=l) (i:=i) (by unfold qo at hi;omega)
 simpa using this
theorem adn {l:List TxV} {t x:TxV} (hs:Srt l) (hx:x ∈ l.drop (qo l t)):yM t x=true:=by
 have hlt:qo l t < l.length:=by
  rw [List.mem_iff_getElem] at hx
  obtain ⟨i,hi,_⟩:=hx
  rw [List.length_drop] at hi
  omega
 have h0:yM t l[qo l t]=true:=List.findIdx_getElem (p:=yM t) (xs:=l) (w:=hlt)
 rw [List.drop_eq_getElem_cons hlt] at hx
 rcases List.mem_cons.1 hx with rfl | hx
 ·
  exact h0
 ·
  have hd:(l.drop (qo l t)).Pairwise fun x y=>yM x y=true∧x.id≠y.id:=hs.sublist (List.drop_sublist _ _)
  rw [List.drop_eq_getElem_cons hlt] at hd
  exact Ko h0 ((List.pairwise_cons.1 hd).1 x hx).1
theorem Srt.ins {l:List TxV} {t:TxV} (hs:Srt l) (hd:QM l t=false):Srt (adb l t):=by
 have hn:=aeN hd
 refine List.Pairwise.sublist (List.take_sublist _ _) ?_
 refine List.pairwise_append.2 ⟨hs.sublist (List.take_sublist _ _),List.pairwise_cons.2 ⟨fun b hb=>⟨adn hs hb,fun e=>hn b (List.mem_of_mem_drop hb) e.symm⟩,hs.sublist (List.drop_sublist _ _)⟩,fun a ha b hb=>?_⟩
 have ham:=List.mem_of_mem_take ha
 rcases List.mem_cons.1 hb with rfl | hb
 ·
  exact ⟨Kz (adV ha) (fun e=>hn a ham e.symm),hn a ham⟩
 ·
  have h2:=hs
  rw [Srt,← List.take_append_drop (qo l t) l] at h2
  exact (List.pairwise_append.1 h2).2.2 a ha b hb
theorem adG {l:List TxV} {t:TxV} (h:(kH l t).1=0):(kH l t).2=adb l t∧QM l t=false∧Zp t=true∧qo l t≠16:=by
 unfold kH at *
 split at h
 ·
  rename_i h1
  split at h
  ·
   cases h
  ·
   rename_i h2
   split at h
   ·
    cases h
   ·
    rename_i h3
    rw [if_pos h1,if_neg h2,if_neg h3]
    exact ⟨rfl,by simpa using h2,h1,h3⟩
 ·
  cases h
theorem aea {l:List TxV} {t:TxV} (h:¬ (kH l t).1=0):(kH l t).2=l:=by
 unfold kH at *
 split at h
 ·
  split at h
  ·
   rename_i h1 h2;rw [if_pos h1,if_pos h2]
  ·
   split at h
   ·
    rename_i h1 h2 h3;rw [if_pos h1,if_neg h2,if_pos h3]
   ·
    exact absurd rfl h
 ·
  rename_i h1;rw [if_neg h1]
theorem Srt.add {l:List TxV} (hs:Srt l) (t:TxV):Srt (kH l t).2:=by
 by_cases h:(kH l t).1=0
 ·
  obtain ⟨h1,h2,_⟩:=adG h
  rw [h1];exact hs.ins h2
 ·
  rw [aea h];exact hs
end Go.Proofs.Ytacbgjhmkhjpoaa
namespace Go.Proofs.Ytacbgjhmkhjpoaa
open Go.Abs
def ab1 (l:List TxV) (skip:List Int):List TxV:=l.filter fun x=>!inT skip x
theorem ab7 (many:Int) (skip:List Int):∀ (l out:List TxV),vO many skip l out=out++(ab1 l skip).take (many.toNat - out.length):=by
 intro l
 induction l with
 | nil=>intro out;simp [vO,ab1]
 | cons x l ih =>
  intro out
  rw [vO,ih]
  unfold ab1
  rw [List.filter_cons]
  cases hI:inT skip x with
  | true=>simp
  | false =>
   by_cases hm:(out.length:Int) < many
   ·
    obtain ⟨d,hd⟩:∃ d,many.toNat - out.length=d+1:=⟨many.toNat - out.length - 1,by omega⟩
    simp only [decide_eq_true hm,Bool.not_false,Bool.and_self,if_true,hd,List.take_succ_cons,List.length_append,List.length_singleton,List.append_assoc,List.singleton_append]
    rw [show many.toNat - (out.length+1)=d by omega]
   ·
    simp only [decide_eq_false hm,Bool.false_and,Bool.false_eq_true,if_false]
    rw [show many.toNat - out.length=0 by omega];simp
theorem abU (l:List TxV) (many:Int) (skip:List Int):xq l many skip=(ab1 l skip).take many.toNat:=by
 unfold xq
 rw [ab7];simp
theorem Srt.same {l:List TxV} (h:Srt l) {x y:TxV} (hx:x ∈ l) (hy:y ∈ l) (he:x.id=y.id):x=y:=by
 induction l with
 | nil=>cases hx
 | cons z l ih =>
  obtain ⟨h1,h2⟩:=List.pairwise_cons.1 h
  rcases List.mem_cons.1 hx with ex | kx <;> rcases List.mem_cons.1 hy with ey | ky
  ·
   rw [ex,ey]
  ·
   exact absurd (by rw [← ex];exact he) (h1 y ky).2
  ·
   exact absurd (by rw [← ey];exact he.symm) (h1 x kx).2
  ·
   exact ih h2 kx ky
end Go.Proofs.Ytacbgjhmkhjpoaa
namespace Go.Proofs.Ytacbgjhmkhjpoaa
open Go.Abs
def vY (l:List TxV) (t:TxV):List TxV:=if qo l t < l.length then l.take (qo l t)++t::l.drop (qo l t) else l
theorem KJ (l:List TxV) (x t:TxV):qo (l++[x]) t=if qo l t < l.length then qo l t else if yM t x=true then l.length else l.length+1:=by
 unfold qo
 rw [List.findIdx_append]
 split
 ·
  rfl
 ·
  rw [List.findIdx_singleton]
  split <;> omega
theorem ae8 {l:List TxV} {t:TxV} (h:qo l t < l.length) (x:TxV):qo (l++[x]) t < (l++[x]).length∧vY (l++[x]) t=vY l t++[x]:=by
 have e:qo (l++[x]) t=qo l t:=by rw [KJ,if_pos h]
 have k:qo (l++[x]) t < (l++[x]).length:=by rw [e];simp;omega
 refine ⟨k,?_⟩
 unfold vY
 rw [if_pos k,if_pos h,e,List.take_append_of_le_length (by omega),List.drop_append_of_le_length (by omega)]
 simp
theorem ady {l:List TxV} {t x:TxV} (h:¬ qo l t < l.length) (hx:yM t x=true):qo (l++[x]) t < (l++[x]).length∧vY (l++[x]) t=(vY l t++[t])++[x]:=by
 have e:qo (l++[x]) t=l.length:=by rw [KJ,if_neg h,if_pos hx]
 have k:qo (l++[x]) t < (l++[x]).length:=by rw [e];simp
 refine ⟨k,?_⟩
 unfold vY
 rw [if_pos k,if_neg h,e,List.take_left,List.drop_left]
 simp
theorem aeU {l:List TxV} {t x:TxV} (h:¬ qo l t < l.length) (hx:¬ yM t x=true):¬ qo (l++[x]) t < (l++[x]).length∧vY (l++[x]) t=vY l t++[x]:=by
 have e:qo (l++[x]) t=l.length+1:=by rw [KJ,if_neg h,if_neg hx]
 have k:¬ qo (l++[x]) t < (l++[x]).length:=by rw [e];simp
 refine ⟨k,?_⟩
 unfold vY
 rw [if_neg k,if_neg h]
theorem adL {l:List TxV} {t x:TxV} (h:QM l t=false):QM (l++[x]) t=decide (x.id=t.id):=by
 unfold QM at *
 rw [List.any_append,h];simp
theorem acd (l:List TxV) (t:TxV):(vY l t).length≤l.length+1:=by
 unfold vY
 split
 ·
  simp;omega
 ·
  omega
theorem YQ {k:Nat} {l:List TxV} (h:k≤2):jl 16 (tl k l)=true:=Yq h fun _ _=>rfl
section
variable {k:Nat} {l:List TxV} {t:TxV} {p:Nat}
theorem zy.round (hk:Okl k l) (k2:k≠2) (hl:l.length≤16):∀ (suf pre:List TxV) {T:List Value} {r:St} {S:zx},yc (zG zi O false zy.je) T S=r→T.length=59 →
  T.getD 0 zh=tl k l→T.getD 3 zh=.pointer (some ⟨p,0,none⟩)→T.getD 6 zh=tl 2 (vY pre t)→T.getD 7 zh=.bool (decide (qo pre t < pre.length))→T.getD 15 zh=tl k l→T.getD 16 zh=.int .i64 l.length→T.getD 17 zh=.int .i64 pre.length→l=pre++suf→QM pre t=false →
  S.get p=some (.cells (fT t) (.own []) 0)→p < S.next →
  ∃ e T' S',r=some (e,T',S')∧if QM l t then e=.ret∧T'.getD 4 zh=tl k l∧T'.getD 5 zh=.int .i64 91 else
   e=.exit 0∧T'.length=59∧T'.getD 0 zh=tl k l∧T'.getD 3 zh=.pointer (some ⟨p,0,none⟩)∧T'.getD 6 zh=tl 2 (vY l t)∧T'.getD 7 zh=.bool (decide (qo l t < l.length))∧S'.get p=some (.cells (fT t) (.own []) 0):=by
 intro suf
 induction suf with
 | nil =>
  intro pre T r S hL hT h0 h3 h6 h7 h15 h16 h17 hpre hd hp hpl
  have hTe:=zy.eta hT
  rw [h0,h3,h6,h7,h15,h16,h17] at hTe
  have hr:zG zi O false zy.je T S=zG zi O false zy.je T S:=rfl
  have d1:¬ (pre.length:Int) < (l.length:Int):=by rw [hpre];simp
  conv at hr =>
   rhs
   rw [hTe]
   simp only [zy.je,zy.code,zy.rs,zSs,reduceIte,zk,zn,zo,zq,d1]
  have e:l=pre:=by rw [hpre,List.append_nil]
  refine ⟨_,_,_,hL.symm.trans (jF hr (by simp)),?_⟩
  rw [e,hd,if_neg (by decide)]
  exact ⟨rfl,rfl,by rw [← e];rfl,rfl,rfl,rfl,hp⟩
 | cons x suf ih =>
  intro pre T r S hL hT h0 h3 h6 h7 h15 h16 h17 hpre hd hp hpl
  have hTe:=zy.eta hT
  rw [h0,h3,h6,h7,h15,h16,h17] at hTe
  have hr:zG zi O false zy.je T S=zG zi O false zy.je T S:=rfl
  have hll:l.length=pre.length+suf.length+1:=by rw [hpre];simp;omega
  have d1:(pre.length:Int) < (l.length:Int):=by omega
  have e1:=fun S=>XD (S:=S) hk hpre
  obtain ⟨S1,n1,n2,n3,n4⟩:=adA S x
  have al:=adR S
  have hp1:S1.get p=some (.cells (fT t) (.own []) 0):=(n3.get p hpl).trans hp
  have wi:IntKind.i64.wrap ((pre.length:Int)+1)=((pre++[x]).length:Int):=by rw [wrap_i64 (by omega) (by omega)];simp
  have ol:=acd pre t
  by_cases hx:x.id=t.id
  ·
   conv at hr =>
    rhs
    rw [hTe]
    simp only [zy.je,zy.code,zy.rs,zSs,reduceIte,zk,zn,zo,zq,d1,e1,qQ,al,n1,jI,kN n2,kN hp1,decide_eq_true hx]
   have hdl:QM l t=true:=by
    unfold QM
    rw [List.any_eq_true]
    exact ⟨x,by rw [hpre];simp,decide_eq_true hx⟩
   refine ⟨_,_,_,hL.symm.trans (jF hr (by simp)),?_⟩
   rw [hdl,if_pos rfl]
   exact ⟨rfl,rfl,rfl⟩
  ·
   have hd2:QM (pre++[x]) t=false:=by rw [adL hd,decide_eq_false hx]
   have c1:=fun S=>zH.v t x S
   have b1:∀ S,jd zi 23 1 [(0,tv x)] S=some (tl 2 [x],S):=fun S=>by kernel_rfl
   have b2:∀ S,jd zi 23 1 [(0,tv t)] S=some (tl 2 [t],S):=fun S=>by kernel_rfl
   have a1:=fun S=>ZQ (S:=S) (k:=2) (l:=vY pre t) (t:=x) Okl.own (by decide) (by omega)
   by_cases hin:qo pre t < pre.length
   ·
    obtain ⟨o1,o2⟩:=ae8 hin x
    rw [decide_eq_true hin] at hTe
    conv at hr =>
     rhs
     rw [hTe]
     simp only [zy.je,zy.code,zy.rs,zSs,reduceIte,zk,zn,zo,zq,d1,e1,qQ,al,n1,jI,kN n2,kN hp1,decide_eq_false hx,Bool.not_true,ZV n2,b1,a1,wi]
    have hs3:=(jy hr).symm.trans hL
    exact ih (pre++[x]) hs3 rfl rfl rfl (by rw [o2];rfl) (by rw [decide_eq_true o1];rfl) rfl rfl rfl (by rw [hpre];simp) hd2 hp1 (Nat.lt_of_lt_of_le hpl n3.next)
   ·
    rw [decide_eq_false hin] at hTe
    cases hle:yM t x with
    | true =>
     obtain ⟨o1,o2⟩:=ady hin hle
     rw [hle] at c1
     have a2:=fun S=>ZQ (S:=S) (k:=2) (l:=vY pre t) (t:=t) Okl.own (by decide) (by omega)
     have a3:=fun S=>ZQ (S:=S) (k:=2) (l:=vY pre t++[t]) (t:=x) Okl.own (by decide) (by simp;omega)
     conv at hr =>
      rhs
      rw [hTe]
      simp only [zy.je,zy.code,zy.rs,zSs,reduceIte,zk,zn,zo,zq,d1,e1,qQ,al,n1,jI,kN n2,kN hp1,decide_eq_false hx,Bool.not_false,ZV n2,ZV hp1,c1,b1,b2,a2,a3,wi]
     have hs3:=(jy hr).symm.trans hL
     exact ih (pre++[x]) hs3 rfl rfl rfl (by rw [o2];rfl) (by rw [decide_eq_true o1];rfl) rfl rfl rfl (by rw [hpre];simp) hd2 hp1 (Nat.lt_of_lt_of_le hpl n3.next)
    | false =>
     obtain ⟨o1,o2⟩:=aeU (x:=x) hin (by rw [hle];decide)
     rw [hle] at c1
     conv at hr =>
      rhs
      rw [hTe]
      simp only [zy.je,zy.code,zy.rs,zSs,reduceIte,zk,zn,zo,zq,d1,e1,qQ,al,n1,jI,kN n2,kN hp1,decide_eq_false hx,Bool.not_false,ZV n2,ZV hp1,c1,b1,a1,wi]
     have hs3:=(jy hr).symm.trans hL
     exact ih (pre++[x]) hs3 rfl rfl rfl (by rw [o2];rfl) (by rw [decide_eq_false o1];rfl) rfl rfl rfl (by rw [hpre];simp) hd2 hp1 (Nat.lt_of_lt_of_le hpl n3.next)
theorem zy.v (hk:Okl k l) (k2:k≠2) (hl:l.length≤16) (t:TxV):∃ k',Okl k' (kH l t).2∧∀ S,zT zi O zy.id [tl k l,tv t] S=some (.tuple #[tl k' (kH l t).2,.int .i64 (kH l t).1],S):=by
 obtain ⟨T,hTe⟩:∃ T,T=(tl k l::tv t::zh::zh::zh::zh::zh::zh::zh::zh::zh::zh::zh::zh::zh::zh::zh::zh::zh::zh::zh::zh::zh::zh::zh::zh::zh::zh::zh::zh::zh::zh::zh::zh::zh::zh::zh::zh::zh::zh::zh::zh::zh::zh::zh::zh::zh::zh::zh::zh::zh::zh::zh::zh::zh::zh::zh::zh::zh::[]):=⟨_,rfl⟩
 have hr:zG zi O false zy.code T zx.empty=zG zi O false zy.code T zx.empty:=rfl
 have ca:[tl k l,tv t].all (jl 16)=true:=all2 (YQ hk.le) rfl
 have cv:∀ {j:Nat} {m:List TxV} {n:Int},j≤2→jl 16 (.tuple #[tl j m,.int .i64 n])=true:=fun h=>KF (all2 (Yq h fun _ _=>rfl) rfl)
 obtain ⟨S0,b1,b2,b3,b4⟩:=adi t zx.empty
 have c1:=zM.v t S0
 have ld:=ZV b2
 cases hR:Zp t with
 | false =>
  rw [hR] at c1
  have e:kH l t=(61,l):=by unfold kH;rw [hR];rfl
  conv at hr =>
   rhs
   rw [hTe]
   simp only [zy.code,zy.rs,zSs,reduceIte,zk,zn,zo,zq,b1,ld,c1,Bool.not_false,if_neg k2]
  rw [hTe] at hr
  rw [e]
  exact ⟨k,hk,fun S=>zy.runs hr (.inr rfl) (by simp only [List.getD_cons_succ,List.getD_cons_zero,qm,qA,yH,y5,qC]) rfl ca (cv hk.le)⟩
 | true =>
  rw [hR] at c1
  have ln:=fun S=>xP (S:=S) hk
  conv at hr =>
   rhs
   rw [hTe]
   simp only [zy.code,zy.rs,zSs,reduceIte,zk,zn,zo,zq,b1,ld,c1,Bool.not_true,if_neg k2,tl0,ln]
  generalize hL:yc (zG zi O false zy.je) _ _=r at hr
  obtain ⟨e,T1,S1,rfl,q1⟩:=zy.round hk k2 hl (t:=t) (p:=zx.empty.next) l [] hL rfl rfl rfl rfl rfl rfl rfl rfl rfl rfl b2 b4
  cases hD:QM l t with
  | true =>
   rw [hD,if_pos rfl] at q1
   obtain ⟨rfl,q2,q3⟩:=q1
   have e:kH l t=(91,l):=by unfold kH;rw [hR,hD];rfl
   conv at hr =>
    rhs
    simp only [zSs,reduceIte,zk,zn,zo,zq]
   rw [hTe] at hr
   rw [e]
   have hh:=fun S=>zy.runs (S:=S) hr (.inr rfl) (by rw [q2];exact qm) (by rw [q3];rfl) ca (by rw [q2,q3];exact cv hk.le)
   rw [q2,q3] at hh
   exact ⟨k,hk,hh⟩
  | false =>
   rw [hD,if_neg (by decide)] at q1
   obtain ⟨rfl,q2,q3,q4,q5,q6,q7⟩:=q1
   have hT1:=zy.eta q2
   rw [q3,q4,q5,q6] at hT1
   have ld1:=ZV q7
   have le:=KD l t
   by_cases hin:qo l t < l.length
   ·
    rw [decide_eq_true hin] at hT1
    have oe:vY l t=l.take (qo l t)++t::l.drop (qo l t):=by unfold vY;rw [if_pos hin]
    have ol:(vY l t).length=l.length+1:=by rw [oe];simp;omega
    have e:kH l t=(0,(vY l t).take 16):=by unfold kH adb;rw [hR,hD,oe];simp [show ¬ qo l t=16 by omega]
    have lo:=fun S=>xP (S:=S) (k:=1) (l:=vY l t) Okl.read
    rw [e]
    by_cases h16:(16:Int) < ((vY l t).length:Int)
    ·
     have sl:∀ S,kX zi 23 (tl 1 (vY l t)) none (some (.int .i64 16)) S=some (tl 1 ((vY l t).take 16),S):=fun S=>by
      rw [acz Okl.read (i:=0) (j:=16) rfl rfl (by omega) (by omega) (by omega)]
      simp
     conv at hr =>
      rhs
      simp only [zSs,reduceIte,zk,zn,zo,zq]
      rw [hT1]
      simp only [zy.code,zy.rs,zSs,reduceIte,zk,zn,zo,zq,Bool.not_true,acG,lo,decide_eq_true h16,sl]
     rw [hTe] at hr
     exact ⟨1,Okl.read,fun S=>zy.runs hr (.inr rfl) (by simp only [List.getD_cons_succ,List.getD_cons_zero,qm,qA,yH,y5,qC]) rfl ca (cv (j:=1) (m:=(vY l t).take 16) (n:=0) (by decide))⟩
    ·
     have et:(vY l t).take 16=vY l t:=List.take_of_length_le (by omega)
     rw [et]
     conv at hr =>
      rhs
      simp only [zSs,reduceIte,zk,zn,zo,zq]
      rw [hT1]
      simp only [zy.code,zy.rs,zSs,reduceIte,zk,zn,zo,zq,Bool.not_true,acG,lo,decide_eq_false h16]
     rw [hTe] at hr
     exact ⟨2,Okl.own,fun S=>zy.runs hr (.inr rfl) (by simp only [List.getD_cons_succ,List.getD_cons_zero,qm,qA,yH,y5,qC]) rfl ca (cv (j:=2) (m:=vY l t) (n:=0) (by decide))⟩
   ·
    rw [decide_eq_false hin] at hT1
    have oe:vY l t=l:=by unfold vY;rw [if_neg hin]
    rw [oe] at hT1
    have pe:qo l t=l.length:=by omega
    by_cases h16:(16:Int)≤(l.length:Int)
    ·
     have e:kH l t=(91,l):=by unfold kH;rw [hR,hD];simp [show qo l t=16 by omega]
     conv at hr =>
      rhs
      simp only [zSs,reduceIte,zk,zn,zo,zq]
      rw [hT1]
      simp only [zy.code,zy.rs,zSs,reduceIte,zk,zn,zo,zq,Bool.not_false,if_neg k2,ln,decide_eq_true h16]
     rw [hTe] at hr
     rw [e]
     exact ⟨k,hk,fun S=>zy.runs hr (.inr rfl) (by simp only [List.getD_cons_succ,List.getD_cons_zero,qm,qA,yH,y5,qC]) rfl ca (cv hk.le)⟩
    ·
     have e:kH l t=(0,l++[t]):=by
      unfold kH adb
      rw [hR,hD,pe,List.take_length,List.drop_length,List.take_of_length_le (by simp;omega)]
      simp [show ¬ l.length=16 by omega]
     have bs:∀ S,jd zi 23 1 [(0,tv t)] S=some (tl 2 [t],S):=fun S=>by kernel_rfl
     have ap:=fun S=>ZQ (S:=S) (k:=2) (l:=l) (t:=t) Okl.own (by decide) (by omega)
     have lo:∀ S,xI zi 23 (tl 1 (l++[t])) S=some (.int .i64 (l.length+1:Nat),S):=fun S=>by rw [xP Okl.read];simp
     have h17:¬ (16:Int) < ((l.length+1:Nat):Int):=by omega
     conv at hr =>
      rhs
      simp only [zSs,reduceIte,zk,zn,zo,zq]
      rw [hT1]
      simp only [zy.code,zy.rs,zSs,reduceIte,zk,zn,zo,zq,Bool.not_false,if_neg k2,ln,decide_eq_false h16,ld1,bs,ap,acG,lo,decide_eq_false h17]
     rw [hTe] at hr
     rw [e]
     exact ⟨2,Okl.own,fun S=>zy.runs hr (.inr rfl) (by simp only [List.getD_cons_succ,List.getD_cons_zero,qm,qA,yH,y5,qC]) rfl ca (cv (j:=2) (m:=l++[t]) (n:=0) (by decide))⟩
theorem ae0 {k:Nat} {l pre suf:List Int} {n:Int} {S:zx} (hk:Okl k l) (hpre:l=pre++n::suf):zZ zi 38 (iz k l) (.int .i64 pre.length) S=some (EP [.int .i64 n],S):=by
 have hd:(pre.length:Int) < (l.length:Int):=by rw [hpre];simp;omega
 rw [aeb hk (by omega) hd];rw [J6 hpre]
section
variable {ks:Nat} {skip:List Int} {many:Int} (hks:Okl ks skip) (hsl:skip.length≤17592186044416)
include hks hsl
theorem zA.aeT {b0 b7 b14 b15 b16:Value}:∀ (suf pre:List Int) {T:List Value} {r:St} {S:zx},yc (zG zi O false zA.je) T S=r→T.length=48 →
  T.getD 0 zh=b0→T.getD 1 zh=.int .i64 many→T.getD 2 zh=iz ks skip→T.getD 7 zh=b7→T.getD 9 zh=.pointer (some ⟨p,0,none⟩)→T.getD 10 zh=.bool (pre.any fun n=>decide (n=t.id))→T.getD 14 zh=b14→T.getD 15 zh=b15→T.getD 16 zh=b16→T.getD 20 zh=iz ks skip→T.getD 21 zh=.int .i64 skip.length→T.getD 22 zh=.int .i64 pre.length→skip=pre++suf→S.get p=some (.cells (fT t) (.own []) 0) →
  ∃ T',r=some (.exit 2,T',S)∧T'.length=48∧T'.getD 0 zh=b0∧T'.getD 1 zh=.int .i64 many∧T'.getD 2 zh=iz ks skip∧T'.getD 7 zh=b7∧T'.getD 9 zh=.pointer (some ⟨p,0,none⟩)∧T'.getD 10 zh=.bool (inT skip t)∧T'.getD 14 zh=b14∧T'.getD 15 zh=b15∧T'.getD 16 zh=b16:=by
 intro suf
 induction suf with
 | nil =>
  intro pre T r S hL hT h0 h1 h2 h7 h9 h10 h14 h15 h16 h20 h21 h22 hpre hp
  have hTe:=zA.eta hT
  rw [h0,h1,h2,h7,h9,h10,h14,h15,h16,h20,h21,h22] at hTe
  have hr:zG zi O false zA.je T S=zG zi O false zA.je T S:=rfl
  have d1:¬ (pre.length:Int) < (skip.length:Int):=by rw [hpre];simp
  conv at hr =>
   rhs
   rw [hTe]
   simp only [zA.je,zA.code,zA.rs,zSs,reduceIte,zk,zn,zo,zq,d1]
  have e:(pre.any fun n=>decide (n=t.id))=inT skip t:=by
   rw [hpre,List.append_nil]
   unfold inT
   congr 1
   funext n
   rw [Bool.eq_iff_iff];simp [eq_comm]
  exact ⟨_,hL.symm.trans (jF hr (by simp)),rfl,rfl,rfl,rfl,rfl,rfl,by rw [← e];rfl,rfl,rfl,rfl⟩
 | cons n suf ih =>
  intro pre T r S hL hT h0 h1 h2 h7 h9 h10 h14 h15 h16 h20 h21 h22 hpre hp
  have hTe:=zA.eta hT
  rw [h0,h1,h2,h7,h9,h10,h14,h15,h16,h20,h21,h22] at hTe
  have hr:zG zi O false zA.je T S=zG zi O false zA.je T S:=rfl
  have hll:skip.length=pre.length+suf.length+1:=by rw [hpre];simp;omega
  have d1:(pre.length:Int) < (skip.length:Int):=by omega
  have e1:=fun S=>ae0 (S:=S) hks hpre
  have ea:((pre++[n]).any fun n=>decide (n=t.id))=((pre.any fun n=>decide (n=t.id)) || decide (n=t.id)):=by simp
  have wi:IntKind.i64.wrap ((pre.length:Int)+1)=((pre++[n]).length:Int):=by rw [wrap_i64 (by omega) (by omega)];simp
  cases hb:(pre.any fun n=>decide (n=t.id)) with
  | true =>
   rw [hb] at hTe ea
   conv at hr =>
    rhs
    rw [hTe]
    simp only [zA.je,zA.code,zA.rs,zSs,reduceIte,zk,zn,zo,zq,d1,e1,ZF,wi]
   have hs3:=(jy hr).symm.trans hL
   exact ih (pre++[n]) hs3 rfl rfl rfl rfl rfl rfl (by rw [ea];rfl) rfl rfl rfl rfl rfl rfl (by rw [hpre];simp) hp
  | false =>
   rw [hb] at hTe ea
   conv at hr =>
    rhs
    rw [hTe]
    simp only [zA.je,zA.code,zA.rs,zSs,reduceIte,zk,zn,zo,zq,d1,e1,ZF,jI,kN hp,wi]
   have hs3:=(jy hr).symm.trans hL
   exact ih (pre++[n]) hs3 rfl rfl rfl rfl rfl rfl (by rw [ea,Bool.false_or];rfl) rfl rfl rfl rfl rfl rfl (by rw [hpre];simp) hp
variable (ks2:ks≠2)
include ks2
theorem zA.round (hk:Okl k l) (hl:l.length≤17592186044416) (hl2:l.length≤8796093022000):∀ (suf pre:List TxV) {T:List Value} {r:St} {S:zx} {out:List TxV},yc (zG zi O false zA.Wn) T S=r→T.length=48 →
  T.getD 1 zh=.int .i64 many→T.getD 2 zh=iz ks skip→T.getD 7 zh=tl 2 out→T.getD 14 zh=tl k l→T.getD 15 zh=.int .i64 l.length→T.getD 16 zh=.int .i64 pre.length→l=pre++suf→out.length≤pre.length →
  ∃ T' S',r=some (.exit 0,T',S')∧T'.length=48∧T'.getD 7 zh=tl 2 (vO many skip suf out):=by
 intro suf
 induction suf with
 | nil =>
  intro pre T r S out hL hT h1 h2 h7 h14 h15 h16 hpre ho
  have hTe:=zA.eta hT
  rw [h1,h2,h7,h14,h15,h16] at hTe
  have hr:zG zi O false zA.Wn T S=zG zi O false zA.Wn T S:=rfl
  have d1:¬ (pre.length:Int) < (l.length:Int):=by rw [hpre];simp
  conv at hr =>
   rhs
   rw [hTe]
   simp only [zA.Wn,zA.code,zA.rs,zSs,reduceIte,zk,zn,zo,zq,d1]
  exact ⟨_,_,hL.symm.trans (jF hr (by simp)),rfl,rfl⟩
 | cons x suf ih =>
  intro pre T r S out hL hT h1 h2 h7 h14 h15 h16 hpre ho
  have hTe:=zA.eta hT
  rw [h1,h2,h7,h14,h15,h16] at hTe
  have hr:zG zi O false zA.Wn T S=zG zi O false zA.Wn T S:=rfl
  have hll:l.length=pre.length+suf.length+1:=by rw [hpre];simp;omega
  have d1:(pre.length:Int) < (l.length:Int):=by omega
  have e1:=fun S=>XD (S:=S) hk hpre
  obtain ⟨S1,n1,n2,n3,n4⟩:=adA S x
  have al:=adR S
  have lns:∀ S,xI zi 38 (iz ks skip) S=some (.int .i64 skip.length,S):=fun S=>VU hks
  have wi:IntKind.i64.wrap ((pre.length:Int)+1)=((pre++[x]).length:Int):=by rw [wrap_i64 (by omega) (by omega)];simp
  have lo:=fun S=>xP (S:=S) (k:=1) (l:=out) Okl.read
  have bs:∀ S,jd zi 23 1 [(0,tv x)] S=some (tl 2 [x],S):=fun S=>by kernel_rfl
  have ap:=fun S=>ZQ (S:=S) (k:=2) (l:=out) (t:=x) Okl.own (by decide) (by omega)
  conv at hr =>
   rhs
   rw [hTe]
   simp only [zA.Wn,zA.code,zA.rs,zSs,reduceIte,zk,zn,zo,zq,d1,e1,qQ,al,n1,if_neg ks2,lns]
  generalize hL2:yc (zG zi O false zA.je) _ _=r2 at hr
  obtain ⟨T2,rfl,w1,w2,w3,w4,w5,w6,w7,w8,w9,w10⟩:=zA.aeT hks hsl (many:=many) (t:=x) (p:=S.next) (b0:=T.getD 0 zh) (b7:=tl 2 out) (b14:=tl k l) (b15:=.int .i64 l.length) (b16:=.int .i64 pre.length) skip [] hL2 rfl rfl rfl rfl rfl rfl rfl rfl rfl rfl rfl rfl rfl rfl n2
  have hT2:=zA.eta w1
  rw [w2,w3,w4,w5,w6,w7,w8,w9,w10] at hT2
  have go:∀ {out3:List TxV},(if decide ((out.length:Int) < many) && !inT skip x then out++[x] else out)=out3→∀ {T3:List Value},yc (zG zi O false zA.Wn) T3 S1=r→T3.length=48→T3.getD 1 zh=.int .i64 many→T3.getD 2 zh=iz ks skip→T3.getD 7 zh=tl 2 out3 →
    T3.getD 14 zh=tl k l→T3.getD 15 zh=.int .i64 l.length→T3.getD 16 zh=.int .i64 ((pre++[x]).length:Nat)→out3.length≤(pre++[x]).length→∃ T' S',r=some (.exit 0,T',S')∧T'.length=48∧T'.getD 7 zh=tl 2 (vO many skip (x::suf) out):=by
   intro out3 h3 T3 hL3 hT3 q1 q2 q7 q14 q15 q16 ho3
   obtain ⟨T',S',w1,w2,w3⟩:=ih (pre++[x]) hL3 hT3 q1 q2 q7 q14 q15 q16 (by rw [hpre];simp) ho3
   rw [← h3] at w3
   exact ⟨T',S',w1,w2,w3⟩
  cases hI:inT skip x with
  | true =>
   rw [hI] at hT2
   conv at hr =>
    rhs
    simp only [zSs,reduceIte,zk,zn,zo,zq]
    rw [hT2]
    simp only [zA.code,zA.rs,zSs,reduceIte,zk,zn,zo,zq,Bool.not_true,wi]
   have hs3:=(jy hr).symm.trans hL
   exact go (out3:=out) (by rw [hI];simp) hs3 rfl rfl rfl rfl rfl rfl rfl (by simp;omega)
  | false =>
   rw [hI] at hT2
   by_cases hm:(out.length:Int) < many
   ·
    conv at hr =>
     rhs
     simp only [zSs,reduceIte,zk,zn,zo,zq]
     rw [hT2]
     simp only [zA.code,zA.rs,zSs,reduceIte,zk,zn,zo,zq,Bool.not_false,acG,lo,decide_eq_true hm,ZV n2,bs,ap,wi]
    have hs3:=(jy hr).symm.trans hL
    exact go (out3:=out++[x]) (by rw [hI];simp [hm]) hs3 rfl rfl rfl rfl rfl rfl rfl (by simp;omega)
   ·
    conv at hr =>
     rhs
     simp only [zSs,reduceIte,zk,zn,zo,zq]
     rw [hT2]
     simp only [zA.code,zA.rs,zSs,reduceIte,zk,zn,zo,zq,Bool.not_false,acG,lo,decide_eq_false hm,wi]
    have hs3:=(jy hr).symm.trans hL
    exact go (out3:=out) (by rw [hI];simp [hm]) hs3 rfl rfl rfl rfl rfl rfl rfl (by simp;omega)
theorem zA.v (hk:Okl k l) (k2:k≠2) (hl:l.length≤16) (S:zx):zT zi O zA.id [tl k l,.int .i64 many,iz ks skip] S=some (tl 2 (xq l many skip),S):=by
 obtain ⟨T,hTe⟩:∃ T,T=(tl k l::.int .i64 many::iz ks skip::zh::zh::zh::zh::zh::zh::zh::zh::zh::zh::zh::zh::zh::zh::zh::zh::zh::zh::zh::zh::zh::zh::zh::zh::zh::zh::zh::zh::zh::zh::zh::zh::zh::zh::zh::zh::zh::zh::zh::zh::zh::zh::zh::zh::zh::[]):=⟨_,rfl⟩
 have hr:zG zi O false zA.code T zx.empty=zG zi O false zA.code T zx.empty:=rfl
 have ln:=fun S=>xP (S:=S) hk
 conv at hr =>
  rhs
  rw [hTe]
  simp only [zA.code,zA.rs,zSs,reduceIte,zk,zn,zo,zq,if_neg k2,tl0,ln]
 generalize hL:yc (zG zi O false zA.Wn) _ _=r at hr
 obtain ⟨T1,S1,rfl,q1,q2⟩:=zA.round hks hsl ks2 hk (by omega) (by omega) (many:=many) l [] (out:=[]) hL rfl rfl rfl rfl rfl rfl rfl rfl (by simp)
 have hT1:=zA.eta q1
 rw [q2] at hT1
 conv at hr =>
  rhs
  simp only [zSs,reduceIte,zk,zn,zo,zq]
  rw [hT1]
  simp only [zA.code,zA.rs,zSs,reduceIte,zk,zn,zo,zq]
 rw [hTe] at hr
 exact zA.runs hr (.inr rfl) (afI (YQ hk.le) rfl (Yq hks.le fun _ _=>rfl)) (YQ (k:=2) (l:=vO many skip l []) (by decide))
theorem zQ.v (hk:Okl k l) (k2:k≠2) (hl:l.length≤16) (S:zx):zT zi O zQ.id [tl k l,iz ks skip] S=some (tl 2 (J5 l skip),S):=by
 obtain ⟨T,hTe⟩:∃ T,T=(tl k l::iz ks skip::zh::zh::zh::zh::zh::zh::zh::zh::[]):=⟨_,rfl⟩
 have hr:zG zi O false zQ.code T S=zG zi O false zQ.code T S:=rfl
 have ln:=fun S=>xP (S:=S) hk
 have c1:=fun S=>zA.v hks hsl ks2 hk k2 hl (many:=l.length) S
 have e:xq l l.length skip=J5 l skip:=by
  rw [abU,Int.toNat_natCast];exact List.take_of_length_le (List.length_filter_le _ _)
 rw [e] at c1
 conv at hr =>
  rhs
  rw [hTe]
  simp only [zQ.code,zQ.rs,zSs,reduceIte,zk,zn,zo,zq,if_neg k2,if_neg ks2,ln,c1]
 rw [hTe] at hr
 exact zQ.runs hr (.inr rfl)
end
end
end Go.Proofs.Ytacbgjhmkhjpoaa
namespace Go.Proofs.Ytacbgjhmkhjpoaa
open Go.Abs
theorem aee {S0 S:zx} {q:Nat} {l:List TxV} (h:PS S0 S q l) (t:TxV):∃ S1,zT zi O zC.id [.pointer (some ⟨q,0,none⟩),tv t] S=some (.int .i64 (kH l t).1,S1)∧PS S0 S1 q (kH l t).2∧Jo q S S1:=by
 obtain ⟨fp,h1,h2,h3,h4⟩:=h
 obtain ⟨S1,fp',e1,e2,e3,e4⟩:=zC.v h1 t
 exact ⟨S1,e1,PS.of h1 h2 h3 h4 e2 e3 e4,h1.stay e4⟩
theorem aci {S0 S:zx} {q:Nat} {l:List TxV} (h:PS S0 S q l) {k:Nat} {ids:List Int} (hk:Okl k ids) (k2:k≠2) (hl:ids.length≤17592186044416):∃ v S1,zT zi O zV.id [.pointer (some ⟨q,0,none⟩),iz k ids] S=some (v,S1)∧PS S0 S1 q (J5 l ids)∧Jo q S S1:=by
 obtain ⟨fp,h1,h2,h3,h4⟩:=h
 obtain ⟨v,S1,fp',e1,e2,e3,e4⟩:=zV.v h1 hk k2 hl
 exact ⟨v,S1,e1,PS.of h1 h2 h3 h4 e2 (fun x hx=>.inl (e3 x hx)) e4,h1.stay e4⟩
namespace mempoolRuns
structure XQ where
 kind:Int
 t:TxV
 k:Nat
 ids:List Int
structure XQ.Ok (a:XQ):Prop where
 okl:Okl a.k a.ids
 ne:a.k≠2
 le:a.ids.length≤17592186044416
def fA (a:XQ):List Value:=[.int .i64 a.kind,.int .i64 a.t.id,.int .i64 a.t.fee,iz a.k a.ids]
abbrev av (a:XQ):Value:=.agg [Value.int .i64 a.kind,.int .i64 a.t.id,.int .i64 a.t.fee,iz a.k a.ids].toArray
theorem aeL (a:XQ):(fA a).length=4:=rfl
abbrev aeh:Ty:=.pair (.int .i64) (.pair tTx (.pair (.slc 8 (.int .i64)) .unit))
theorem aec (x:(Ty.slc 48 aeh).Val) (hg:(Ty.slc 48 aeh).Good x):∃ k l,Okl k l∧k≠2∧(Ty.slc 48 aeh).Ja x=[vs fA 4 k l]∧l.length * 48≤140737488351232∧∀ t ∈ l,t.Ok :=
 aeI (b:=48) (e:=aeh) fA XQ.Ok (fun x hx=>by
  obtain ⟨a,b,c,u⟩:=x
  obtain ⟨h1,h2,h3,_⟩:=hx
  obtain ⟨t,t1,t2⟩:=afi b h2
  obtain ⟨k,l,p1,p2,p3,p4,p5⟩:=aaw c h3
  refine ⟨⟨a,t,k,l⟩,?_,p1,p2,by show l.length≤_;omega⟩
  show [Value.int .i64 a]++(tTx.Ja b++((Ty.slc 8 (.int .i64)).Ja c++[]))=_
  rw [p3,t1];rfl) (fun _=>rfl) x hg
abbrev az:XQ:=⟨0,⟨0,0⟩,0,[]⟩
theorem aeZ (S:zx):qJ zi 40 S=some (.pointer (some ⟨S.next,0,none⟩),S.push (.cells (fA az) (.own []) 0)):=by kernel_rfl
theorem afh (a:XQ):(fA a).all (·.oneCell')=true:=by
 simp only [fA,List.all_cons,List.all_nil,adZ,afc,Bool.and_true]
theorem aeB (a:XQ) (S:zx):∃ S2,qE zi 40 (.pointer (some ⟨S.next,0,none⟩)) (av a) (S.push (.cells (fA az) (.own []) 0))=some (zh,S2)∧S2.get S.next=some (.cells (fA a) (.own []) 0)∧Ext S S2∧S.next < S2.next :=
 JI S (by rw [xA,List.toList_toArray];rfl) yO rfl (afh a)
section
variable {S:zx} {q:Nat} {a:XQ}
theorem ld0 (h:S.get q=some (.cells (fA a) (.own []) 0)):jf zi false 3 (.pointer (some ⟨q,0+0,none⟩)) S=some (.int .i64 a.kind,S):=wY (t:=3) (o:=0+0) h vN rfl
theorem ld1 (h:S.get q=some (.cells (fA a) (.own []) 0)):jf zi false 30 (.pointer (some ⟨q,0+1,none⟩)) S=some (tv a.t,S):=by
 rw [YU (o:=0+1) h xU jw (by simp [fA])]
 show some (Value.agg (([Value.int .i64 a.t.id,.int .i64 a.t.fee]).toArray.map qP),S)=_
 rw [List.map_toArray]
 simp only [List.map_cons,List.map_nil,abV]
theorem ld3 (h:S.get q=some (.cells (fA a) (.own []) 0)) (hk:a.k≠2):jf zi false 38 (.pointer (some ⟨q,0+3,none⟩)) S=some (iz a.k a.ids,S):=by
 rw [Ji (o:=0+3) h abn rfl (fun l h=>by unfold iz vs sv at h;split at h <;> cases h)]
 show some (dem (iz a.k a.ids),S)=_
 rw [XG,if_neg hk]
end
def codes:List (Bool×Ty):=[(false,.slc 48 aeh),(false,.int .i64),(false,.slc 8 (.int .i64))]
theorem coded:WW zi 9 [37,3,38]=some codes:=by kernel_rfl
section
variable {many:Int} {ks:Nat} {skip:List Int} {q:Nat}
theorem round {k:Nat} {l:List XQ} (hk:Okl k l) (hl:l.length≤100) (hg:∀ t ∈ l,t.Ok) {S0:zx}:∀ (suf pre:List XQ) {T:List Value} {r:St} {S:zx} {pl:List TxV} {kw:Nat},yc (zG zi O false zu.je) T S=r→T.length=70 →
  T.getD 1 zh=.int .i64 many→T.getD 2 zh=iz ks skip→T.getD 7 zh=.pointer (some ⟨q,0,none⟩)→T.getD 8 zh=tl kw pl→T.getD 21 zh=vs fA 4 k l→T.getD 22 zh=.int .i64 l.length→T.getD 23 zh=.int .i64 pre.length→l=pre++suf→PS S0 S q pl→Okl kw pl →
  ∃ T' S' pl' kw',r=some (.exit 0,T',S')∧T'.length=70∧T'.getD 1 zh=.int .i64 many∧T'.getD 2 zh=iz ks skip∧T'.getD 7 zh=.pointer (some ⟨q,0,none⟩)∧T'.getD 8 zh=tl kw' pl'∧PS S0 S' q pl'∧Okl kw' pl':=by
 intro suf
 induction suf with
 | nil =>
  intro pre T r S pl kw hL hT h1 h2 h7 h8 h21 h22 h23 hpre hP hkw
  have hTe:=zu.eta hT
  rw [h1,h2,h7,h8,h21,h22,h23] at hTe
  have hr:zG zi O false zu.je T S=zG zi O false zu.je T S:=rfl
  have d1:¬ (pre.length:Int) < (l.length:Int):=by rw [hpre];simp
  conv at hr =>
   rhs
   rw [hTe]
   simp only [zu.je,zu.code,zu.rs,zSs,reduceIte,zk,zn,zo,zq,d1]
  exact ⟨_,_,pl,kw,hL.symm.trans (jF hr (by simp)),rfl,rfl,rfl,rfl,rfl,hP,hkw⟩
 | cons a suf ih =>
  intro pre T r S pl kw hL hT h1 h2 h7 h8 h21 h22 h23 hpre hP hkw
  have hTe:=zu.eta hT
  rw [h1,h2,h7,h8,h21,h22,h23] at hTe
  have hr:zG zi O false zu.je T S=zG zi O false zu.je T S:=rfl
  have hll:l.length=pre.length+suf.length+1:=by rw [hpre];simp;omega
  have d1:(pre.length:Int) < (l.length:Int):=by omega
  have ha:=hg a (by rw [hpre];simp)
  have ne:¬ a.k=2:=ha.ne
  have e1:∀ S,zZ zi 37 (vs fA 4 k l) (.int .i64 pre.length) S=some (EP [.int .i64 a.kind,.int .i64 a.t.id,.int .i64 a.t.fee,iz a.k a.ids],S):=fun S=>by
   rw [ab8 qG yO aeL hk (by omega) d1,aaI hpre];rfl
  have wi:IntKind.i64.wrap ((pre.length:Int)+1)=((pre++[a]).length:Int):=by rw [wrap_i64 (by omega) (by omega)];simp
  obtain ⟨S1,n1,n2,n3,n4⟩:=aeB a S
  have al:=aeZ S
  have P1:=hP.ext n3
  have hq:S.next≠q:=by have:=hP.lt;omega
  have ne2:=vS kw
  by_cases hk1:a.kind=1
  ·
   have cp:∀ S,yE zi 38 38 (iz 2 []) (iz a.k a.ids) S=some (iz 2 a.ids,S):=fun S=>adN ha.okl ha.le
   obtain ⟨v,S2,a2,p2,st⟩:=aci P1 (Okl.read (l:=a.ids)) (by decide) ha.le
   have n5:S2.get S.next=some (.cells (fA a) (.own []) 0):=(st.2 _ _ _ hq n4 n2).trans n2
   have c2:=fun S=>zQ.v ha.okl ha.le ne hkw.dem ne2 hP.len S
   have dn:=(PS.len p2)
   obtain ⟨i3,i4,i5,a6⟩:=aaB p2
   have sm:∀ S,zT zi O 15 [tl (if i3=2 then 1 else i3) (J5 pl a.ids),tl 1 (J5 pl a.ids)] S=some (.bool true,S):=fun S=>by
    have:=zB.v i4.dem (Okl.read (l:=J5 pl a.ids)) (vS i3) (by decide) (by omega) S
    rwa [decide_eq_true rfl] at this
   conv at hr =>
    rhs
    rw [hTe]
    simp only [zu.je,zu.code,zu.rs,zSs,reduceIte,zk,zn,zo,zq,d1,e1,qI,al,n1,qg,kZ,ld0 n2,decide_eq_true hk1,bz0,ld3 n2 ne,cp,acG,a2,ld3 n5 ne,if_neg ne,c2,a6,sm,Bool.not_true,wi]
   have hs3:=(jy hr).symm.trans hL
   exact ih (pre++[a]) hs3 rfl rfl rfl rfl rfl rfl rfl rfl (by rw [hpre];simp) p2 Okl.own
  ·
   obtain ⟨S2,a2,p2,st⟩:=aee P1 a.t
   have n5:S2.get S.next=some (.cells (fA a) (.own []) 0):=(st.2 _ _ _ hq n4 n2).trans n2
   obtain ⟨k3,hk3,c2⟩:=zy.v hkw.dem ne2 hP.len a.t
   have dn:=(PS.len p2)
   obtain ⟨i3,i4,i5,a6⟩:=aaB p2
   have sm:∀ S,zT zi O 15 [tl (if i3=2 then 1 else i3) (kH pl a.t).2,tl (if k3=2 then 1 else k3) (kH pl a.t).2] S=some (.bool true,S):=fun S=>by
    have:=zB.v i4.dem hk3.dem (vS i3) (vS k3) (by omega) S
    rwa [decide_eq_true rfl] at this
   generalize (kH pl a.t).1=er at *
   generalize (kH pl a.t).2=pl2 at *
   conv at hr =>
    rhs
    rw [hTe]
    simp only [zu.je,zu.code,zu.rs,zSs,reduceIte,zk,zn,zo,zq,d1,e1,qI,al,n1,qg,xg,ld0 n2,decide_eq_false hk1,acG,ld1 n2,a2,ld1 n5,c2,a6,sm,Bool.not_true,wi]
   have hs3:=(jy hr).symm.trans hL
   exact ih (pre++[a]) hs3 rfl rfl rfl rfl rfl rfl rfl rfl (by rw [hpre];simp) p2 hk3
variable (hks:Okl ks skip) (ks2:ks≠2) (hsl:skip.length≤17592186044416)
include hks ks2 hsl
theorem run {k:Nat} {l:List XQ} (hk:Okl k l) (k2:k≠2) (hg:∀ t ∈ l,t.Ok) (hl:l.length * 48≤140737488351232) (S:zx):∃ S',zT zi O 7 [vs fA 4 k l,.int .i64 many,iz ks skip] S=some (.bool true,S'):=by
 obtain ⟨T,hTe⟩:∃ T,T=(vs fA 4 k l::.int .i64 many::iz ks skip::zh::zh::zh::zh::zh::zh::zh::zh::zh::zh::zh::zh::zh::zh::zh::zh::zh::zh::zh::zh::zh::zh::zh::zh::zh::zh::zh::zh::zh::zh::zh::zh::zh::zh::zh::zh::zh::zh::zh::zh::zh::zh::zh::zh::zh::zh::zh::zh::zh::zh::zh::zh::zh::zh::zh::zh::zh::zh::zh::zh::zh::zh::zh::zh::zh::zh::zh::[]):=⟨_,rfl⟩
 have hr:zG zi O false zu.code T S=zG zi O false zu.code T S:=rfl
 obtain ⟨S1,a1,f1⟩:=zF.v S
 have ln:∀ S,xI zi 37 (vs fA 4 k l) S=some (.int .i64 l.length,S):=fun S=>Xe qG hk
 by_cases h100:l.length≤100
 case neg =>
  have d1:(100:Int) < (l.length:Int):=by omega
  refine ⟨S1,?_⟩
  conv at hr =>
   rhs
   rw [hTe]
   simp only [zu.code,zu.rs,zSs,reduceIte,zk,zn,zo,zq,if_neg k2,a1,Bool.not_true,ln,d1]
  rw [hTe] at hr
  exact zu.runs hr (.inr rfl)
 have d1:¬ (100:Int) < (l.length:Int):=by omega
 obtain ⟨S2,a2,p2⟩:=acS S1
 conv at hr =>
  rhs
  rw [hTe]
  simp only [zu.code,zu.rs,zSs,reduceIte,zk,zn,zo,zq,if_neg k2,a1,Bool.not_true,ln,d1,a2,tl0]
 generalize hL:yc (zG zi O false zu.je) _ _=r at hr
 obtain ⟨T1,S3,pl,kw,rfl,w1,w2,w3,w4,w5,w6,w7⟩:=round hk h100 hg (many:=many) (ks:=ks) (skip:=skip) (q:=S1.next) l [] hL rfl rfl rfl rfl rfl rfl rfl rfl rfl p2 (Okl.own (l:=[]))
 have hT1:=zu.eta w1
 rw [w2,w3,w4,w5] at hT1
 obtain ⟨j,S4,a4,j1,j2,p4⟩:=aan (many:=many) w6 hks ks2 hsl
 have c2:=fun S=>zA.v hks hsl ks2 w7.dem (vS kw) w6.len (many:=many) S
 have hxl:=aaX pl many skip
 have hpl:=w6.len
 have sm:∀ S,zT zi O 15 [tl (if j=2 then 1 else j) (xq pl many skip),tl 1 (xq pl many skip)] S=some (.bool true,S):=fun S=>by
  have:=zB.v j1.dem (Okl.read (l:=xq pl many skip)) (vS j) (by decide) (by omega) S
  rwa [decide_eq_true rfl] at this
 conv at hr =>
  rhs
  simp only [zSs,reduceIte,zk,zn,zo,zq]
  rw [hT1]
  simp only [zu.code,zu.rs,zSs,reduceIte,zk,zn,zo,zq,if_neg ks2,acG,a4,c2,sm]
 rw [hTe] at hr
 exact ⟨_,zu.runs hr (.inr rfl)⟩
end
theorem law (x:Args codes) (h:Args.Good codes x):∃ k,(kE zi k 7 (Args.place codes x zx.empty).1 (Args.place codes x zx.empty).2).map (·.1)=some (.bool true):=by
 obtain ⟨a,b,c,u⟩:=x
 obtain ⟨h1,h2,h3,_⟩:=h
 obtain ⟨k,l,p1,p2,p3,p4,p5⟩:=aec a h1
 obtain ⟨ks,skip,q1,q2,q3,q4,q5⟩:=aaw c h3
 obtain ⟨S',e⟩:=run (many:=b) q1 q2 (by omega) p1 p2 p5 p4 zx.empty
 refine KL aeK (S':=S') ?_
 have e2:Args.Ja codes (a,b,c,u)=[vs fA 4 k l,.int .i64 b,iz ks skip]:=by
  show [xE false ((Ty.slc 48 aeh).Ja a),_,xE false ((Ty.slc 8 (.int .i64)).Ja c)]=_
  rw [p3,q3];rfl
 rw [e2]
 exact e
end mempoolRuns
end Go.Proofs.Ytacbgjhmkhjpoaa
namespace Go.Proofs.Ytacbgjhmkhjpoaa.mempoolRuns
open Go.ChangeShapes Go.WideShapes Go.ChangeAt Go.RowKit Go.Abs
theorem own:ownKnob zi.godebug=none:=by kernel_rfl
theorem laidOut:laidOutB zi=true:=by kernel_rfl
theorem mixes:zi.follows .mixedOrders=true:=by kernel_rfl
set_option maxRecDepth 100000 in
theorem lifted (os:Os) (started:os.Started) (H:Type) (enc:TypeId×Value→H) :
  ReturnsInHanded {} Try.checked os 7 .any (Rows.mempoolRunsSpec.pre6 enc zi Try.f7 Rows.mempoolRunsRow.domain false) (Rows.mempoolRunsSpec.post enc zi Try.f7 false true false false):=by
 refine returnsInHanded_of_change_sized (C:=Try.checked) own started (by kernel_rfl) Try.func7
  (ChangeSpec.witness6 (enc:=enc) (C:=Try.checked) false ⟨#[],#[.slice none 0 0,.int .i64 0,.slice none 0 0],[]⟩ 8 (by kernel_rfl) (by kernel_rfl) (by kernel_rfl) (by kernel_rfl)) ?_
 intro W base args ds gs before hval0 hW hcnd hsz0 _
 have hW':=hW
 obtain ⟨p,q,hA0,hV,rfl,hfz,hnd⟩:=hW
 obtain ⟨rfl,rfl⟩:=trodVars_none hV
 have hsz1:(DataW.weightsEach zi (Try.f7.params.toList++Rows.mempoolRunsSpec.plain.varTypes zi) (ds++[])).all (·≤reachBytes)=true:=hsz0
 have hval:∀ (j:Nat) t v,Try.f7.params[j]?=some t→args[j]?=some v→Value.okWide zi W .any base t v:=hval0
 have hA1:DataW.TrodAll enc zi W 0 (fun _=>true) true Try.f7.params.toList args.toList ds p:=hA0
 rw [Try.params7] at hA1 hsz1 hval
 have hA:DataW.TrodAll enc zi W 0 (fun _=>true) true [37,3,38] args.toList ds p:=hA1
 have hsz:(DataW.weightsEach zi [37,3,38] ds).all (·≤reachBytes)=true:=by rw [List.append_nil ds] at hsz1;exact hsz1
 clear hA0 hA1 hval0 hsz0 hsz1
 have r:=hA
 obtain ⟨v0,vs0,d0,ds0,p0,q0,hargs0,rfl,hp0,h0,r0⟩:=trodAll_cons r
 obtain ⟨v1,vs1,d1,ds1,p1,q1,hargs1,rfl,hp1,h1,r1⟩:=trodAll_cons r0
 obtain ⟨v2,vs2,d2,ds2,p2,q2,hargs2,rfl,hp2,h2,r2⟩:=trodAll_cons r1
 obtain ⟨_,rfl,_⟩:=trodAll_nil r2
 refine (V5 mixes coded law hA (fun j t v h1 h2=>hval j t v (by rw [List.getElem?_toArray];exact h1) h2) hsz).mono fun e W' ⟨he,bel⟩=>?_
 subst he
 exact ⟨_,rfl,_,_,_,[],_,[],hW',trodAll_mk1 (shut_bool (by kernel_rfl) _),abX laidOut bel _ _ _ _ (by kernel_rfl) hA,rfl,bel.frame _,fun h=>by cases h⟩
theorem over:Rows.mempoolRunsRow.holds Try.pinned (OpenSpec.ofChange Rows.mempoolRunsSpec) :=
 OpenClaim.holds_of_wide 7 Try.f7 rfl rfl rfl rfl rfl rfl rfl ⟨rfl,rfl,rfl,rfl,rfl⟩ rfl rfl rfl rfl rfl (by kernel_rfl) Try.func7 (by kernel_rfl)
  (of_decide_eq_true (by kernel_rfl)) (by unfold Func.isWrapper;first | (rw [if_pos (by decide +kernel)];kernel_rfl) | (rw [if_neg (by decide +kernel)];exact ⟨rfl,rfl⟩))
  (fun os started H enc _=>lifted os started H enc)
theorem proved:Rows.MempoolRunsSaid:=over
end Go.Proofs.Ytacbgjhmkhjpoaa.mempoolRuns
namespace Go.Proofs.Ytacbgjhmkhjpoaa
theorem mempoolRuns_holds:Rows.MempoolRunsSaid:=mempoolRuns.proved
#print axioms mempoolRuns_holds
end Go.Proofs.Ytacbgjhmkhjpoaa
