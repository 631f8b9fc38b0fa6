/-
The law FetchRuns returns true for every input, and leaves it as it was; no condition. Part 4 of 4 of the texts (put together by a program: own names are short, what isn't needed is left out).
-/
import Derived.Test.YtpjglojnipjgfaaZFetchRuns3
import Derived.Test.YtpjglojnipjgfaaChecked
import Derived.KernelRfl
import Derived.Test.YtpjglojnipjgfaaRows
import Derived.WalkKit
import Derived.ProofKit
import Derived.OpenShut
import Derived.ShutString
import Derived.ChangeOld
import Derived.Below
import Derived.SizedLaws
import Derived.Carry
set_option linter.unusedVariables false
set_option linter.unusedSimpArgs false
set_option maxRecDepth 100000
open Go renaming undef → zh
open Go.Proofs.Try renaming prog → zi
open Nat renaming reduceEqDiff → zk
open Int renaming reduceEq → zn
open Int renaming reduceLT → zo
open Int renaming reduceLE → zq
namespace Go.Proofs.Ytpjglojnipjgfaa
open Go.Abs
abbrev zK.id:FuncId:=10
noncomputable def zK.code:Code:=(.seq (.region 0 (reg Try.f10 0) false) (.seq (.seq (.region 1 (reg Try.f10 1) false) (.cond (.tmp 21) (.seq (.region 2 (reg Try.f10 2) false) Code.ret) Code.skip)) (.seq (.region 3 (reg Try.f10 3) false) (.seq (.region 4 (reg Try.f10 4) false) Code.ret))))
theorem zK.body:Try.f10.body=some zK.code:=by kernel_rfl
variable (b c G H Q J K L M N d f g i k l m n o p q r s t u w x y z A B C D:Value) (S:zy)
theorem zK.r0 :jk zi ⟨true,false,false⟩ (jM O.hp true (zU zi O)) (reg Try.f10 0) (reg Try.f10 0).toList ([b,c,G,H,Q,J,K,L,M,N,d,f,g,i,k,l,m,n,o,p,q,r,s,t,u,w,x,y,z,A,B,C,D]) S =
  ( some ([b,c,G,H,Value.bool false,J,K,L,M,N,d,f,g,i,k,l,m,n,o,p,q,r,s,t,u,w,x,y,z,A,B,C,D],S)):=by
 kernel_rfl
theorem zK.r1 :jk zi ⟨true,false,false⟩ (jM O.hp true (zU zi O)) (reg Try.f10 1) (reg Try.f10 1).toList ([b,c,G,H,Q,J,K,L,M,N,d,f,g,i,k,l,m,n,o,p,q,r,s,t,u,w,x,y,z,A,B,C,D]) S =
  (zM (vN (zU zi O) 19 [(dem (dem c))] S) (fun v1 P=>zM (wB zi BinOp.eql 3 v1 (.int .i64 0) P) (fun F S2=>gdK (dem F) false (ret b) S2 (fun U S3=>gdK (dem F) false (vN (zU zi O) 18 [(dem (dem U))]) S3 (fun v5 S4=>gdK (dem F) false (ret c) S4 (fun V S5=>gdK (dem F) false (vN (zU zi O) 20 [(dem v5),(dem (dem V))]) S5 (fun W S6=>zM (qJ (dem F) (Value.bool true) W S6) (fun E S7=>gdK (dem E) false (ret b) S7 (fun I S8=>gdK (dem E) false (jH (dem I)) S8 (fun R S9=>gdK (dem E) false (zI zi 60 R 2) S9 (fun X a1=>gdK (dem E) false (zW zi false 58 X) a1 (fun Y a2=>gdK (dem E) false (xY zi 58 Y) a2 (fun Z a3=>gdK (dem E) false (wB zi BinOp.geq 3 Z (.int .i64 32)) a3 (fun a0 a4=>zM (qJ (dem E) (Value.bool true) a0 a4) (fun a5 a6=>some ([b,c,G,H,Q,dem c,v1,F,dem F,dem U,v5,dem V,W,E,dem E,dem I,R,X,Y,Z,a0,a5,s,t,u,w,x,y,z,A,B,C,D],a6)) ()) ()) ()) ()) ()) ()) ()) ()) ()) ()) ()) ()) ()) ()):=by
 refine sP Try.f10 1 0 (v:=c) ?_
 refine sD Try.f10 1 1 (fun v1 P=>?_)
 refine sD Try.f10 1 2 (fun F S2=>?_)
 refine sP Try.f10 1 3 (v:=F) ?_
 refine sG Try.f10 1 4 (j:=3) (fun U S3=>?_)
 refine sG Try.f10 1 5 (j:=3) (fun v5 S4=>?_)
 refine sG Try.f10 1 6 (j:=3) (fun V S5=>?_)
 refine sG Try.f10 1 7 (j:=3) (fun W S6=>?_)
 refine sD Try.f10 1 8 (fun E S7=>?_)
 refine sP Try.f10 1 9 (v:=E) ?_
 refine sG Try.f10 1 10 (j:=9) (fun I S8=>?_)
 refine sG Try.f10 1 11 (j:=9) (fun R S9=>?_)
 refine sG Try.f10 1 12 (j:=9) (fun X a1=>?_)
 refine sG Try.f10 1 13 (j:=9) (fun Y a2=>?_)
 refine sG Try.f10 1 14 (j:=9) (fun Z a3=>?_)
 refine sG Try.f10 1 15 (j:=9) (fun a0 a4=>?_)
 refine sD Try.f10 1 16 (fun a5 a6=>?_)
 kernel_rfl
theorem zK.r2 :jk zi ⟨true,false,false⟩ (jM O.hp true (zU zi O)) (reg Try.f10 2) (reg Try.f10 2).toList ([b,c,G,H,Q,J,K,L,M,N,d,f,g,i,k,l,m,n,o,p,q,r,s,t,u,w,x,y,z,A,B,C,D]) S =
  ( some ([b,c,G,H,Value.bool false,J,K,L,M,N,d,f,g,i,k,l,m,n,o,p,q,r,s,t,u,w,x,y,z,A,B,C,D],S)):=by
 kernel_rfl
theorem zK.r3 :jk zi ⟨true,false,false⟩ (jM O.hp true (zU zi O)) (reg Try.f10 3) (reg Try.f10 3).toList ([b,c,G,H,Q,J,K,L,M,N,d,f,g,i,k,l,m,n,o,p,q,r,s,t,u,w,x,y,z,A,B,C,D]) S =
  (zM (jH (dem b) S) (fun F P=>zM (zI zi 60 F 2 P) (fun v3 S2=>zM (zW zi false 58 v3 S2) (fun U S3=>zM (wK zi 64 [(0,(dem (dem c)))] S3) (fun V S4=>zM (jf zi 58 1 [(0,(dem V))] S4) (fun W S5=>zM (jW zi true 58 58 U W S5) (fun E S6=>zM (jH (dem b) S6) (fun v9 S7=>zM (zI zi 60 v9 2 S7) (fun I S8=>zM (jX zi 58 I (dem E) S8) (fun R S9=>some ([b,c,G,H,Q,J,K,L,M,N,d,f,g,i,k,l,m,n,o,p,q,r,dem b,dem b,F,v3,dem U,dem c,V,W,E,v9,I],S9)) ()) ()) ()) ()) ()) ()) ()) ()) ()):=by
 kernel_rfl
theorem zK.r4 :jk zi ⟨true,false,false⟩ (jM O.hp true (zU zi O)) (reg Try.f10 4) (reg Try.f10 4).toList ([b,c,G,H,Q,J,K,L,M,N,d,f,g,i,k,l,m,n,o,p,q,r,s,t,u,w,x,y,z,A,B,C,D]) S =
  ( some ([b,c,G,H,Value.bool true,J,K,L,M,N,d,f,g,i,k,l,m,n,o,p,q,r,s,t,u,w,x,y,z,A,B,C,D],S)):=by
 kernel_rfl
theorem zK.rs:type_of% (afM @zK.r0 (afM @zK.r1 (afM @zK.r2 (afM @zK.r3 (@zK.r4))))):=afM @zK.r0 (afM @zK.r1 (afM @zK.r2 (afM @zK.r3 (@zK.r4))))
theorem zK.runs {b c:Value} {S P:zy} {e:AEx} {T:List Value} (h:zJ zi O true zK.code ([b,c,zh,zh,zh,zh,zh,zh,zh,zh,zh,zh,zh,zh,zh,zh,zh,zh,zh,zh,zh,zh,zh,zh,zh,zh,zh,zh,zh,zh,zh,zh,zh]) S=some (e,T,P)) (he:e=.normal∨e=.ret):zU zi O 10 [b,c] S=some (T.getD 4 zh,P) :=
 jS rfl rfl Try.func10 (by decide) zK.body (by exact h) he (wI (a:=T.getD 4 zh) ((show zN zi T P Try.f10.results.toList=zN zi T P [(ResultVar.tmp 4)] from by kernel_rfl).trans (by simp only [zN])) (by kernel_rfl))
end Go.Proofs.Ytpjglojnipjgfaa
namespace Go.Proofs.Ytpjglojnipjgfaa
open Go.Abs
abbrev zV.id:FuncId:=13
noncomputable def zV.code:Code:=(.seq (.region 0 (reg Try.f13 0) false) (.region 1 (reg Try.f13 1) false))
theorem zV.body:Try.f13.body=some zV.code:=by kernel_rfl
variable (a b j d k l m n o p f g i:Value) (S:zy)
theorem zV.r0 :jk zi ⟨false,false,false⟩ (zU zi O) (reg Try.f13 0) (reg Try.f13 0).toList ([a,b,j,d,k,l,m,n,o,p,f,g,i]) S =
  (zM (Yp (dem b) S) (fun w c=>some ([a,b,j,w,k,l,m,n,o,p,f,g,i],c)) ()):=by
 kernel_rfl
theorem zV.r1 :jk zi ⟨false,false,false⟩ (zU zi O) (reg Try.f13 1) (reg Try.f13 1).toList ([a,b,j,d,k,l,m,n,o,p,f,g,i]) S =
  (zM (jH (dem a) S) (fun q c=>zM (zI zi 60 q 2 c) (fun r x=>zM (zW zi false 58 r x) (fun s y=>zM ((zU zi O) 22 [(dem s),(Value.func (Fn.func 23) #[] #[(dem d)])] y) (fun t z=>zM (jH (dem a) z) (fun u A=>zM (zI zi 60 u 2 A) (fun v B=>zM (jX zi 58 v (dem t) B) (fun D C=>some ([a,b,j,d,dem a,dem a,q,r,s,Value.func (Fn.func 23) #[] #[(dem d)],t,u,v],C)) ()) ()) ()) ()) ()) ()) ()):=by
 kernel_rfl
theorem zV.rs:type_of% (afM @zV.r0 (@zV.r1)):=afM @zV.r0 (@zV.r1)
theorem zV.runs {a b:Value} {S c:zy} {e:AEx} {T:List Value} (h:zJ zi O false zV.code ([a,b,zh,zh,zh,zh,zh,zh,zh,zh,zh,zh,zh]) S=some (e,T,c)) (he:e=.normal∨e=.ret):zU zi O 13 [a,b] S=some (Value.tuple #[],c) :=
 jS rfl rfl Try.func13 (by decide) zV.body (by exact h) he rfl
end Go.Proofs.Ytpjglojnipjgfaa
namespace Go.Proofs.Ytpjglojnipjgfaa
open Go.Abs
abbrev zT.id:FuncId:=23
noncomputable def zT.code:Code:=(.seq (.region 0 (reg Try.f23 0) false) (.seq (.region 1 (reg Try.f23 1) false) Code.ret))
theorem zT.body:Try.f23.body=some zT.code:=by kernel_rfl
variable (b c f m i j k l:Value) (S:zy)
theorem zT.r0 :jk zi ⟨false,false,false⟩ (zU zi O) (reg Try.f23 0) (reg Try.f23 0).toList ([b,c,f,m,i,j,k,l]) S =
  (zM (Yp (dem b) S) (fun g d=>some ([b,c,g,Value.bool false,i,j,k,l],d)) ()):=by
 kernel_rfl
theorem zT.r1 :jk zi ⟨false,false,false⟩ (zU zi O) (reg Try.f23 1) (reg Try.f23 1).toList ([b,c,f,m,i,j,k,l]) S =
  (zM (zI zi 64 f 0 S) (fun g d=>zM (zW zi false 3 g d) (fun n q=>zM (zW zi false 3 c q) (fun o r=>zM (wB zi BinOp.eql 3 n o r) (fun p s=>some ([b,c,f,p,g,n,o,dem p],s)) ()) ()) ()) ()):=by
 kernel_rfl
theorem zT.rs:type_of% (afM @zT.r0 (@zT.r1)):=afM @zT.r0 (@zT.r1)
theorem zT.runs {b c:Value} {S d:zy} {e:AEx} {T:List Value} (h:zJ zi O false zT.code ([b,c,zh,zh,zh,zh,zh,zh]) S=some (e,T,d)) (he:e=.normal∨e=.ret):zU zi O 23 [b,c] S=some (T.getD 3 zh,d) :=
 jS rfl rfl Try.func23 (by decide) zT.body (by exact h) he (wI (a:=T.getD 3 zh) ((show zN zi T d Try.f23.results.toList=zN zi T d [(ResultVar.tmp 3)] from by kernel_rfl).trans (by simp only [zN])) (by kernel_rfl))
end Go.Proofs.Ytpjglojnipjgfaa
namespace Go.Proofs.Ytpjglojnipjgfaa
open Go.Abs
abbrev slices_IndexFunc.id:FuncId:=27
noncomputable def slices_IndexFunc.zY:Code:=(.seq (.region 2 (reg Try.f27 2) false) (.seq (.cond (.tmp 9) Code.skip (.exit 0)) (.seq (.block 1 (.seq (.region 3 (reg Try.f27 3) false) (.seq (.region 4 (reg Try.f27 4) false) (.cond (.tmp 16) (.seq (.region 5 (reg Try.f27 5) false) Code.ret) Code.skip)))) (.region 6 (reg Try.f27 6) false))))
noncomputable def slices_IndexFunc.code:Code:=(.seq (.region 0 (reg Try.f27 0) false) (.seq (.seq (.region 1 (reg Try.f27 1) false) (.block 0 (.loop slices_IndexFunc.zY))) (.seq (.region 7 (reg Try.f27 7) false) Code.ret)))
theorem slices_IndexFunc.body:Try.f27.body=some slices_IndexFunc.code:=by kernel_rfl
theorem slices_IndexFunc.eta {T:List Value} (h:T.length=19):T=[T.getD 0 zh,T.getD 1 zh,T.getD 2 zh,T.getD 3 zh,T.getD 4 zh,T.getD 5 zh,T.getD 6 zh,T.getD 7 zh,T.getD 8 zh,T.getD 9 zh,T.getD 10 zh,T.getD 11 zh,T.getD 12 zh,T.getD 13 zh,T.getD 14 zh,T.getD 15 zh,T.getD 16 zh,T.getD 17 zh,T.getD 18 zh]:=(yF T 19 h).trans (by kernel_rfl)
variable (b n q r v o t s p u c d f g i j k l m:Value) (S:zy)
theorem slices_IndexFunc.r0 :jk zi ⟨false,false,false⟩ (zU zi O) (reg Try.f27 0) (reg Try.f27 0).toList ([b,n,q,r,v,o,t,s,p,u,c,d,f,g,i,j,k,l,m]) S =
  ( some ([b,n,q,r,.int .i64 0,o,t,s,p,u,c,d,f,g,i,j,k,l,m],S)):=by
 kernel_rfl
theorem slices_IndexFunc.r1 :jk zi ⟨false,false,false⟩ (zU zi O) (reg Try.f27 1) (reg Try.f27 1).toList ([b,n,q,r,v,o,t,s,p,u,c,d,f,g,i,j,k,l,m]) S =
  (zM (xY zi 58 (dem b) S) (fun A w=>some ([b,n,q,r,v,o,dem b,A,.int .i64 0,u,c,d,f,g,i,j,k,l,m],w)) ()):=by
 kernel_rfl
theorem slices_IndexFunc.r2 :jk zi ⟨false,false,false⟩ (zU zi O) (reg Try.f27 2) (reg Try.f27 2).toList ([b,n,q,r,v,o,t,s,p,u,c,d,f,g,i,j,k,l,m]) S =
  (zM (wB zi BinOp.lss 3 p s S) (fun x w=>some ([b,n,q,r,v,o,t,s,p,x,c,d,f,g,i,j,k,l,m],w)) ()):=by
 kernel_rfl
theorem slices_IndexFunc.r3 :jk zi ⟨false,false,false⟩ (zU zi O) (reg Try.f27 3) (reg Try.f27 3).toList ([b,n,q,r,v,o,t,s,p,u,c,d,f,g,i,j,k,l,m]) S =
  ( some ([b,n,q,r,v,p,t,s,dem p,u,dem p,d,f,g,i,j,k,l,m],S)):=by
 kernel_rfl
theorem slices_IndexFunc.r4 :jk zi ⟨false,false,false⟩ (zU zi O) (reg Try.f27 4) (reg Try.f27 4).toList ([b,n,q,r,v,o,t,s,p,u,c,d,f,g,i,j,k,l,m]) S =
  (zM (zO zi 58 (dem b) (dem o) S) (fun y w=>zM (zW zi false 64 y w) (fun z B=>zM (afg (zU zi O) (dem n) [(dem z)] B) (fun C D=>some ([b,n,q,r,v,o,t,s,p,u,c,dem n,dem b,dem o,y,z,C,l,m],D)) ()) ()) ()):=by
 kernel_rfl
theorem slices_IndexFunc.r5 :jk zi ⟨false,false,false⟩ (zU zi O) (reg Try.f27 5) (reg Try.f27 5).toList ([b,n,q,r,v,o,t,s,p,u,c,d,f,g,i,j,k,l,m]) S =
  ( some ([b,n,q,r,o,dem o,t,s,p,u,c,d,f,g,i,j,k,dem o,m],S)):=by
 kernel_rfl
theorem slices_IndexFunc.r6 :jk zi ⟨false,false,false⟩ (zU zi O) (reg Try.f27 6) (reg Try.f27 6).toList ([b,n,q,r,v,o,t,s,p,u,c,d,f,g,i,j,k,l,m]) S =
  (zM (wB zi BinOp.add 3 p (.int .i64 1) S) (fun x w=>some ([b,n,q,r,v,o,t,s,dem x,u,c,d,f,g,i,j,k,l,x],w)) ()):=by
 kernel_rfl
theorem slices_IndexFunc.r7 :jk zi ⟨false,false,false⟩ (zU zi O) (reg Try.f27 7) (reg Try.f27 7).toList ([b,n,q,r,v,o,t,s,p,u,c,d,f,g,i,j,k,l,m]) S =
  ( some ([b,n,q,r,.int .i64 (-1),o,t,s,p,u,c,d,f,g,i,j,k,l,m],S)):=by
 kernel_rfl
theorem slices_IndexFunc.rs:type_of% (afM @slices_IndexFunc.r0 (afM @slices_IndexFunc.r1 (afM @slices_IndexFunc.r2 (afM @slices_IndexFunc.r3 (afM @slices_IndexFunc.r4 (afM @slices_IndexFunc.r5 (afM @slices_IndexFunc.r6 (@slices_IndexFunc.r7)))))))):=afM @slices_IndexFunc.r0 (afM @slices_IndexFunc.r1 (afM @slices_IndexFunc.r2 (afM @slices_IndexFunc.r3 (afM @slices_IndexFunc.r4 (afM @slices_IndexFunc.r5 (afM @slices_IndexFunc.r6 (@slices_IndexFunc.r7)))))))
theorem slices_IndexFunc.runs {b n:Value} {S w:zy} {e:AEx} {T:List Value} (h:zJ zi O false slices_IndexFunc.code ([b,n,zh,zh,zh,zh,zh,zh,zh,zh,zh,zh,zh,zh,zh,zh,zh,zh,zh]) S=some (e,T,w)) (he:e=.normal∨e=.ret):zU zi O 27 [b,n] S=some (T.getD 4 zh,w) :=
 jS rfl rfl Try.func27 (by decide) slices_IndexFunc.body (by exact h) he (wI (a:=T.getD 4 zh) ((show zN zi T w Try.f27.results.toList=zN zi T w [(ResultVar.tmp 4)] from by kernel_rfl).trans (by simp only [zN])) (by kernel_rfl))
end Go.Proofs.Ytpjglojnipjgfaa
namespace Go.Proofs.Ytpjglojnipjgfaa
open Go.Abs
abbrev slices_DeleteFunc.id:FuncId:=22
noncomputable def slices_DeleteFunc.zY:Code:=(.seq (.seq (.region 5 (reg Try.f22 5) false) (.cond (.tmp 19) Code.skip (.exit 0))) (.seq (.block 1 (.seq (.region 7 (reg Try.f22 7) false) (.seq (.region 8 (reg Try.f22 8) false) (.cond (.tmp 29) (.seq (.region 9 (reg Try.f22 9) false) (.region 10 (reg Try.f22 10) false)) Code.skip)))) (.region 6 (reg Try.f22 6) false)))
noncomputable def slices_DeleteFunc.code:Code:=(.seq (.region 0 (reg Try.f22 0) false) (.seq (.region 1 (reg Try.f22 1) false) (.seq (.seq (.region 2 (reg Try.f22 2) false) (.cond (.tmp 12) (.seq (.region 3 (reg Try.f22 3) false) Code.ret) Code.skip)) (.seq (.seq (.region 4 (reg Try.f22 4) false) (.block 0 (.loop slices_DeleteFunc.zY))) (.seq (.region 11 (reg Try.f22 11) false) (.seq (.region 12 (reg Try.f22 12) false) Code.ret))))))
theorem slices_DeleteFunc.body:Try.f22.body=some slices_DeleteFunc.code:=by kernel_rfl
theorem slices_DeleteFunc.eta {T:List Value} (h:T.length=42):T=[T.getD 0 zh,T.getD 1 zh,T.getD 2 zh,T.getD 3 zh,T.getD 4 zh,T.getD 5 zh,T.getD 6 zh,T.getD 7 zh,T.getD 8 zh,T.getD 9 zh,T.getD 10 zh,T.getD 11 zh,T.getD 12 zh,T.getD 13 zh,T.getD 14 zh,T.getD 15 zh,T.getD 16 zh,T.getD 17 zh,T.getD 18 zh,T.getD 19 zh,T.getD 20 zh,T.getD 21 zh,T.getD 22 zh,T.getD 23 zh,T.getD 24 zh,T.getD 25 zh,T.getD 26 zh,T.getD 27 zh,T.getD 28 zh,T.getD 29 zh,T.getD 30 zh,T.getD 31 zh,T.getD 32 zh,T.getD 33 zh,T.getD 34 zh,T.getD 35 zh,T.getD 36 zh,T.getD 37 zh,T.getD 38 zh,T.getD 39 zh,T.getD 40 zh,T.getD 41 zh]:=(yF T 42 h).trans (by kernel_rfl)
variable (b L P Q W K M N U V c d f g i j k l m n o p q r s t u v w x y z A B C D E F G H I J:Value) (S:zy)
theorem slices_DeleteFunc.r0 :jk zi ⟨true,false,false⟩ (jM O.hp true (zU zi O)) (reg Try.f22 0) (reg Try.f22 0).toList ([b,L,P,Q,W,K,M,N,U,V,c,d,f,g,i,j,k,l,m,n,o,p,q,r,s,t,u,v,w,x,y,z,A,B,C,D,E,F,G,H,I,J]) S =
  ( some ([b,L,P,Q,Value.slice none 0 0,K,M,N,U,V,c,d,f,g,i,j,k,l,m,n,o,p,q,r,s,t,u,v,w,x,y,z,A,B,C,D,E,F,G,H,I,J],S)):=by
 kernel_rfl
theorem slices_DeleteFunc.r1 :jk zi ⟨true,false,false⟩ (jM O.hp true (zU zi O)) (reg Try.f22 1) (reg Try.f22 1).toList ([b,L,P,Q,W,K,M,N,U,V,c,d,f,g,i,j,k,l,m,n,o,p,q,r,s,t,u,v,w,x,y,z,A,B,C,D,E,F,G,H,I,J]) S =
  (zM (vN (zU zi O) 27 [(dem (dem b)),(dem (dem L))] S) (fun X R=>some ([b,L,P,Q,W,X,M,N,dem b,dem L,dem X,d,f,g,i,j,k,l,m,n,o,p,q,r,s,t,u,v,w,x,y,z,A,B,C,D,E,F,G,H,I,J],R)) ()):=by
 kernel_rfl
theorem slices_DeleteFunc.r2 :jk zi ⟨true,false,false⟩ (jM O.hp true (zU zi O)) (reg Try.f22 2) (reg Try.f22 2).toList ([b,L,P,Q,W,K,M,N,U,V,c,d,f,g,i,j,k,l,m,n,o,p,q,r,s,t,u,v,w,x,y,z,A,B,C,D,E,F,G,H,I,J]) S =
  (zM (wB zi BinOp.eql 3 (dem K) (.int .i64 (-1)) S) (fun Y R=>some ([b,L,P,Q,W,K,M,N,U,V,c,dem K,Y,g,i,j,k,l,m,n,o,p,q,r,s,t,u,v,w,x,y,z,A,B,C,D,E,F,G,H,I,J],R)) ()):=by
 kernel_rfl
theorem slices_DeleteFunc.r3 :jk zi ⟨true,false,false⟩ (jM O.hp true (zU zi O)) (reg Try.f22 3) (reg Try.f22 3).toList ([b,L,P,Q,W,K,M,N,U,V,c,d,f,g,i,j,k,l,m,n,o,p,q,r,s,t,u,v,w,x,y,z,A,B,C,D,E,F,G,H,I,J]) S =
  ( some ([dem b,L,P,Q,b,K,M,N,U,V,c,d,f,dem b,i,j,k,l,m,n,o,p,q,r,s,t,u,v,w,x,y,z,A,B,C,D,E,F,G,H,I,J],S)):=by
 kernel_rfl
theorem slices_DeleteFunc.r4 :jk zi ⟨true,false,false⟩ (jM O.hp true (zU zi O)) (reg Try.f22 4) (reg Try.f22 4).toList ([b,L,P,Q,W,K,M,N,U,V,c,d,f,g,i,j,k,l,m,n,o,p,q,r,s,t,u,v,w,x,y,z,A,B,C,D,E,F,G,H,I,J]) S =
  (zM (wB zi BinOp.add 3 (dem K) (.int .i64 1) S) (fun Y R=>some ([b,L,P,Q,W,K,Y,N,U,V,c,d,f,g,dem K,dem Y,k,l,m,n,o,p,q,r,s,t,u,v,w,x,y,z,A,B,C,D,E,F,G,H,I,J],R)) ()):=by
 kernel_rfl
theorem slices_DeleteFunc.r5 :jk zi ⟨true,false,false⟩ (jM O.hp true (zU zi O)) (reg Try.f22 5) (reg Try.f22 5).toList ([b,L,P,Q,W,K,M,N,U,V,c,d,f,g,i,j,k,l,m,n,o,p,q,r,s,t,u,v,w,x,y,z,A,B,C,D,E,F,G,H,I,J]) S =
  (zM (xY zi 58 (dem b) S) (fun X R=>zM (wB zi BinOp.lss 3 (dem M) X R) (fun Z S2=>some ([b,L,P,Q,W,K,M,N,U,V,c,d,f,g,i,j,dem M,dem b,X,Z,o,p,q,r,s,t,u,v,w,x,y,z,A,B,C,D,E,F,G,H,I,J],S2)) ()) ()):=by
 kernel_rfl
theorem slices_DeleteFunc.r7 :jk zi ⟨true,false,false⟩ (jM O.hp true (zU zi O)) (reg Try.f22 7) (reg Try.f22 7).toList ([b,L,P,Q,W,K,M,N,U,V,c,d,f,g,i,j,k,l,m,n,o,p,q,r,s,t,u,v,w,x,y,z,A,B,C,D,E,F,G,H,I,J]) S =
  (zM (zO zi 58 (dem b) (dem M) S) (fun X R=>zM (zW zi false 64 X R) (fun Z S2=>zM (ql zi 64 S2) (fun v4 S3=>zM (jX zi 64 v4 (dem Z) S3) (fun v5 S4=>some ([b,L,P,Q,W,K,M,v4,U,V,c,d,f,g,i,j,k,l,m,n,o,p,dem b,dem M,X,Z,u,v,w,x,y,z,A,B,C,D,E,F,G,H,I,J],S4)) ()) ()) ()) ()):=by
 kernel_rfl
theorem slices_DeleteFunc.r8 :jk zi ⟨true,false,false⟩ (jM O.hp true (zU zi O)) (reg Try.f22 8) (reg Try.f22 8).toList ([b,L,P,Q,W,K,M,N,U,V,c,d,f,g,i,j,k,l,m,n,o,p,q,r,s,t,u,v,w,x,y,z,A,B,C,D,E,F,G,H,I,J]) S =
  (zM (zW zi false 64 N S) (fun Y R=>zM (afg (jM O.hp true (zU zi O)) (dem L) [(dem Y)] R) (fun X S2=>zM (aUn zi UnOp.not X S2) (fun Z S3=>some ([b,L,P,Q,W,K,M,N,U,V,c,d,f,g,i,j,k,l,m,n,o,p,q,r,s,t,dem L,Y,X,Z,y,z,A,B,C,D,E,F,G,H,I,J],S3)) ()) ()) ()):=by
 kernel_rfl
theorem slices_DeleteFunc.r9 :jk zi ⟨true,false,false⟩ (jM O.hp true (zU zi O)) (reg Try.f22 9) (reg Try.f22 9).toList ([b,L,P,Q,W,K,M,N,U,V,c,d,f,g,i,j,k,l,m,n,o,p,q,r,s,t,u,v,w,x,y,z,A,B,C,D,E,F,G,H,I,J]) S =
  (zM (zW zi false 64 N S) (fun X R=>zM (zO zi 58 (dem b) (dem K) R) (fun Z S2=>zM (jX zi 64 Z (dem X) S2) (fun v4 S3=>some ([b,L,P,Q,W,K,M,N,U,V,c,d,f,g,i,j,k,l,m,n,o,p,q,r,s,t,u,v,w,x,dem b,dem K,X,Z,C,D,E,F,G,H,I,J],S3)) ()) ()) ()):=by
 kernel_rfl
theorem slices_DeleteFunc.r10 :jk zi ⟨true,false,false⟩ (jM O.hp true (zU zi O)) (reg Try.f22 10) (reg Try.f22 10).toList ([b,L,P,Q,W,K,M,N,U,V,c,d,f,g,i,j,k,l,m,n,o,p,q,r,s,t,u,v,w,x,y,z,A,B,C,D,E,F,G,H,I,J]) S =
  (zM (wB zi BinOp.add 3 (dem K) (.int .i64 1) S) (fun Y R=>some ([b,L,P,Q,W,Y,M,N,U,V,c,d,f,g,i,j,k,l,m,n,o,p,q,r,s,t,u,v,w,x,y,z,A,B,dem K,dem Y,E,F,G,H,I,J],R)) ()):=by
 kernel_rfl
theorem slices_DeleteFunc.r6 :jk zi ⟨true,false,false⟩ (jM O.hp true (zU zi O)) (reg Try.f22 6) (reg Try.f22 6).toList ([b,L,P,Q,W,K,M,N,U,V,c,d,f,g,i,j,k,l,m,n,o,p,q,r,s,t,u,v,w,x,y,z,A,B,C,D,E,F,G,H,I,J]) S =
  (zM (wB zi BinOp.add 3 (dem M) (.int .i64 1) S) (fun Y R=>some ([b,L,P,Q,W,K,Y,N,U,V,c,d,f,g,i,j,k,l,m,n,dem M,dem Y,q,r,s,t,u,v,w,x,y,z,A,B,C,D,E,F,G,H,I,J],R)) ()):=by
 kernel_rfl
theorem slices_DeleteFunc.r11 :jk zi ⟨true,false,false⟩ (jM O.hp true (zU zi O)) (reg Try.f22 11) (reg Try.f22 11).toList ([b,L,P,Q,W,K,M,N,U,V,c,d,f,g,i,j,k,l,m,n,o,p,q,r,s,t,u,v,w,x,y,z,A,B,C,D,E,F,G,H,I,J]) S =
  (zM (yP zi false 58 (dem b) (some (dem K)) none S) (fun X R=>zM (Yl zi 58 X R) (fun Z S2=>some ([b,L,P,Q,W,K,M,N,U,V,c,d,f,g,i,j,k,l,m,n,o,p,q,r,s,t,u,v,w,x,y,z,A,B,C,D,dem b,dem K,X,H,I,J],S2)) ()) ()):=by
 kernel_rfl
theorem slices_DeleteFunc.r12 :jk zi ⟨true,false,false⟩ (jM O.hp true (zU zi O)) (reg Try.f22 12) (reg Try.f22 12).toList ([b,L,P,Q,W,K,M,N,U,V,c,d,f,g,i,j,k,l,m,n,o,p,q,r,s,t,u,v,w,x,y,z,A,B,C,D,E,F,G,H,I,J]) S =
  (zM (yP zi false 58 (dem b) none (some (dem K)) S) (fun X R=>some ([b,L,P,Q,X,K,M,N,U,V,c,d,f,g,i,j,k,l,m,n,o,p,q,r,s,t,u,v,w,x,y,z,A,B,C,D,E,F,G,dem b,dem K,dem X],R)) ()):=by
 kernel_rfl
theorem slices_DeleteFunc.rs:type_of% (afM @slices_DeleteFunc.r0 (afM @slices_DeleteFunc.r1 (afM @slices_DeleteFunc.r2 (afM @slices_DeleteFunc.r3 (afM @slices_DeleteFunc.r4 (afM @slices_DeleteFunc.r5 (afM @slices_DeleteFunc.r7 (afM @slices_DeleteFunc.r8 (afM @slices_DeleteFunc.r9 (afM @slices_DeleteFunc.r10 (afM @slices_DeleteFunc.r6 (afM @slices_DeleteFunc.r11 (@slices_DeleteFunc.r12))))))))))))):=afM @slices_DeleteFunc.r0 (afM @slices_DeleteFunc.r1 (afM @slices_DeleteFunc.r2 (afM @slices_DeleteFunc.r3 (afM @slices_DeleteFunc.r4 (afM @slices_DeleteFunc.r5 (afM @slices_DeleteFunc.r7 (afM @slices_DeleteFunc.r8 (afM @slices_DeleteFunc.r9 (afM @slices_DeleteFunc.r10 (afM @slices_DeleteFunc.r6 (afM @slices_DeleteFunc.r11 (@slices_DeleteFunc.r12))))))))))))
theorem slices_DeleteFunc.runs {b L:Value} {S R:zy} {e:AEx} {T:List Value} (h:zJ zi O true slices_DeleteFunc.code ([b,L,zh,zh,zh,zh,zh,zh,zh,zh,zh,zh,zh,zh,zh,zh,zh,zh,zh,zh,zh,zh,zh,zh,zh,zh,zh,zh,zh,zh,zh,zh,zh,zh,zh,zh,zh,zh,zh,zh,zh,zh]) S=some (e,T,R)) (he:e=.normal∨e=.ret):zU zi O 22 [b,L] S=some (T.getD 4 zh,R) :=
 jS rfl rfl Try.func22 (by decide) slices_DeleteFunc.body (by exact h) he (wI (a:=T.getD 4 zh) ((show zN zi T R Try.f22.results.toList=zN zi T R [(ResultVar.tmp 4)] from by kernel_rfl).trans (by simp only [zN])) (by kernel_rfl))
end Go.Proofs.Ytpjglojnipjgfaa
namespace Go.Abs
open Go.RowKit
theorem ae1 {b:Nat} {e:Ty} {α:Type} (f:α→List Value) (Q:α→Prop) (h:∀ x,e.Good x→∃ y,e.Jq x=f y∧Q y) (hf:∀ y,(f y).length=e.sz) (x:(Ty.slc b e).Val) (hg:(Ty.slc b e).Good x) :
  ∃ k l,Okl k l∧k≠2∧(Ty.slc b e).Jq x=[vs f e.sz k l]∧l.length * b≤140737488351232∧∀ y ∈ l,Q y:=by
 match x,hg with
 | none,_=>exact ⟨0,[],Okl.none,by decide,rfl,by simp,fun y hy=>by cases hy⟩
 | some xs,hg =>
  obtain ⟨h1,h2,h3⟩:=hg
  have key:∀ xs:List e.Val,(∀ n ∈ xs,e.Good n)→∃ l:List α,xs.flatMap e.Jq=l.flatMap f∧l.length=xs.length∧∀ y ∈ l,Q y:=by
   intro xs
   induction xs with
   | nil=>intro _;exact ⟨[],rfl,rfl,fun y hy=>by cases hy⟩
   | cons n xs ih =>
    intro hn
    obtain ⟨y,hy,hq⟩:=h n (hn n (by simp))
    obtain ⟨l,k1,k2,k3⟩:=ih (fun m hm=>hn m (by simp [hm]))
    refine ⟨y::l,by rw [List.flatMap_cons,List.flatMap_cons,hy,k1],by simp [k2],fun z hz=>?_⟩
    rcases List.mem_cons.1 hz with rfl | hz
    ·
     exact hq
    ·
     exact k3 z hz
  obtain ⟨l,k1,k2,k3⟩:=key xs h3
  refine ⟨1,l,Okl.read,by decide,?_,by rw [k2];exact h1,k3⟩
  show [SL 1 e.sz (List.length xs) (List.flatMap e.Jq xs)]=[_]
  unfold vs
  rw [sv1,k1,k2]
theorem WC {cs xs:List Value} (h:cs.length=xs.length):splice cs 0 xs=xs:=by
 unfold splice
 rw [List.take_zero,List.nil_append,Nat.zero_add,← h,List.drop_length,List.append_nil]
theorem aeI {k e n:Nat} {cs:List Value}:(sv k e n cs).oneCell'=true:=by unfold sv;split <;> rfl
theorem W9 {α:Type} {f:α→List Value} {e k:Nat} {l:List α}:(vs f e k l).oneCell'=true:=aeI
theorem Zl {P:Program} {t:TypeId} {z xs:List Value} {x:Value} (S:zy) (hx:x.cells.toList=xs) (hs:qg P t=some z.length) (hl:xs.length=z.length) (h1:xs.all (·.oneCell')=true) :
  ∃ S2,jX P t (.pointer (some ⟨S.next,0,none⟩)) x (S.push (.cells z (.own []) 0))=some (zh,S2)∧S2.get S.next=some (.cells xs (.own []) 0)∧Ext S S2∧S.next < S2.next:=by
 have hg:(S.push (.cells z (.own []) 0)).get S.next=some (.cells z (.own []) 0):=by rw [zy.zZ,if_pos rfl]
 refine ⟨_,wY hg hs (by rw [← Array.length_toList,hx,hl]) (by rw [hx];exact h1) (by simp),?_,(Ext.push S _).set (Nat.le_refl _) _,by simp [zy.kills]⟩
 rw [zy.ji,if_pos rfl,hx,WC hl.symm]
theorem ac0 (x:Value) (S:zy):∃ S2,Yp x S=some (.pointer (some ⟨S.next,0,none⟩),S2)∧S2.get S.next=some (.cells x.cells.toList (.own []) 0)∧Ext S S2∧S.next < S2.next :=
 ⟨_,rfl,by rw [zy.zZ,if_pos rfl],Ext.push _ _,by simp⟩
end Go.Abs
namespace Go.Abs
open Go.RowKit
abbrev ms (q n:Nat):Value:=.slice (some ⟨q,0,none⟩) n n
theorem acK {P:Program} {O:Ora} {g:FuncId} {args:List Value} {S:zy} {r:Option (Value×zy)} (h:zU P O g args S=r) (ha:args.all (fun x=>!vT x)=true):vN (zU P O) g args S=r:=(XC ha).trans h
theorem KD {α:Type} {f:α→List Value} {e q:Nat} {l:List α} {rest:List Value} {anc:List Nat} {S:zy} (hf:∀ x,(f x).length=e) (hg:S.get q=some (.cells (l.flatMap f++rest) (.own anc) e)) :
  xk (ms q l.length) S=some (vs f e 1 l,S.set q .dead):=by
 have hl:=jD hf l
 rw [VQ hg (by rw [List.length_append,hl];omega),List.drop_zero,← hl,List.take_left]
 rfl
theorem Qp {x y:Value} {args:List Value} {S S1:zy} (h:xk x S=some (y,S1)) (ha:args.all (fun x=>!vT x)=true):qZ (x::args) S=some (y::args,S1):=by
 simp only [qZ,h,ZW ha]
section
variable {P:Program} {O:Ora} {α:Type} {f:α→List Value} {e q:Nat} {l:List α} {rest:List Value} {anc:List Nat} {S:zy}
end
end Go.Abs
namespace Go.Abs
open Go.RowKit
def Fr (fp:List Nat) (S S1:zy):Prop:=S.next≤S1.next∧∀ p,p < S.next→p ∉ fp→S1.get p=S.get p
theorem Fr.refl (fp:List Nat) (S:zy):Fr fp S S:=⟨Nat.le_refl _,fun _ _ _=>rfl⟩
theorem Fr.ext {fp:List Nat} {S S1:zy} (h:Ext S S1):Fr fp S S1:=⟨h.next,fun p hp _=>h.get p hp⟩
theorem Fr.trans {fp fp2:List Nat} {S S1 S2:zy} (h:Fr fp S S1) (k:Fr fp2 S1 S2) (hs:∀ x ∈ fp2,x ∈ fp∨S.next≤x):Fr fp S S2:=⟨Nat.le_trans h.1 k.1,fun p hp hn=>by
 rw [k.2 p (Nat.lt_of_lt_of_le hp h.1) (fun hx=>(hs p hx).elim hn (fun h=>by omega)),h.2 p hp hn]⟩
theorem Fr.set {fp:List Nat} {S S1:zy} (h:Fr fp S S1) {r:Nat} (hr:r ∈ fp∨S.next≤r) (o:wR):Fr fp S (S1.set r o):=⟨h.1,fun p hp hn=>by
 rw [zy.ji,if_neg (fun e=>by subst e;exact hr.elim hn (fun h=>by omega))];exact h.2 p hp hn⟩
theorem Fr.kills {fp:List Nat} {S S1:zy} (h:Fr fp S S1) {l:List Nat} (hl:∀ x ∈ l,x ∈ fp∨S.next≤x):Fr fp S (S1.kills l):=⟨by rw [zy.ZR];exact h.1,fun p hp hn=>by
 rw [zy.qX,if_neg (fun e=>(hl p e).elim hn (fun h=>by omega))];exact h.2 p hp hn⟩
theorem Fr.push {fp:List Nat} {S S1:zy} (h:Fr fp S S1) (o:wR):Fr fp S (S1.push o):=⟨by simp;have:=h.1;omega,fun p hp hn=>by
 rw [zy.zZ,if_neg (by have:=h.1;omega)];exact h.2 p hp hn⟩
theorem Fr.more {fp fp2:List Nat} {S S1:zy} (h:Fr fp S S1) (hs:∀ x ∈ fp,x ∈ fp2∨S.next≤x):Fr fp2 S S1:=⟨h.1,fun p hp hn=>h.2 p hp (fun hx=>(hs p hx).elim hn (fun h=>by omega))⟩
def Many (S:zy) (x:Nat):Prop:=∀ cs own,S.get x≠some (.cells cs own 0)
def wU {α:Type} (f:α→List Value) (e:Nat) (S:zy) (a:Option Addr) (l:List α) (fp:List Nat):Prop :=
 (a=none∧l=[]∧fp=[])∨∃ r anc rest,a=some ⟨r,0,none⟩∧fp=r::anc∧S.get r=some (.cells (l.flatMap f++rest) (.own anc) e)∧∀ x ∈ fp,x < S.next∧Many S x
theorem vw {A B C D:List Value} {o:Nat} (h:o=A.length) (hl:B.length=C.length):splice (A++(B++D)) o C=A++(C++D):=by
 subst h
 unfold splice
 rw [List.take_left,← hl,List.drop_append,List.drop_eq_nil_of_le (by omega),List.nil_append,show A.length+B.length - A.length=B.length by omega,List.drop_left,List.append_assoc]
section
variable {α:Type} {f:α→List Value} {e:Nat} {S S1:zy} {a:Option Addr} {l:List α} {fp:List Nat}
theorem wU.keep (h:wU f e S a l fp) (hn:S.next≤S1.next) (hk:∀ x ∈ fp,S1.get x=S.get x):wU f e S1 a l fp:=by
 rcases h with h | ⟨r,anc,rest,h1,h2,h3,h4⟩
 ·
  exact .inl h
 ·
  refine .inr ⟨r,anc,rest,h1,h2,by rw [hk r (by rw [h2];simp)];exact h3,fun x hx=>⟨Nat.lt_of_lt_of_le (h4 x hx).1 hn,fun cs own=>by rw [hk x hx];exact (h4 x hx).2 cs own⟩⟩
theorem wU.lt (h:wU f e S a l fp):∀ x ∈ fp,x < S.next:=by
 rcases h with ⟨_,_,rfl⟩ | ⟨r,anc,rest,h1,h2,h3,h4⟩
 ·
  intro x hx;cases hx
 ·
  exact fun x hx=>(h4 x hx).1
theorem wU.many (h:wU f e S a l fp):∀ x ∈ fp,Many S x:=by
 rcases h with ⟨_,_,rfl⟩ | ⟨r,anc,rest,h1,h2,h3,h4⟩
 ·
  intro x hx;cases hx
 ·
  exact fun x hx=>(h4 x hx).2
theorem wU.ext (h:wU f e S a l fp) (k:Ext S S1):wU f e S1 a l fp:=h.keep k.next fun x hx=>k.get x (h.lt x hx)
theorem wU.fr {fp2:List Nat} (h:wU f e S a l fp) (k:Fr fp2 S S1) (hd:∀ x ∈ fp,x ∉ fp2):wU f e S1 a l fp:=h.keep k.1 fun x hx=>k.2 x (h.lt x hx) (hd x hx)
theorem wU.QL (h:wU f e S a l fp) {p:Nat} {cs:List Value} {own:Own} (hp:S.get p=some (.cells cs own 0)):p ∉ fp:=fun hx=>h.many p hx cs own hp
theorem wU.take (h:wU f e S a l fp) (n:Nat):wU f e S a (l.take n) fp:=by
 rcases h with ⟨h1,h2,h3⟩ | ⟨r,anc,rest,h1,h2,h3,h4⟩
 ·
  exact .inl ⟨h1,by rw [h2,List.take_nil],h3⟩
 ·
  refine .inr ⟨r,anc,(l.drop n).flatMap f++rest,h1,h2,?_,h4⟩
  rw [h3,← List.append_assoc,← List.flatMap_append,List.take_append_drop]
theorem ZG {x r:Nat} {cs:List Value} {own:Own} (he:e≠0) (h:Many S x):Many (S.set r (.cells cs own e)) x:=fun cs' own'=>by
 rw [zy.ji]
 split
 ·
  intro hx;simp only [Option.some.injEq,wR.cells.injEq] at hx;exact he hx.2.2
 ·
  exact h cs' own'
theorem vH {x:Nat} {l:List Nat} (h:Many S x):Many (S.kills l) x:=fun cs' own'=>by
 rw [zy.qX]
 split
 ·
  intro hx;simp at hx
 ·
  exact h cs' own'
theorem aak {x:Nat} {cs:List Value} {own:Own} (he:e≠0) (h:Many S x):Many (S.push (.cells cs own e)) x:=fun cs' own'=>by
 rw [zy.zZ]
 split
 ·
  intro hx;simp only [Option.some.injEq,wR.cells.injEq] at hx;exact he hx.2.2
 ·
  exact h cs' own'
variable {P:Program} {t te tx:TypeId} {z:Value} {bytes:Nat}
theorem wU.append (u:P.underlying t=some (.slice te)) (us:qg P te=some e) (hz:zeroOf P te=some z) (hzs:z.cells.size=e) (hb:bytesOf P te=some bytes) (hpos:0 < e) (hf:∀ x,(f x).length=e) (h1:∀ x,(f x).all (·.oneCell')=true)
  (hd:wU f e S a l fp) {x:Value} {b:List α} (hsrc:xZ P tx e x S=some (b.length,b.flatMap f)) (hm:(l.length+b.length) * bytes≤140737488355328) (hm2:l.length+b.length≤4611686018427387903) :
  ∃ a' S1 fp',jW P true t tx (.slice a l.length l.length) x S=some (.slice a' (l++b).length (l++b).length,S1)∧wU f e S1 a' (l++b) fp'∧(∀ x ∈ fp',x ∈ fp∨S.next≤x)∧Fr fp S S1:=by
 have hone:∀ l:List α,(l.flatMap f).all (·.oneCell')=true:=by
  intro l
  rw [List.all_flatMap,List.all_eq_true]
  exact fun x _=>h1 x
 have he:e≠0:=by omega
 rcases hd with ⟨rfl,rfl,rfl⟩ | ⟨r,anc,rest,rfl,rfl,k2,k3⟩
 ·
  have e1:=Vo (t:=t) (tx:=tx) (S:=S) u us hz hzs hb hpos hsrc (by simpa using hm) (by simpa using hm2)
  by_cases h0:b.length=0
  ·
   have hb:b=[]:=List.length_eq_zero_iff.1 h0
   subst hb
   exact ⟨none,S,[],e1,.inl ⟨rfl,rfl,rfl⟩,(fun x hx=>by cases hx),Fr.refl _ _⟩
  ·
   rw [if_neg h0,if_neg h0] at e1
   refine ⟨some ⟨S.next,0,none⟩,_,[S.next],e1,.inr ⟨S.next,[],[],rfl,rfl,?_,fun x hx=>?_⟩,(fun x hx=>by simp at hx;omega),(Fr.refl _ _).push _⟩
   ·
    rw [zy.zZ,if_pos rfl,List.append_nil,List.nil_append]
   ·
    simp only [List.mem_singleton] at hx
    subst hx
    refine ⟨by simp,fun cs own=>?_⟩
    rw [zy.zZ,if_pos rfl]
    intro hx;simp only [Option.some.injEq,wR.cells.injEq] at hx;exact he hx.2.2
 ·
  have hlen:(l.flatMap f).length=l.length * e:=jD hf l
  have htk:((l.flatMap f++rest).drop 0).take (l.length * e)=l.flatMap f:=by rw [List.drop_zero,← hlen,List.take_left]
  have e1:=WM (hp:=true) (t:=t) (tx:=tx) (o:=0) (n:=l.length) (c:=l.length) u us hz hzs hb hpos hsrc k2 (by rw [List.length_append,hlen];omega) hm hm2 (by rw [htk];exact hone l)
  rw [htk,← List.length_append] at e1
  have hnew:∀ {S2:zy} {cs:List Value} {own:Own},Many (S2.push (.cells cs own e)) S2.next:=fun {S2 cs own} cs' own'=>by
   rw [zy.zZ,if_pos rfl]
   intro hx;simp only [Option.some.injEq,wR.cells.injEq] at hx;exact he hx.2.2
  by_cases h0:0+l.length * e=(l.flatMap f++rest).length
  ·
   rw [if_pos h0] at e1
   refine ⟨some ⟨S.next,0,none⟩,_,_,e1,.inr ⟨S.next,_,[],rfl,rfl,by rw [zy.zZ,zy.Jt,if_pos rfl,List.append_nil,List.flatMap_append],fun x hx=>?_⟩,fun x hx=>?_,((Fr.refl _ _).set (.inl (by simp)) _).push _⟩
   ·
    rcases List.mem_cons.1 hx with rfl | hx
    ·
     exact ⟨by simp,hnew (S2:=S.set r (.cells (l.flatMap f++rest) .ro e))⟩
    ·
     have hx:x ∈ r::anc:=by
      split at hx
      ·
       cases hx
      ·
       exact hx
     exact ⟨by have:=(k3 x hx).1;simp;omega,aak he (ZG he (k3 x hx).2)⟩
   ·
    rcases List.mem_cons.1 hx with rfl | hx
    ·
     exact .inr (Nat.le_refl _)
    ·
     left
     split at hx
     ·
      cases hx
     ·
      exact hx
  ·
   rw [if_neg h0] at e1
   refine ⟨some ⟨S.next,0,none⟩,_,[S.next],e1,.inr ⟨S.next,[],[],rfl,rfl,by rw [zy.zZ,zy.Jt,zy.ZR,if_pos rfl,List.append_nil,List.flatMap_append],fun x hx=>?_⟩,fun x hx=>?_,(((Fr.refl _ _).kills (l:=anc) (fun x hx=>.inl (by simp [hx]))).set (.inl (by simp)) _).push _⟩
   ·
    simp only [List.mem_singleton] at hx
    subst hx
    exact ⟨by simp,by have:=hnew (S2:=(S.kills anc).set r .dead) (cs:=l.flatMap f++b.flatMap f) (own:=.own []);rwa [zy.Jt,zy.ZR] at this⟩
   ·
    simp only [List.mem_singleton] at hx
    exact .inr (by omega)
theorem wU.KQ (u:P.underlying t=some (.slice te)) (us:qg P te=some e) (hz:zeroOf P te=some z) (hzs:z.cells.size=e) (hb:bytesOf P te=some bytes) (hpos:0 < e) (hf:∀ x,(f x).length=e) (h1:∀ x,(f x).all (·.oneCell')=true)
  {r:Nat} (hd:wU f e S (some ⟨r,0,none⟩) l fp) {x:Value} {b:List α} (hsrc:xZ P tx e x S=some (b.length,b.flatMap f)) (hm:(l.length+b.length) * bytes≤140737488355328) (hm2:l.length+b.length≤4611686018427387903) :
  ∃ r' S1 fp',jW P true t tx (.slice (some ⟨r,0,none⟩) l.length l.length) x S=some (.slice (some ⟨r',0,none⟩) (l++b).length (l++b).length,S1)∧wU f e S1 (some ⟨r',0,none⟩) (l++b) fp'∧(∀ x ∈ fp',x ∈ fp∨S.next≤x)∧Fr fp S S1:=by
 obtain ⟨a',S1,fp',e1,e2,e3,e4⟩:=hd.append u us hz hzs hb hpos hf h1 hsrc hm hm2
 rcases hd with ⟨h,_⟩ | ⟨r1,anc,rest,ha,hfa,hg,hx⟩
 ·
  cases h
 simp only [Option.some.injEq,Addr.mk.injEq,and_true] at ha
 subst ha
 have hone:(l.flatMap f).all (·.oneCell')=true:=by
  rw [List.all_flatMap,List.all_eq_true]
  exact fun x _=>h1 x
 have hlen:(l.flatMap f).length=l.length * e:=jD hf l
 have htk:((l.flatMap f++rest).drop 0).take (l.length * e)=l.flatMap f:=by rw [List.drop_zero,← hlen,List.take_left]
 have e0:=WM (hp:=true) (t:=t) (tx:=tx) (o:=0) (n:=l.length) (c:=l.length) u us hz hzs hb hpos hsrc hg (by rw [List.length_append,hlen];omega) hm hm2 (by rw [htk];exact hone)
 have e5:=e0.symm.trans e1
 simp only [Option.some.injEq,Prod.mk.injEq,Value.slice.injEq] at e5
 obtain ⟨⟨e6,_⟩,_⟩:=e5
 subst e6
 exact ⟨_,S1,fp',e1,e2,e3,e4⟩
theorem wU.adu (hf:∀ x,(f x).length=e) {x:α} {pre suf:List α} {rest:List Value}:(((pre++x::suf).flatMap f++rest).drop (0+pre.length * e)).take e=f x:=by
 rw [List.flatMap_append,List.flatMap_cons,List.append_assoc,List.append_assoc,Nat.zero_add,← jD hf pre,List.drop_left,← hf x,List.take_left]
theorem wU.load (g:yx P te=some true) (us:qg P te=some e) (hf:∀ x,(f x).length=e) (hdm:∀ x,(f x).map qA=f x) {r:Nat} {own:Own} {x:α} {pre suf:List α} {rest:List Value} (hg:S.get r=some (.cells ((pre++x::suf).flatMap f++rest) own e)) :
  zW P false te (.pointer (some ⟨r,0+pre.length * e,none⟩)) S=some (.agg (f x).toArray,S):=by
 have hle:0+pre.length * e+e≤((pre++x::suf).flatMap f++rest).length:=by
  rw [List.length_append,jD hf,List.length_append,List.length_cons,Nat.add_mul,Nat.add_mul];omega
 rw [ZE hg g us hle,adu hf]
 simp only [List.map_toArray,hdm]
theorem wU.put (us:qg P te=some e) (hf:∀ x,(f x).length=e) (h1:∀ x,(f x).all (·.oneCell')=true) (he:e≠0) {r:Nat} {anc:List Nat} {x y:α} {pre suf:List α} {rest:List Value} (hg:S.get r=some (.cells ((pre++x::suf).flatMap f++rest) (.own anc) e))
  (hx:∀ k ∈ r::anc,k < S.next∧Many S k) :
  ∃ S1,jX P te (.pointer (some ⟨r,0+pre.length * e,none⟩)) (.agg (f y).toArray) S=some (zh,S1)∧S1.get r=some (.cells ((pre++y::suf).flatMap f++rest) (.own []) e)∧S1.next=S.next∧Fr (r::anc) S S1∧Many S1 r:=by
 have hle:0+pre.length * e+e≤((pre++x::suf).flatMap f++rest).length:=by
  rw [List.length_append,jD hf,List.length_append,List.length_cons,Nat.add_mul,Nat.add_mul];omega
 have hs:splice ((pre++x::suf).flatMap f++rest) (0+pre.length * e) (f y)=(pre++y::suf).flatMap f++rest:=by
  rw [List.flatMap_append,List.flatMap_cons,List.append_assoc,List.append_assoc,vw (by rw [jD hf,Nat.zero_add]) (by rw [hf,hf]),List.flatMap_append,List.flatMap_cons,List.append_assoc,List.append_assoc]
 have:=wY (P:=P) (t:=te) (o:=0+pre.length * e) (n:=e) (x:=.agg (f y).toArray) hg us (by rw [yD,List.size_toArray,hf]) (by rw [yD];exact h1 y) hle
 refine ⟨_,this,?_,by simp,((Fr.refl _ _).kills (fun k hk=>.inl (by simp [hk]))).set (.inl (by simp)) _,?_⟩
 ·
  rw [zy.ji,if_pos rfl,yD]
  show some (wR.cells (splice _ _ (f y)) _ _)=_
  rw [hs]
 ·
  refine ZG he (vH (hx r (by simp)).2)
theorem wU.clear (u:P.underlying t=some (.slice te)) (us:qg P te=some e) (hz:zeroOf P te=some z) (hgz:ground z=true) (hzs:z.cells.size=e) (hz1:z.cells.toList.all (·.oneCell')=true) (hpos:0 < e) (hf:∀ x,(f x).length=e)
  {r:Nat} {anc:List Nat} {pre suf:List α} {rest:List Value} (hg:S.get r=some (.cells ((pre++suf).flatMap f++rest) (.own anc) e)) (hn:suf.length≠0) (hx:∀ k ∈ r::anc,k < S.next∧Many S k) (c:Nat) :
  ∃ S1 rest1,Yl P t (.slice (some ⟨r,0+pre.length * e,none⟩) suf.length c) S=some (zh,S1)∧S1.get r=some (.cells (pre.flatMap f++rest1) (.own []) e)∧S1.next=S.next∧Fr (r::anc) S S1∧Many S1 r:=by
 have hel:yu P t=some te:=by simp only [yu,u]
 have hle:0+pre.length * e+suf.length * e≤((pre++suf).flatMap f++rest).length:=by
  rw [List.length_append,jD hf,List.length_append,Nat.add_mul];omega
 have hs:splice ((pre++suf).flatMap f++rest) (0+pre.length * e) (zl z.cells.toList suf.length)=pre.flatMap f++(zl z.cells.toList suf.length++rest):=by
  rw [List.flatMap_append,List.append_assoc,vw (by rw [jD hf,Nat.zero_add]) (by rw [aag,jD hf,show z.cells.toList.length=e from hzs])]
 refine ⟨(S.kills anc).set r (.cells (splice ((pre++suf).flatMap f++rest) (0+pre.length * e) (zl z.cells.toList suf.length)) (.own []) e),zl z.cells.toList suf.length++rest,?_,by rw [zy.ji,if_pos rfl,hs],by simp,((Fr.refl _ _).kills (fun k hk=>.inl (by simp [hk]))).set (.inl (by simp)) _,ZG (by omega) (vH (hx r (by simp)).2)⟩
 simp only [Yl,kV,hel,us,hz,hg]
 rw [if_neg hn,if_pos hgz,if_pos hzs,if_pos hz1,if_pos hpos,if_pos hle]
end
end Go.Abs
namespace Go.Proofs.Ytpjglojnipjgfaa
open Go.Abs
abbrev slices_Index.id:FuncId:=26
noncomputable def slices_Index.zY:Code:=(.seq (.region 2 (reg Try.f26 2) false) (.seq (.cond (.tmp 9) Code.skip (.exit 0)) (.seq (.block 1 (.seq (.region 3 (reg Try.f26 3) false) (.seq (.region 4 (reg Try.f26 4) false) (.cond (.tmp 16) (.seq (.region 5 (reg Try.f26 5) false) Code.ret) Code.skip)))) (.region 6 (reg Try.f26 6) false))))
noncomputable def slices_Index.code:Code:=(.seq (.region 0 (reg Try.f26 0) false) (.seq (.seq (.region 1 (reg Try.f26 1) false) (.block 0 (.loop slices_Index.zY))) (.seq (.region 7 (reg Try.f26 7) false) Code.ret)))
theorem slices_Index.body:Try.f26.body=some slices_Index.code:=by kernel_rfl
theorem slices_Index.eta {T:List Value} (h:T.length=19):T=[T.getD 0 zh,T.getD 1 zh,T.getD 2 zh,T.getD 3 zh,T.getD 4 zh,T.getD 5 zh,T.getD 6 zh,T.getD 7 zh,T.getD 8 zh,T.getD 9 zh,T.getD 10 zh,T.getD 11 zh,T.getD 12 zh,T.getD 13 zh,T.getD 14 zh,T.getD 15 zh,T.getD 16 zh,T.getD 17 zh,T.getD 18 zh]:=(yF T 19 h).trans (by kernel_rfl)
variable (b n q r v o t s p u c d f g i j k l m:Value) (S:zy)
theorem slices_Index.r0 :jk zi ⟨false,false,false⟩ (zU zi O) (reg Try.f26 0) (reg Try.f26 0).toList ([b,n,q,r,v,o,t,s,p,u,c,d,f,g,i,j,k,l,m]) S =
  ( some ([b,n,q,r,.int .i64 0,o,t,s,p,u,c,d,f,g,i,j,k,l,m],S)):=by
 kernel_rfl
theorem slices_Index.r1 :jk zi ⟨false,false,false⟩ (zU zi O) (reg Try.f26 1) (reg Try.f26 1).toList ([b,n,q,r,v,o,t,s,p,u,c,d,f,g,i,j,k,l,m]) S =
  (zM (xY zi 29 (dem b) S) (fun A w=>some ([b,n,q,r,v,o,dem b,A,.int .i64 0,u,c,d,f,g,i,j,k,l,m],w)) ()):=by
 kernel_rfl
theorem slices_Index.r2 :jk zi ⟨false,false,false⟩ (zU zi O) (reg Try.f26 2) (reg Try.f26 2).toList ([b,n,q,r,v,o,t,s,p,u,c,d,f,g,i,j,k,l,m]) S =
  (zM (wB zi BinOp.lss 3 p s S) (fun x w=>some ([b,n,q,r,v,o,t,s,p,x,c,d,f,g,i,j,k,l,m],w)) ()):=by
 kernel_rfl
theorem slices_Index.r3 :jk zi ⟨false,false,false⟩ (zU zi O) (reg Try.f26 3) (reg Try.f26 3).toList ([b,n,q,r,v,o,t,s,p,u,c,d,f,g,i,j,k,l,m]) S =
  ( some ([b,n,q,r,v,p,t,s,dem p,u,dem p,d,f,g,i,j,k,l,m],S)):=by
 kernel_rfl
theorem slices_Index.r4 :jk zi ⟨false,false,false⟩ (zU zi O) (reg Try.f26 4) (reg Try.f26 4).toList ([b,n,q,r,v,o,t,s,p,u,c,d,f,g,i,j,k,l,m]) S =
  (zM (zO zi 29 (dem b) (dem o) S) (fun y w=>zM (zW zi false 3 y w) (fun z B=>zM (wB zi BinOp.eql 3 (dem n) z B) (fun C D=>some ([b,n,q,r,v,o,t,s,p,u,c,dem n,dem b,dem o,y,z,C,l,m],D)) ()) ()) ()):=by
 kernel_rfl
theorem slices_Index.r5 :jk zi ⟨false,false,false⟩ (zU zi O) (reg Try.f26 5) (reg Try.f26 5).toList ([b,n,q,r,v,o,t,s,p,u,c,d,f,g,i,j,k,l,m]) S =
  ( some ([b,n,q,r,o,dem o,t,s,p,u,c,d,f,g,i,j,k,dem o,m],S)):=by
 kernel_rfl
theorem slices_Index.r6 :jk zi ⟨false,false,false⟩ (zU zi O) (reg Try.f26 6) (reg Try.f26 6).toList ([b,n,q,r,v,o,t,s,p,u,c,d,f,g,i,j,k,l,m]) S =
  (zM (wB zi BinOp.add 3 p (.int .i64 1) S) (fun x w=>some ([b,n,q,r,v,o,t,s,dem x,u,c,d,f,g,i,j,k,l,x],w)) ()):=by
 kernel_rfl
theorem slices_Index.r7 :jk zi ⟨false,false,false⟩ (zU zi O) (reg Try.f26 7) (reg Try.f26 7).toList ([b,n,q,r,v,o,t,s,p,u,c,d,f,g,i,j,k,l,m]) S =
  ( some ([b,n,q,r,.int .i64 (-1),o,t,s,p,u,c,d,f,g,i,j,k,l,m],S)):=by
 kernel_rfl
theorem slices_Index.rs:type_of% (afM @slices_Index.r0 (afM @slices_Index.r1 (afM @slices_Index.r2 (afM @slices_Index.r3 (afM @slices_Index.r4 (afM @slices_Index.r5 (afM @slices_Index.r6 (@slices_Index.r7)))))))):=afM @slices_Index.r0 (afM @slices_Index.r1 (afM @slices_Index.r2 (afM @slices_Index.r3 (afM @slices_Index.r4 (afM @slices_Index.r5 (afM @slices_Index.r6 (@slices_Index.r7)))))))
theorem slices_Index.runs {b n:Value} {S w:zy} {e:AEx} {T:List Value} (h:zJ zi O false slices_Index.code ([b,n,zh,zh,zh,zh,zh,zh,zh,zh,zh,zh,zh,zh,zh,zh,zh,zh,zh]) S=some (e,T,w)) (he:e=.normal∨e=.ret):zU zi O 26 [b,n] S=some (T.getD 4 zh,w) :=
 jS rfl rfl Try.func26 (by decide) slices_Index.body (by exact h) he (wI (a:=T.getD 4 zh) ((show zN zi T w Try.f26.results.toList=zN zi T w [(ResultVar.tmp 4)] from by kernel_rfl).trans (by simp only [zN])) (by kernel_rfl))
end Go.Proofs.Ytpjglojnipjgfaa
namespace Go.Proofs.Ytpjglojnipjgfaa
open Go.Abs
abbrev slices_Contains.id:FuncId:=20
noncomputable def slices_Contains.code:Code:=(.seq (.region 0 (reg Try.f20 0) false) (.seq (.region 1 (reg Try.f20 1) false) Code.ret))
theorem slices_Contains.body:Try.f20.body=some slices_Contains.code:=by kernel_rfl
variable (b c f g m i j k l:Value) (S:zy)
theorem slices_Contains.r0 :jk zi ⟨false,false,false⟩ (zU zi O) (reg Try.f20 0) (reg Try.f20 0).toList ([b,c,f,g,m,i,j,k,l]) S =
  ( some ([b,c,f,g,Value.bool false,i,j,k,l],S)):=by
 kernel_rfl
theorem slices_Contains.r1 :jk zi ⟨false,false,false⟩ (zU zi O) (reg Try.f20 1) (reg Try.f20 1).toList ([b,c,f,g,m,i,j,k,l]) S =
  (zM ((zU zi O) 26 [(dem (dem b)),(dem (dem c))] S) (fun n d=>zM (wB zi BinOp.geq 3 n (.int .i64 0) d) (fun o p=>some ([b,c,f,g,o,dem b,dem c,n,dem o],p)) ()) ()):=by
 kernel_rfl
theorem slices_Contains.rs:type_of% (afM @slices_Contains.r0 (@slices_Contains.r1)):=afM @slices_Contains.r0 (@slices_Contains.r1)
theorem slices_Contains.runs {b c:Value} {S d:zy} {e:AEx} {T:List Value} (h:zJ zi O false slices_Contains.code ([b,c,zh,zh,zh,zh,zh,zh,zh]) S=some (e,T,d)) (he:e=.normal∨e=.ret):zU zi O 20 [b,c] S=some (T.getD 4 zh,d) :=
 jS rfl rfl Try.func20 (by decide) slices_Contains.body (by exact h) he (wI (a:=T.getD 4 zh) ((show zN zi T d Try.f20.results.toList=zN zi T d [(ResultVar.tmp 4)] from by kernel_rfl).trans (by simp only [zN])) (by kernel_rfl))
end Go.Proofs.Ytpjglojnipjgfaa
namespace Go.Proofs.Ytpjglojnipjgfaa
open Go.Abs
theorem Xp:qg zi 3=some 1:=by kernel_rfl
theorem aeh:bytesOf zi 3=some 8:=by kernel_rfl
theorem adX:zeroOf zi 3=(some (Value.int IntKind.i64 0)):=by kernel_rfl
theorem yV:yx zi 3=some false:=by kernel_rfl
theorem yR:zi.underlying 26=some (TypeDesc.slice 54):=by kernel_rfl
theorem qE:zi.underlying 28=some (TypeDesc.slice 33):=by kernel_rfl
theorem qY:zi.underlying 29=some (TypeDesc.slice 3):=by kernel_rfl
theorem JD:qg zi 29=some 1:=by kernel_rfl
theorem Xh:yx zi 29=some false:=by kernel_rfl
theorem yE:qg zi 31=some 4:=by kernel_rfl
theorem xQ:yx zi 31=some true:=by kernel_rfl
theorem yQ:qg zi 33=some 2:=by kernel_rfl
theorem Zj:yx zi 33=some true:=by kernel_rfl
theorem ab1:qg zi 47=some 2:=by kernel_rfl
theorem acE:yx zi 47=some true:=by kernel_rfl
theorem Xe:qg zi 50=some 5:=by kernel_rfl
theorem KR:yx zi 50=some true:=by kernel_rfl
theorem aal:qg zi 52=some 13:=by kernel_rfl
theorem abk:yx zi 52=some true:=by kernel_rfl
theorem JV:qg zi 54=some 14:=by kernel_rfl
theorem QI:bytesOf zi 54=some 128:=by kernel_rfl
theorem QJ:zeroOf zi 54=(some (Value.agg #[(Value.int IntKind.i64 0),(Value.int IntKind.i64 0),(Value.int IntKind.i64 0),(Value.int IntKind.i64 0),(Value.int IntKind.i64 0),(Value.int IntKind.i64 0),(Value.int IntKind.i64 0),(Value.int IntKind.i64 0),(Value.int IntKind.i64 0),(Value.int IntKind.i64 0),(Value.int IntKind.i64 0),(Value.int IntKind.i64 0),(Value.int IntKind.i64 0),(Value.slice none 0 0)])):=by kernel_rfl
theorem jq:zi.underlying 58=some (TypeDesc.slice 64):=by kernel_rfl
theorem vS:qg zi 58=some 1:=by kernel_rfl
theorem yL:yx zi 58=some false:=by kernel_rfl
theorem jy:qg zi 64=some 2:=by kernel_rfl
theorem Kv:bytesOf zi 64=some 16:=by kernel_rfl
theorem Jc:zeroOf zi 64=(some (Value.agg #[(Value.int IntKind.i64 0),(Value.int IntKind.i64 0)])):=by kernel_rfl
theorem kC:yx zi 64=some true:=by kernel_rfl
theorem yT (q o:Nat) (S:zy):zI zi 31 (.pointer (some ⟨q,o,none⟩)) 0 S=some (.pointer (some ⟨q,o+0,none⟩),S):=by kernel_rfl
theorem yU (q o:Nat) (S:zy):zI zi 31 (.pointer (some ⟨q,o,none⟩)) 1 S=some (.pointer (some ⟨q,o+1,none⟩),S):=by kernel_rfl
theorem jo (q o:Nat) (S:zy):zI zi 31 (.pointer (some ⟨q,o,none⟩)) 2 S=some (.pointer (some ⟨q,o+2,none⟩),S):=by kernel_rfl
theorem jJ (q o:Nat) (S:zy):zI zi 31 (.pointer (some ⟨q,o,none⟩)) 3 S=some (.pointer (some ⟨q,o+3,none⟩),S):=by kernel_rfl
theorem wu (q o:Nat) (S:zy):zI zi 33 (.pointer (some ⟨q,o,none⟩)) 0 S=some (.pointer (some ⟨q,o+0,none⟩),S):=by kernel_rfl
theorem qh (q o:Nat) (S:zy):zI zi 33 (.pointer (some ⟨q,o,none⟩)) 1 S=some (.pointer (some ⟨q,o+1,none⟩),S):=by kernel_rfl
theorem Qg (q o:Nat) (S:zy):zI zi 52 (.pointer (some ⟨q,o,none⟩)) 0 S=some (.pointer (some ⟨q,o+0,none⟩),S):=by kernel_rfl
theorem Qn (q o:Nat) (S:zy):zI zi 52 (.pointer (some ⟨q,o,none⟩)) 1 S=some (.pointer (some ⟨q,o+1,none⟩),S):=by kernel_rfl
theorem QZ (q o:Nat) (S:zy):zI zi 52 (.pointer (some ⟨q,o,none⟩)) 2 S=some (.pointer (some ⟨q,o+2,none⟩),S):=by kernel_rfl
theorem Ky (q o:Nat) (S:zy):zI zi 52 (.pointer (some ⟨q,o,none⟩)) 3 S=some (.pointer (some ⟨q,o+3,none⟩),S):=by kernel_rfl
theorem Ku (q o:Nat) (S:zy):zI zi 52 (.pointer (some ⟨q,o,none⟩)) 4 S=some (.pointer (some ⟨q,o+4,none⟩),S):=by kernel_rfl
theorem Qr (q o:Nat) (S:zy):zI zi 52 (.pointer (some ⟨q,o,none⟩)) 5 S=some (.pointer (some ⟨q,o+5,none⟩),S):=by kernel_rfl
theorem KJ (q o:Nat) (S:zy):zI zi 52 (.pointer (some ⟨q,o,none⟩)) 6 S=some (.pointer (some ⟨q,o+6,none⟩),S):=by kernel_rfl
theorem Q7 (q o:Nat) (S:zy):zI zi 52 (.pointer (some ⟨q,o,none⟩)) 7 S=some (.pointer (some ⟨q,o+8,none⟩),S):=by kernel_rfl
theorem Jj (q o:Nat) (S:zy):zI zi 60 (.pointer (some ⟨q,o,none⟩)) 0 S=some (.pointer (some ⟨q,o+0,none⟩),S):=by kernel_rfl
theorem xH (q o:Nat) (S:zy):zI zi 60 (.pointer (some ⟨q,o,none⟩)) 1 S=some (.pointer (some ⟨q,o+1,none⟩),S):=by kernel_rfl
theorem wF (q o:Nat) (S:zy):zI zi 60 (.pointer (some ⟨q,o,none⟩)) 2 S=some (.pointer (some ⟨q,o+2,none⟩),S):=by kernel_rfl
theorem qW (q o:Nat) (S:zy):zI zi 64 (.pointer (some ⟨q,o,none⟩)) 0 S=some (.pointer (some ⟨q,o+0,none⟩),S):=by kernel_rfl
theorem JM (q o:Nat) (S:zy):zI zi 64 (.pointer (some ⟨q,o,none⟩)) 1 S=some (.pointer (some ⟨q,o+1,none⟩),S):=by kernel_rfl
theorem yh {q:Nat} {x0 x1 x2 x3:Value} {own:Own} {e:Nat} {S:zy} (h:S.get q=some (.cells [x0,x1,x2,x3] own e)):zW zi false 31 (.pointer (some ⟨q,0,none⟩)) S=some (.agg [qA x0,qA x1,qA x2,qA x3].toArray,S):=(ZE (o:=0) h xQ yE (by simp)).trans (by simp)
theorem wM {fx:Bool} {x0 x1:Value} {S:zy}:zW zi fx 33 (EP [x0,x1]) S=some (.agg [x0,x1].toArray,S):=Wi Zj yQ rfl
theorem VH {fx:Bool} {x0 x1 x2 x3 x4 x5 x6 x7 x8 x9 x10 x11 x12:Value} {S:zy}:zW zi fx 52 (EP [x0,x1,x2,x3,x4,x5,x6,x7,x8,x9,x10,x11,x12]) S=some (.agg [x0,x1,x2,x3,x4,x5,x6,x7,x8,x9,x10,x11,x12].toArray,S):=Wi abk aal rfl
theorem Qy {x0 x1 x2 x3 x4 x5 x6 x7 x8 x9 x10 x11 x12 x13:Value} {S:zy}:zI zi 54 (EP [x0,x1,x2,x3,x4,x5,x6,x7,x8,x9,x10,x11,x12,x13]) 0 S=some (EP [x0],S):=by kernel_rfl
theorem Kw {x0 x1 x2 x3 x4 x5 x6 x7 x8 x9 x10 x11 x12 x13:Value} {S:zy}:zI zi 54 (EP [x0,x1,x2,x3,x4,x5,x6,x7,x8,x9,x10,x11,x12,x13]) 1 S=some (EP [x1,x2,x3,x4,x5,x6,x7,x8,x9,x10,x11,x12,x13],S):=by kernel_rfl
theorem Zq {q:Nat} {x0 x1:Value} {own:Own} {e:Nat} {S:zy} (h:S.get q=some (.cells [x0,x1] own e)):zW zi false 64 (.pointer (some ⟨q,0,none⟩)) S=some (.agg [qA x0,qA x1].toArray,S):=(ZE (o:=0) h kC jy (by simp)).trans (by simp)
theorem ku {y0 y1:Value} (h0:y0.cells=#[y0]) (h1:y1.cells=#[y1]) (S:zy):wK zi 31 [(0,y0),(1,y1)] S=some (.agg [y0,y1,(Value.slice none 0 0),(Value.slice none 0 0)].toArray,S):=by
 rw [show wK zi 31 [(0,y0),(1,y1)] S=(match qN ([(0,1),(1,1),(2,1),(3,1)][·]?) [(Value.int IntKind.i64 0),(Value.int IntKind.i64 0),(Value.slice none 0 0),(Value.slice none 0 0)] [(0,y0),(1,y1)] with | some l=>some (.agg l.toArray,S) | none=>none) from by kernel_rfl]
 simp [qN,splice,yD,h0,h1]
theorem xC {y0 y1 y4:Value} (h0:y0.cells=#[y0]) (h1:y1.cells=#[y1]) (h4:y4.cells=#[y4]) (S:zy):wK zi 52 [(0,y0),(1,y1),(4,y4)] S=some (.agg [y0,y1,(Value.int IntKind.i64 0),(Value.int IntKind.i64 0),y4,(Value.int IntKind.i64 0),(Value.int IntKind.i64 0),(Value.int IntKind.i64 0),(Value.int IntKind.i64 0),(Value.int IntKind.i64 0),(Value.int IntKind.i64 0),(Value.int IntKind.i64 0),(Value.slice none 0 0)].toArray,S):=by
 rw [show wK zi 52 [(0,y0),(1,y1),(4,y4)] S=(match qN ([(0,1),(1,1),(2,1),(3,1),(4,1),(5,1),(6,2),(8,5)][·]?) [(Value.int IntKind.i64 0),(Value.int IntKind.i64 0),(Value.int IntKind.i64 0),(Value.int IntKind.i64 0),(Value.int IntKind.i64 0),(Value.int IntKind.i64 0),(Value.int IntKind.i64 0),(Value.int IntKind.i64 0),(Value.int IntKind.i64 0),(Value.int IntKind.i64 0),(Value.int IntKind.i64 0),(Value.int IntKind.i64 0),(Value.slice none 0 0)] [(0,y0),(1,y1),(4,y4)] with | some l=>some (.agg l.toArray,S) | none=>none) from by kernel_rfl]
 simp [qN,splice,yD,h0,h1,h4]
theorem kH {y0 y1_0 y1_1 y1_2 y1_3 y1_4 y1_5 y1_6 y1_7 y1_8 y1_9 y1_10 y1_11 y1_12:Value} (h0:y0.cells=#[y0]) (S:zy):wK zi 54 [(0,y0),(1,.agg [y1_0,y1_1,y1_2,y1_3,y1_4,y1_5,y1_6,y1_7,y1_8,y1_9,y1_10,y1_11,y1_12].toArray)] S=some (.agg [y0,y1_0,y1_1,y1_2,y1_3,y1_4,y1_5,y1_6,y1_7,y1_8,y1_9,y1_10,y1_11,y1_12].toArray,S):=by
 rw [show wK zi 54 [(0,y0),(1,.agg [y1_0,y1_1,y1_2,y1_3,y1_4,y1_5,y1_6,y1_7,y1_8,y1_9,y1_10,y1_11,y1_12].toArray)] S=(match qN ([(0,1),(1,13)][·]?) [(Value.int IntKind.i64 0),(Value.int IntKind.i64 0),(Value.int IntKind.i64 0),(Value.int IntKind.i64 0),(Value.int IntKind.i64 0),(Value.int IntKind.i64 0),(Value.int IntKind.i64 0),(Value.int IntKind.i64 0),(Value.int IntKind.i64 0),(Value.int IntKind.i64 0),(Value.int IntKind.i64 0),(Value.int IntKind.i64 0),(Value.int IntKind.i64 0),(Value.slice none 0 0)] [(0,y0),(1,.agg [y1_0,y1_1,y1_2,y1_3,y1_4,y1_5,y1_6,y1_7,y1_8,y1_9,y1_10,y1_11,y1_12].toArray)] with | some l=>some (.agg l.toArray,S) | none=>none) from by kernel_rfl]
 simp [qN,splice,yD,h0]
theorem Zx {y0 y1:Value} (h0:y0.cells=#[y0]) (h1:y1.cells=#[y1]) (S:zy):wK zi 60 [(0,y0),(1,y1)] S=some (.agg [y0,y1,(Value.slice none 0 0)].toArray,S):=by
 rw [show wK zi 60 [(0,y0),(1,y1)] S=(match qN ([(0,1),(1,1),(2,1)][·]?) [(Value.int IntKind.i64 0),(Value.int IntKind.i64 0),(Value.slice none 0 0)] [(0,y0),(1,y1)] with | some l=>some (.agg l.toArray,S) | none=>none) from by kernel_rfl]
 simp [qN,splice,yD,h0,h1]
theorem Jy {y0:Value} (h0:y0.cells=#[y0]) (S:zy):wK zi 64 [(0,y0)] S=some (.agg [y0,(Value.int IntKind.i64 0)].toArray,S):=by
 rw [show wK zi 64 [(0,y0)] S=(match qN ([(0,1),(1,1)][·]?) [(Value.int IntKind.i64 0),(Value.int IntKind.i64 0)] [(0,y0)] with | some l=>some (.agg l.toArray,S) | none=>none) from by kernel_rfl]
 simp [qN,splice,yD,h0]
theorem WA (S:zy):jl zi 26 0 [] S=some (sv 2 14 0 [],S):=by kernel_rfl
theorem VF (S:zy):jl zi 29 0 [] S=some (sv 2 1 0 [],S):=by kernel_rfl
theorem vG (x0:Int) (S:zy):jl zi 29 1 [(0,.int IntKind.i64 x0)] S=some (sv 2 1 1 [.int IntKind.i64 x0],S):=by kernel_rfl
theorem Ji {k:Nat} {l:List Int} {S:zy} (h:Okl k l):xY zi 29 (iz k l) S=some (goInt l.length,S):=Ko qY h
theorem Q5 {k:Nat} {l:List Int} {S:zy} {ki:IntKind} {i:Int} (h:Okl k l) (h0:0≤i) (hi:i < l.length):zO zi 29 (iz k l) (.int ki i) S=some (EP [.int .i64 (l[i.toNat]'(by omega))],S):=abZ qY Xp Wj h h0 hi
theorem qU {fx:Bool} {v:Value} {S:zy}:zW zi fx 3 (EP [v]) S=some (v,S):=QW yV
theorem JL {k:Nat} {l:List Int} {S:zy} {j:Nat} {m:List Int} (h:Okl k l) (hk:k≠1) (hm:Okl j m) (hl:l.length+m.length≤17592186044416):yj zi 29 29 (iz k l) (iz j m) S=some (iz (if k=0∧m.length=0 then 0 else 2) (l++m),S):=Q9 qY Xp adX rfl aeh (by omega) qY Wj aa3 h hk hm (by omega) (by omega)
theorem wk:type_of% (afM @WY (afM @Zw (afM @Z7 (afM @Jv (afM @Ya (afM @JC (afM @Wl (afM @JZ (afM @Je (afM @Qk (afM @JR (afM @QM (afM @Vd (afM @Zm (afM @Yh (afM @JF (afM @Yo (afM @JB (afM @QA (afM @adB (afM @adA (afM @ads (afM @ac3 (afM @adb (afM @aaf (afM @aaM (afM @abq (afM @abz (afM @abL (afM @XP (afM @Jb (afM @QN (afM @Bool.and_true (afM @Bool.true_and (afM @Bool.and_self (afM @XE (afM @aaZ (afM @Yf (afM @QX (afM @JQ (afM @adC (afM @adz (afM @ady (afM @acZ (afM @aeS (afM @aeU (afM @aeX (afM @aeR (afM @aeN (afM @adn (afM @acY (afM @ac4 (afM @ac6 (afM @acV (afM @abH (afM @WO (afM @Bool.false_eq_true (afM @Ve (afM @aac (afM @Yq (afM @Qw (afM @QU (afM @adk (afM @Qq (afM @adt (afM @Qo (afM @abm (afM @X3 (afM @Yd (afM @aao (afM @abj (afM @qy (afM @Zd (afM @KH (afM @aaB (afM @KA (afM @XJ (afM @Qe (afM @XU (afM @JI (afM @QH (afM @Ql (afM @Yi (afM @ZI (afM @vY (afM @JG (afM @KF (afM @Z5 (afM @Yg (afM @vV (afM @vZ (afM @vU (afM @XY (afM @XH (afM @X6 (afM @X8 (afM @XO (afM @XI (afM @X7 (afM @XG (afM @Va (afM @abw (afM @Bool.not_true (afM @Bool.not_false (afM @Bool.true_eq_false (afM @decide_true (afM @decide_false (afM @aaI (afM @aa2 (afM @abE (afM @aa8 (afM @aaS (afM @aa1 (afM @aay (afM @aar (afM @aah (afM @aam (afM @abh (afM @aaA (afM @abu (afM @abf (@abC)))))))))))))))))))))))))))))))))))))))))))))))))))))))))))))))))))))))))))))))))))))))))))))))))))))))))))))))))))))))))):=afM @WY (afM @Zw (afM @Z7 (afM @Jv (afM @Ya (afM @JC (afM @Wl (afM @JZ (afM @Je (afM @Qk (afM @JR (afM @QM (afM @Vd (afM @Zm (afM @Yh (afM @JF (afM @Yo (afM @JB (afM @QA (afM @adB (afM @adA (afM @ads (afM @ac3 (afM @adb (afM @aaf (afM @aaM (afM @abq (afM @abz (afM @abL (afM @XP (afM @Jb (afM @QN (afM @Bool.and_true (afM @Bool.true_and (afM @Bool.and_self (afM @XE (afM @aaZ (afM @Yf (afM @QX (afM @JQ (afM @adC (afM @adz (afM @ady (afM @acZ (afM @aeS (afM @aeU (afM @aeX (afM @aeR (afM @aeN (afM @adn (afM @acY (afM @ac4 (afM @ac6 (afM @acV (afM @abH (afM @WO (afM @Bool.false_eq_true (afM @Ve (afM @aac (afM @Yq (afM @Qw (afM @QU (afM @adk (afM @Qq (afM @adt (afM @Qo (afM @abm (afM @X3 (afM @Yd (afM @aao (afM @abj (afM @qy (afM @Zd (afM @KH (afM @aaB (afM @KA (afM @XJ (afM @Qe (afM @XU (afM @JI (afM @QH (afM @Ql (afM @Yi (afM @ZI (afM @vY (afM @JG (afM @KF (afM @Z5 (afM @Yg (afM @vV (afM @vZ (afM @vU (afM @XY (afM @XH (afM @X6 (afM @X8 (afM @XO (afM @XI (afM @X7 (afM @XG (afM @Va (afM @abw (afM @Bool.not_true (afM @Bool.not_false (afM @Bool.true_eq_false (afM @decide_true (afM @decide_false (afM @aaI (afM @aa2 (afM @abE (afM @aa8 (afM @aaS (afM @aa1 (afM @aay (afM @aar (afM @aah (afM @aam (afM @abh (afM @aaA (afM @abu (afM @abf (@abC)))))))))))))))))))))))))))))))))))))))))))))))))))))))))))))))))))))))))))))))))))))))))))))))))))))))))))))))))))))))))
theorem zSs:type_of% (afM wk (afM (@List.getD_cons_succ Value) (afM (@List.getD_cons_zero Value) (afM @if_true.{1} (afM @if_false.{1} (afM (@List.getElem?_cons_succ Value) (afM (@List.getElem?_cons_zero Value) (afM @Option.map_some.{0,0} @eq_self.{1})))))))):=afM wk (afM (@List.getD_cons_succ Value) (afM (@List.getD_cons_zero Value) (afM @if_true.{1} (afM @if_false.{1} (afM (@List.getElem?_cons_succ Value) (afM (@List.getElem?_cons_zero Value) (afM @Option.map_some.{0,0} @eq_self.{1})))))))
end Go.Proofs.Ytpjglojnipjgfaa
namespace Go.Proofs.Ytpjglojnipjgfaa
open Go.Abs
theorem bz0 (S:zy):jl zi 29 0 [] S=some (iz 2 [],S):=by rw [VF];rfl
theorem afp (x:Int):sv 2 1 1 [.int .i64 x]=iz 2 [x]:=rfl
theorem aef {k:Nat} {l:List Int} {x:Int} {S:zy} (h:Okl k l) (hk:k≠1) (hl:l.length≤17592186044000):yj zi 29 29 (iz k l) (iz 2 [x]) S=some (iz 2 (l++[x]),S):=by
 rw [JL h hk Okl.own (by simp;omega),if_neg (fun h=>by have:=h.2;simp at this)]
end Go.Proofs.Ytpjglojnipjgfaa
namespace Go.Proofs.Ytpjglojnipjgfaa
open Go.Abs
def idxFrom {α:Type} (p:α→Bool):Int→List α→Int
 | _,[]=>-1
 | i,x::r=>if p x then i else idxFrom p (i+1) r
theorem ZA {α:Type} {p:α→Bool}:∀ {l:List α} {i:Int},l.any p=false→idxFrom p i l=-1
 | [],_,_=>rfl
 | x::r,i,h=>by
  rw [List.any_cons,Bool.or_eq_false_iff] at h
  rw [idxFrom,h.1]
  exact ZA h.2
theorem X4 {α:Type} {p:α→Bool}:∀ {l:List α} {i:Int},l.any p=true→i≤idxFrom p i l
 | [],_,h=>by cases h
 | x::r,i,h=>by
  rw [idxFrom]
  split
  ·
   omega
  ·
   rename_i hx
   rw [List.any_cons,Bool.or_eq_true] at h
   have:=X4 (i:=i+1) (h.resolve_left hx)
   omega
theorem aec {α:Type} {p:α→Bool} {l:List α}:decide (0≤idxFrom p 0 l)=l.any p:=by
 cases h:l.any p with
 | false=>rw [ZA h];decide
 | true=>rw [decide_eq_true_eq];exact X4 h
section
variable {k:Nat} {l:List Int}
theorem slices_Index.round (hv:Okl k l) (hk:k≠2) (hlen:l.length≤17592186044416) {v:Int} {S:zy}:∀ (suf pre:List Int) {T:List Value} {r:St},wQ (zJ zi O false slices_Index.zY) T S=r→T.length=19 →
  T.getD 0 zh=iz k l→T.getD 1 zh=.int .i64 v→T.getD 7 zh=.int .i64 l.length→T.getD 8 zh=.int .i64 pre.length→l=pre++suf →
  ∃ e T',r=some (e,T',S)∧if suf.any (fun x=>decide (v=x)) then e=.ret∧T'.getD 4 zh=.int .i64 (idxFrom (fun x=>decide (v=x)) pre.length suf) else e=.exit 0∧T'.length=19:=by
 intro suf
 induction suf with
 | nil =>
  intro pre T r hL hT h0 h1 h7 h8 hl
  have hTe:=slices_Index.eta hT
  rw [h0,h1,h7,h8] at hTe
  have hr:zJ zi O false slices_Index.zY T S=zJ zi O false slices_Index.zY T S:=rfl
  have hd:¬ (pre.length:Int) < (l.length:Int):=by rw [hl];simp
  conv at hr =>
   rhs
   rw [hTe]
   simp only [slices_Index.zY,slices_Index.code,slices_Index.rs,zSs,reduceIte,zk,zn,zo,zq,hd]
  exact ⟨_,_,hL.symm.trans (jw hr (by simp)),rfl,rfl⟩
 | cons x suf ih =>
  intro pre T r hL hT h0 h1 h7 h8 hl
  have hTe:=slices_Index.eta hT
  rw [h0,h1,h7,h8] at hTe
  have hr:zJ zi O false slices_Index.zY T S=zJ zi O false slices_Index.zY T S:=rfl
  have hd:(pre.length:Int) < (l.length:Int):=by rw [hl];simp;omega
  have e1:∀ S,zO zi 29 (iz k l) (.int .i64 pre.length) S=some (EP [.int .i64 x],S):=fun S=>by
   rw [Q5 hv (by omega) hd];rw [J9 hl]
  have wi:IntKind.i64.wrap ((pre.length:Int)+1)=((pre++[x]).length:Int):=by rw [wrap_i64 (by omega) (by omega)];simp
  rw [List.any_cons,idxFrom]
  by_cases hx:v=x
  ·
   have hx2:=decide_eq_true hx
   conv at hr =>
    rhs
    rw [hTe]
    simp only [slices_Index.zY,slices_Index.code,slices_Index.rs,zSs,reduceIte,zk,zn,zo,zq,if_neg hk,hd,e1,qU,hx2]
   refine ⟨_,_,hL.symm.trans (jw hr (by simp)),?_⟩
   rw [hx2,Bool.true_or]
   exact ⟨rfl,rfl⟩
  ·
   have hx2:=decide_eq_false hx
   conv at hr =>
    rhs
    rw [hTe]
    simp only [slices_Index.zY,slices_Index.code,slices_Index.rs,zSs,reduceIte,zk,zn,zo,zq,if_neg hk,hd,e1,qU,hx2,wi]
   obtain ⟨e,T',g1,g2⟩:=ih (pre++[x]) ((jK hr).symm.trans hL) rfl rfl rfl rfl rfl (by simp [hl])
   refine ⟨e,T',g1,?_⟩
   rw [hx2,Bool.false_or]
   rw [show (((pre++[x]).length:Nat):Int)=(pre.length:Int)+1 by simp] at g2
   exact g2
theorem slices_Index.v (hv:Okl k l) (hk:k≠2) (hlen:l.length≤17592186044416) {v:Int} (S:zy):zU zi O slices_Index.id [iz k l,.int .i64 v] S=some (.int .i64 (idxFrom (fun x=>decide (v=x)) 0 l),S):=by
 obtain ⟨T,hTe⟩:∃ T,T=(iz k l::.int .i64 v::zh::zh::zh::zh::zh::zh::zh::zh::zh::zh::zh::zh::zh::zh::zh::zh::zh::[]):=⟨_,rfl⟩
 have hr:zJ zi O false slices_Index.code T S=zJ zi O false slices_Index.code T S:=rfl
 conv at hr =>
  rhs
  rw [hTe]
  simp only [slices_Index.code,slices_Index.rs,zSs,reduceIte,zk,zn,zo,zq,if_neg hk,Ji hv,goInt]
 generalize hL:wQ (zJ zi O false slices_Index.zY) _ _=r at hr
 obtain ⟨e,T',rfl,g⟩:=slices_Index.round hv hk hlen l [] hL rfl rfl rfl rfl rfl rfl
 cases h:l.any (fun x=>decide (v=x)) with
 | true =>
  rw [h] at g
  obtain ⟨rfl,g2⟩:=g
  conv at hr =>
   rhs
   simp only [zSs,reduceIte,zk,zn,zo,zq]
  rw [hTe] at hr
  have hrun:=slices_Index.runs hr (.inr rfl)
  rw [g2] at hrun
  exact hrun
 | false =>
  rw [h] at g
  obtain ⟨rfl,g2⟩:=g
  have hTe':=slices_Index.eta g2
  conv at hr =>
   rhs
   rw [hTe']
   simp only [slices_Index.code,slices_Index.rs,zSs,reduceIte,zk,zn,zo,zq]
  rw [hTe] at hr
  rw [ZA h]
  exact slices_Index.runs hr (.inr rfl)
theorem slices_Contains.v (hv:Okl k l) (hk:k≠2) (hlen:l.length≤17592186044416) {v:Int} (S:zy):zU zi O slices_Contains.id [iz k l,.int .i64 v] S=some (.bool (l.any fun x=>decide (v=x)),S):=by
 obtain ⟨T,hTe⟩:∃ T,T=(iz k l::.int .i64 v::zh::zh::zh::zh::zh::zh::zh::[]):=⟨_,rfl⟩
 have hr:zJ zi O false slices_Contains.code T S=zJ zi O false slices_Contains.code T S:=rfl
 have c1:=fun S=>slices_Index.v hv hk hlen (v:=v) S
 conv at hr =>
  rhs
  rw [hTe]
  simp only [slices_Contains.code,slices_Contains.rs,zSs,reduceIte,zk,zn,zo,zq,if_neg hk,c1,aec]
 rw [hTe] at hr
 exact slices_Contains.runs hr (.inr rfl)
end
end Go.Proofs.Ytpjglojnipjgfaa
namespace Go.Proofs.Ytpjglojnipjgfaa
open Go.Abs
theorem Ym {g:FuncId} {v c:Value} {S:zy}:afg (zU zi O) (.func (Fn.func g) #[] #[c]) [v] S=zU zi O g [v,c] S:=rfl
theorem Xg {hps:FuncId→Bool} {g:FuncId} {v c:Value} {S:zy} (hv:vT v=false) (hc:vT c=false):afg (jM hps true (zU zi O)) (.func (Fn.func g) #[] #[c]) [v] S=zU zi O g [v,c] S:=by
 show jM hps true (zU zi O) g [v,c] S=_
 unfold jM
 dsimp only
 split
 ·
  rfl
 ·
  exact XC (call:=zU zi O) (g:=g) (args:=[v,c]) (by simp [hv,hc])
structure jF where
 name:Int
 asked:Int
def fW (w:jF):List Value:=[.int .i64 w.name,.int .i64 w.asked]
abbrev wv (w:jF):Value:=.agg [Value.int .i64 w.name,.int .i64 w.asked].toArray
theorem xR (w:jF):(fW w).length=2:=rfl
theorem adq (w:jF):(fW w).all (·.oneCell')=true:=rfl
theorem ac9 (w:jF):(fW w).map qA=fW w:=rfl
theorem KG {α:Type} {p:α→Bool}:∀ {l:List α} {i:Int},l.any p=true→∃ pre x suf,l=pre++x::suf∧pre.any p=false∧p x=true∧idxFrom p i l=i+pre.length
 | [],_,h=>by cases h
 | x::r,i,h=>by
  cases hx:p x with
  | true=>exact ⟨[],x,r,rfl,rfl,hx,by rw [idxFrom,hx];simp⟩
  | false =>
   rw [List.any_cons,hx,Bool.false_or] at h
   obtain ⟨pre,y,suf,h1,h2,h3,h4⟩:=KG (i:=i+1) h
   refine ⟨x::pre,y,suf,by rw [h1];rfl,by rw [List.any_cons,hx,h2];rfl,h3,?_⟩
   rw [idxFrom,hx,if_neg (by decide),h4,List.length_cons]
   omega
theorem filter_none {α:Type} {p:α→Bool} {l:List α} (h:l.any p=false):l.filter (fun x=>!p x)=l:=by
 rw [List.filter_eq_self]
 intro x hx
 rw [List.any_eq_false] at h
 have:=h x hx
 simpa using this
section
variable {l:List jF} {p:jF→Bool} {g:FuncId} {c:Value} {K:zy→Prop}
theorem slices_IndexFunc.afd {k:Nat} (hv:Okl k l) (hk:k≠2) (hlen:l.length≤17592186044416) (hp:∀ S x,K S→x ∈ l→∃ S1,zU zi O g [wv x,c] S=some (.bool (p x),S1)∧Ext S S1∧S1.log=S.log) (hK:∀ S S1,K S→Ext S S1→K S1):∀ (suf pre:List jF) {T:List Value} {r:St} {S:zy},wQ (zJ zi O false slices_IndexFunc.zY) T S=r→T.length=19→K S →
  T.getD 0 zh=vs fW 2 k l→T.getD 1 zh=.func (Fn.func g) #[] #[c]→T.getD 7 zh=.int .i64 l.length→T.getD 8 zh=.int .i64 pre.length→l=pre++suf →
  ∃ e T' S',r=some (e,T',S')∧Ext S S'∧S'.log=S.log∧if suf.any p then e=.ret∧T'.getD 4 zh=.int .i64 (idxFrom p pre.length suf) else e=.exit 0∧T'.length=19:=by
 intro suf
 induction suf with
 | nil =>
  intro pre T r S hL hT hS h0 h1 h7 h8 hl
  have hTe:=slices_IndexFunc.eta hT
  rw [h0,h1,h7,h8] at hTe
  have hr:zJ zi O false slices_IndexFunc.zY T S=zJ zi O false slices_IndexFunc.zY T S:=rfl
  have hd:¬ (pre.length:Int) < (l.length:Int):=by rw [hl];simp
  conv at hr =>
   rhs
   rw [hTe]
   simp only [slices_IndexFunc.zY,slices_IndexFunc.code,slices_IndexFunc.rs,zSs,reduceIte,zk,zn,zo,zq,hd]
  exact ⟨_,_,_,hL.symm.trans (jw hr (by simp)),Ext.refl _,rfl,rfl,rfl⟩
 | cons x suf ih =>
  intro pre T r S hL hT hS h0 h1 h7 h8 hl
  have hTe:=slices_IndexFunc.eta hT
  rw [h0,h1,h7,h8] at hTe
  have hr:zJ zi O false slices_IndexFunc.zY T S=zJ zi O false slices_IndexFunc.zY T S:=rfl
  have hd:(pre.length:Int) < (l.length:Int):=by rw [hl];simp;omega
  have e1:∀ S,zO zi 58 (vs fW 2 k l) (.int .i64 pre.length) S=some (EP (fW x),S):=fun S=>by
   rw [abZ jq jy xR hv (by omega) hd,Jg hl]
  have l1:∀ S,zW zi false 64 (EP (fW x)) S=some (wv x,S):=fun S=>Wi kC jy rfl
  have wi:IntKind.i64.wrap ((pre.length:Int)+1)=((pre++[x]).length:Int):=by rw [wrap_i64 (by omega) (by omega)];simp
  obtain ⟨S1,p1,x1,g1⟩:=hp S x hS (by rw [hl];simp)
  rw [List.any_cons,idxFrom]
  cases hx:p x with
  | true =>
   rw [hx] at p1
   conv at hr =>
    rhs
    rw [hTe]
    simp only [slices_IndexFunc.zY,slices_IndexFunc.code,slices_IndexFunc.rs,zSs,reduceIte,zk,zn,zo,zq,qy,Ym,if_neg hk,hd,e1,l1,p1]
   refine ⟨_,_,_,hL.symm.trans (jw hr (by simp)),x1,g1,?_⟩
   rw [Bool.true_or]
   exact ⟨rfl,rfl⟩
  | false =>
   rw [hx] at p1
   conv at hr =>
    rhs
    rw [hTe]
    simp only [slices_IndexFunc.zY,slices_IndexFunc.code,slices_IndexFunc.rs,zSs,reduceIte,zk,zn,zo,zq,qy,Ym,if_neg hk,hd,e1,l1,p1,wi]
   obtain ⟨e,T',S',q1,q2,q3,q4⟩:=ih (pre++[x]) ((jK hr).symm.trans hL) rfl (hK _ _ hS x1) rfl rfl rfl rfl (by simp [hl])
   refine ⟨e,T',S',q1,x1.trans q2,q3.trans g1,?_⟩
   rw [Bool.false_or]
   rw [show (((pre++[x]).length:Nat):Int)=(pre.length:Int)+1 by simp] at q4
   exact q4
theorem slices_IndexFunc.vC {k:Nat} (hv:Okl k l) (hk:k≠2) (hlen:l.length≤17592186044416) (hp:∀ S x,K S→x ∈ l→∃ S1,zU zi O g [wv x,c] S=some (.bool (p x),S1)∧Ext S S1∧S1.log=S.log) (hK:∀ S S1,K S→Ext S S1→K S1) {S:zy} (hS:K S) :
  ∃ S1,zU zi O slices_IndexFunc.id [vs fW 2 k l,.func (Fn.func g) #[] #[c]] S=some (.int .i64 (idxFrom p 0 l),S1)∧Ext S S1∧S1.log=S.log:=by
 obtain ⟨T,hTe⟩:∃ T,T=(vs fW 2 k l::.func (Fn.func g) #[] #[c]::zh::zh::zh::zh::zh::zh::zh::zh::zh::zh::zh::zh::zh::zh::zh::zh::zh::[]):=⟨_,rfl⟩
 have hr:zJ zi O false slices_IndexFunc.code T S=zJ zi O false slices_IndexFunc.code T S:=rfl
 have ln:=fun S=>Ko (P:=zi) (t:=58) (f:=fW) (e:=2) (S:=S) jq hv
 conv at hr =>
  rhs
  rw [hTe]
  simp only [slices_IndexFunc.code,slices_IndexFunc.rs,zSs,reduceIte,zk,zn,zo,zq,qy,if_neg hk,ln,goInt]
 generalize hL:wQ (zJ zi O false slices_IndexFunc.zY) _ _=r at hr
 obtain ⟨e,T',S',rfl,x1,g1,q⟩:=slices_IndexFunc.afd hv hk hlen hp hK l [] hL rfl hS rfl rfl rfl rfl rfl
 cases h:l.any p with
 | true =>
  rw [h] at q
  obtain ⟨rfl,g2⟩:=q
  conv at hr =>
   rhs
   simp only [zSs,reduceIte,zk,zn,zo,zq]
  rw [hTe] at hr
  have hrun:=slices_IndexFunc.runs hr (.inr rfl)
  rw [g2] at hrun
  exact ⟨_,hrun,x1,g1⟩
 | false =>
  rw [h] at q
  obtain ⟨rfl,g2⟩:=q
  have hTe':=slices_IndexFunc.eta g2
  conv at hr =>
   rhs
   rw [hTe']
   simp only [slices_IndexFunc.code,slices_IndexFunc.rs,zSs,reduceIte,zk,zn,zo,zq]
  rw [hTe] at hr
  rw [ZA h]
  exact ⟨_,slices_IndexFunc.runs hr (.inr rfl),x1,g1⟩
theorem Zn (S:zy):ql zi 64 S=some (.pointer (some ⟨S.next,0,none⟩),S.push (.cells [.int .i64 0,.int .i64 0] (.own []) 0)):=by kernel_rfl
theorem slices_DeleteFunc.round {r n:Nat} (hlen:n≤17592186044416) {fp0:List Nat} {S0:zy} (hp:∀ S x,K S→x ∈ l→∃ S1,zU zi O g [wv x,c] S=some (.bool (p x),S1)∧Ext S S1∧S1.log=S.log) (hc:vT c=false) (hK:∀ S S1,K S→Fr fp0 S S1→K S1) :
  ∀ (suf kept mid:List jF) {T:List Value} {rr:St} {S:zy} {fp:List Nat},wQ (zJ zi O true slices_DeleteFunc.zY) T S=rr→T.length=42→K S→Fr fp0 S0 S→(∀ x ∈ suf,x ∈ l) →
  T.getD 0 zh=.slice (some ⟨r,0,none⟩) n n→T.getD 1 zh=.func (Fn.func g) #[] #[c]→T.getD 5 zh=.int .i64 kept.length→T.getD 6 zh=.int .i64 (kept++mid).length→n=(kept++mid++suf).length→mid.length≠0 →
  wU fW 2 S (some ⟨r,0,none⟩) (kept++mid++suf) fp→(∀ x ∈ fp,x ∈ fp0) →
  ∃ T' S' mid' fp',rr=some (.exit 0,T',S')∧T'.length=42∧T'.getD 0 zh=.slice (some ⟨r,0,none⟩) n n∧T'.getD 5 zh=.int .i64 (kept++suf.filter fun x=>!p x).length∧n=((kept++suf.filter fun x=>!p x)++mid').length∧mid'.length≠0 ∧
   wU fW 2 S' (some ⟨r,0,none⟩) ((kept++suf.filter fun x=>!p x)++mid') fp'∧(∀ x ∈ fp',x ∈ fp0)∧Fr fp0 S0 S':=by
 intro suf
 induction suf with
 | nil =>
  intro kept mid T rr S fp hL hT hS hF hsl h0 h1 h5 h6 hn hm hA hfp
  have hTe:=slices_DeleteFunc.eta hT
  rw [h0,h1,h5,h6] at hTe
  have hr:zJ zi O true slices_DeleteFunc.zY T S=zJ zi O true slices_DeleteFunc.zY T S:=rfl
  have ln:=fun S=>Zc jq (some ⟨r,0,none⟩) n n S
  have hd:¬ ((kept++mid).length:Int) < (n:Int):=by rw [hn];simp
  conv at hr =>
   rhs
   rw [hTe]
   simp only [slices_DeleteFunc.zY,slices_DeleteFunc.code,slices_DeleteFunc.rs,zSs,reduceIte,zk,zn,zo,zq,qy,ln,goInt,hd]
  rw [List.append_nil] at hn hA
  refine ⟨_,_,mid,fp,hL.symm.trans (jw hr (by simp)),rfl,rfl,?_,?_,hm,?_,hfp,hF⟩
  ·
   rw [List.filter_nil,List.append_nil];rfl
  ·
   rw [List.filter_nil,List.append_nil];exact hn
  ·
   rw [List.filter_nil,List.append_nil];exact hA
 | cons x suf ih =>
  intro kept mid T rr S fp hL hT hS hF hsl h0 h1 h5 h6 hn hm hA hfp
  have hTe:=slices_DeleteFunc.eta hT
  rw [h0,h1,h5,h6] at hTe
  have hr:zJ zi O true slices_DeleteFunc.zY T S=zJ zi O true slices_DeleteFunc.zY T S:=rfl
  have ln:=fun S=>Zc jq (some ⟨r,0,none⟩) n n S
  have hd:((kept++mid).length:Int) < (n:Int):=by rw [hn];simp;omega
  have hnl:(kept++mid).length+1≤n:=by omega
  have ix:∀ S,zO zi 58 (.slice (some ⟨r,0,none⟩) n n) (.int .i64 (kept++mid).length) S=some (.pointer (some ⟨r,0+(kept++mid).length * 2,none⟩),S):=fun S=>by
   rw [J6 (o:=0) (n:=n) (c:=n) (q:=r) jq jy (by omega) hd,Int.toNat_natCast]
  have hA0:=hA
  rcases hA0 with ⟨h,_⟩ | ⟨r',anc,rest,ha,hfa,hg,hx⟩
  ·
   cases h
  simp only [Option.some.injEq,Addr.mk.injEq,and_true] at ha
  subst ha
  have l1:zW zi false 64 (.pointer (some ⟨r,0+(kept++mid).length * 2,none⟩)) S=some (wv x,S):=wU.load (P:=zi) (te:=64) (S:=S) kC jy xR ac9 (x:=x) (pre:=kept++mid) (suf:=suf) hg
  obtain ⟨S1,n1,n2,n3,n4⟩:=Zl (P:=zi) (t:=64) (z:=[.int .i64 0,.int .i64 0]) (xs:=fW x) (x:=wv x) S rfl jy rfl rfl
  have al:=Zn S
  have l2:zW zi false 64 (.pointer (some ⟨S.next,0,none⟩)) S1=some (wv x,S1):=by
   have:=Zq n2
   exact this
  have hS1:K S1:=hK _ _ hS (Fr.ext n3)
  obtain ⟨S2,p1,x1,g1⟩:=hp S1 x hS1 (hsl x (by simp))
  have hS2:K S2:=hK _ _ hS1 (Fr.ext x1)
  have hA2:=(hA.ext n3).ext x1
  have hF2:Fr fp0 S0 S2:=(hF.trans (Fr.ext n3) (fp2:=[]) (fun x hx=>by cases hx)).trans (Fr.ext x1) (fp2:=[]) (fun x hx=>by cases hx)
  have l3:zW zi false 64 (.pointer (some ⟨S.next,0,none⟩)) S2=some (wv x,S2):=Zq ((x1.get _ n4).trans n2)
  have wj:IntKind.i64.wrap (((kept++mid).length:Int)+1)=((kept++mid).length:Int)+1:=wrap_i64 (by omega) (by omega)
  have dq:=Xg (hps:=O.hp) (g:=g) (v:=wv x) (c:=c) (S:=S1) rfl hc
  cases hpx:p x with
  | true =>
   rw [hpx] at p1
   conv at hr =>
    rhs
    rw [hTe]
    simp only [slices_DeleteFunc.zY,slices_DeleteFunc.code,slices_DeleteFunc.rs,zSs,reduceIte,zk,zn,zo,zq,qy,ln,goInt,hd,ix,l1,al,n1,l2,dq,p1,wj]
   have hs:=(jK hr).symm.trans hL
   obtain ⟨T',S',mid',fp',q1,q2,q3,q4,q5,q6,q7,q8,q9⟩:=ih kept (mid++[x]) hs rfl hS2 hF2 (fun y hy=>hsl y (by simp [hy])) rfl rfl rfl (by show Value.int .i64 _=Value.int .i64 _;congr 1;simp <;> omega) (by rw [hn];simp <;> omega) (by simp) (by simpa using hA2) hfp
   refine ⟨T',S',mid',fp',q1,q2,q3,?_,?_,q6,?_,q8,q9⟩
   ·
    rw [List.filter_cons_of_neg (by simp [hpx])];exact q4
   ·
    rw [List.filter_cons_of_neg (by simp [hpx])];exact q5
   ·
    rw [List.filter_cons_of_neg (by simp [hpx])];exact q7
  | false =>
   rw [hpx] at p1
   obtain ⟨m,mid2,rfl⟩:∃ m mid2,mid=m::mid2:=by
    cases mid with
    | nil=>simp at hm
    | cons m mid2=>exact ⟨m,mid2,rfl⟩
   have hA3:=hA2
   rcases hA3 with ⟨h,_⟩ | ⟨r',anc2,rest2,ha2,hfa2,hg2,hx2⟩
   ·
    cases h
   simp only [Option.some.injEq,Addr.mk.injEq,and_true] at ha2
   subst ha2
   have hk5:(kept.length:Int) < (n:Int):=by rw [hn];simp;omega
   have ix2:∀ S,zO zi 58 (.slice (some ⟨r,0,none⟩) n n) (.int .i64 kept.length) S=some (.pointer (some ⟨r,0+kept.length * 2,none⟩),S):=fun S=>by
    rw [J6 (o:=0) (n:=n) (c:=n) (q:=r) jq jy (by omega) hk5,Int.toNat_natCast]
   have hg3:S2.get r=some (.cells ((kept++m::(mid2++x::suf)).flatMap fW++rest2) (.own anc2) 2):=by rw [hg2];simp
   obtain ⟨S3,s1,s2,s3,s4,s5⟩:=wU.put (P:=zi) (te:=64) (S:=S2) jy xR adq (by decide) (x:=m) (y:=x) (pre:=kept) (suf:=mid2++x::suf) hg3 (by rw [← hfa2];exact hx2)
   have wi:IntKind.i64.wrap ((kept.length:Int)+1)=(kept.length:Int)+1:=wrap_i64 (by omega) (by omega)
   have hs4:Fr fp0 S2 S3:=s4.more fun x hx=>.inl (hfp x (by rw [hfa2];exact hx))
   have hS3:K S3:=hK _ _ hS2 hs4
   have hF3:Fr fp0 S0 S3:=hF2.trans hs4 fun x hx=>.inl hx
   have hA4:wU fW 2 S3 (some ⟨r,0,none⟩) ((kept++[x])++(mid2++[x])++suf) [r]:=.inr ⟨r,[],rest2,rfl,rfl,by rw [s2];simp,fun y hy=>by
    rw [List.mem_singleton.1 hy]
    exact ⟨by rw [s3];exact (hx2 r (by rw [hfa2];simp)).1,s5⟩⟩
   have sm:jX zi 64 (.pointer (some ⟨r,0+kept.length * 2,none⟩)) (wv x) S2=some (zh,S3):=s1
   conv at hr =>
    rhs
    rw [hTe]
    simp only [slices_DeleteFunc.zY,slices_DeleteFunc.code,slices_DeleteFunc.rs,zSs,reduceIte,zk,zn,zo,zq,qy,ln,goInt,hd,ix,l1,al,n1,l2,dq,p1,wj,l3,ix2,sm,wi]
   have hs:=(jK hr).symm.trans hL
   obtain ⟨T',S',mid',fp',q1,q2,q3,q4,q5,q6,q7,q8,q9⟩:=ih (kept++[x]) (mid2++[x]) hs rfl hS3 hF3 (fun y hy=>hsl y (by simp [hy])) rfl rfl (by show Value.int .i64 _=Value.int .i64 _;congr 1;simp) (by show Value.int .i64 _=Value.int .i64 _;congr 1;simp <;> omega) (by rw [hn];simp <;> omega) (by simp) hA4 (fun y hy=>hfp y (by rw [hfa2];rw [List.mem_singleton.1 hy];simp))
   have hfl:(kept++(x::suf).filter fun x=>!p x)=(kept++[x])++suf.filter fun x=>!p x:=by
    rw [List.filter_cons_of_pos (by simp [hpx])];simp
   refine ⟨T',S',mid',fp',q1,q2,q3,?_,?_,q6,?_,q8,q9⟩
   ·
    rw [hfl];exact q4
   ·
    rw [hfl];exact q5
   ·
    rw [hfl];exact q7
theorem slices_DeleteFunc.v {a:Option Addr} {fp:List Nat} {S:zy} (hA:wU fW 2 S a l fp) (hlen:l.length≤17592186044416) (hp:∀ S x,K S→x ∈ l→∃ S1,zU zi O g [wv x,c] S=some (.bool (p x),S1)∧Ext S S1∧S1.log=S.log) (hc:vT c=false) (hK:∀ S S1,K S→Fr fp S S1→K S1) (hS:K S) :
  ∃ a' S1 fp',zU zi O slices_DeleteFunc.id [.slice a l.length l.length,.func (Fn.func g) #[] #[c]] S=some (.slice a' (l.filter fun x=>!p x).length (l.filter fun x=>!p x).length,S1) ∧
   wU fW 2 S1 a' (l.filter fun x=>!p x) fp'∧(∀ x ∈ fp',x ∈ fp)∧Fr fp S S1:=by
 obtain ⟨T,hTe⟩:∃ T,T=(.slice a l.length l.length::.func (Fn.func g) #[] #[c]::zh::zh::zh::zh::zh::zh::zh::zh::zh::zh::zh::zh::zh::zh::zh::zh::zh::zh::zh::zh::zh::zh::zh::zh::zh::zh::zh::zh::zh::zh::zh::zh::zh::zh::zh::zh::zh::zh::zh::zh::[]):=⟨_,rfl⟩
 have hr:zJ zi O true slices_DeleteFunc.code T S=zJ zi O true slices_DeleteFunc.code T S:=rfl
 have hKE:∀ S S1,K S→Ext S S1→K S1:=fun S S1 h k=>hK S S1 h (Fr.ext k)
 cases hany:l.any p with
 | false =>
  have c1:vN (zU zi O) slices_IndexFunc.id [.slice a l.length l.length,.func (Fn.func g) #[] #[c]] S=some (.int .i64 (-1),S)∨∃ S1,vN (zU zi O) slices_IndexFunc.id [.slice a l.length l.length,.func (Fn.func g) #[] #[c]] S=some (.int .i64 (-1),S1)∧Ext S S1:=by
   rcases hA with ⟨rfl,rfl,rfl⟩ | ⟨r,anc,rest,rfl,rfl,hg,hx⟩
   ·
    obtain ⟨S1,q1,q2,q3⟩:=slices_IndexFunc.vC (l:=[]) (p:=p) (g:=g) (c:=c) (K:=K) (k:=0) Okl.none (by decide) (by simp) (fun S x h hx=>by cases hx) hKE hS
    exact .inr ⟨S1,acK q1 (by rfl),q2⟩
   ·
    left
    have hf:=KD (f:=fW) (e:=2) (q:=r) (l:=l) (rest:=rest) (anc:=anc) (S:=S) xR hg
    obtain ⟨S1,q1,q2,q3⟩:=slices_IndexFunc.vC (k:=1) Okl.read (by decide) hlen hp hKE (hK S (S.set r .dead) hS ((Fr.refl _ _).set (.inl (by simp)) _))
    rw [ZA hany] at q1
    exact WX (Qp hf (by rfl)) q1 (by rfl) rfl q3
  have fin:∀ S1,vN (zU zi O) slices_IndexFunc.id [.slice a l.length l.length,.func (Fn.func g) #[] #[c]] S=some (.int .i64 (-1),S1)→Ext S S1→∃ a' S1 fp',zU zi O slices_DeleteFunc.id [.slice a l.length l.length,.func (Fn.func g) #[] #[c]] S=some (.slice a' (l.filter fun x=>!p x).length (l.filter fun x=>!p x).length,S1) ∧
   wU fW 2 S1 a' (l.filter fun x=>!p x) fp'∧(∀ x ∈ fp',x ∈ fp)∧Fr fp S S1:=fun S1 c1 x1=>by
   have c1:vN (zU zi O) 27 [.slice a l.length l.length,.func (Fn.func g) #[] #[c]] S=some (.int .i64 (-1),S1):=c1
   conv at hr =>
    rhs
    rw [hTe]
    simp only [slices_DeleteFunc.code,slices_DeleteFunc.rs,zSs,reduceIte,zk,zn,zo,zq,qy,c1]
   rw [hTe] at hr
   rw [filter_none hany]
   exact ⟨a,S1,fp,slices_DeleteFunc.runs hr (.inr rfl),hA.ext x1,fun x hx=>hx,Fr.ext x1⟩
  rcases c1 with c1 | ⟨S1,c1,x1⟩
  ·
   exact fin S c1 (Ext.refl _)
  ·
   exact fin S1 c1 x1
 | true =>
  obtain ⟨pre,x,suf,hl,hpre,hpx,hidx⟩:=KG (i:=0) hany
  have hA1:=hA
  rcases hA1 with ⟨_,h,_⟩ | ⟨r,anc,rest,rfl,rfl,hg,hx⟩
  ·
   rw [h] at hany;cases hany
  have hf:=KD (f:=fW) (e:=2) (q:=r) (l:=l) (rest:=rest) (anc:=anc) (S:=S) xR hg
  obtain ⟨S1,q1,q2,q3⟩:=slices_IndexFunc.vC (k:=1) Okl.read (by decide) hlen hp hKE (hK S (S.set r .dead) hS ((Fr.refl _ _).set (.inl (by simp)) _))
  rw [hidx,Int.zero_add] at q1
  have c1:vN (zU zi O) 27 [.slice (some ⟨r,0,none⟩) l.length l.length,.func (Fn.func g) #[] #[c]] S=some (.int .i64 pre.length,S):=WX (Qp hf (by rfl)) q1 (by rfl) rfl q3
  have hll:l.length=pre.length+1+suf.length:=by rw [hl];simp;omega
  have d1:((pre.length:Int)=-1)=False:=eq_false (by omega)
  have wi:IntKind.i64.wrap ((pre.length:Int)+1)=((pre++[x]).length:Int):=by rw [wrap_i64 (by omega) (by omega)];simp
  conv at hr =>
   rhs
   rw [hTe]
   simp only [slices_DeleteFunc.code,slices_DeleteFunc.rs,zSs,reduceIte,zk,zn,zo,zq,qy,c1,d1,wi]
  generalize hL:wQ (zJ zi O true slices_DeleteFunc.zY) _ _=rr at hr
  obtain ⟨T',S',mid',fp',rfl,w2,w3,w4,w5,w6,w7,w8,w9⟩:=slices_DeleteFunc.round (l:=l) (p:=p) (g:=g) (c:=c) (K:=K) (r:=r) (n:=l.length) (fp0:=r::anc) (S0:=S) hlen hp hc hK suf pre [x] (fp:=r::anc) hL rfl hS (Fr.refl _ _) (fun y hy=>by rw [hl];simp [hy]) rfl rfl rfl rfl (by rw [hl];simp) (by simp) (by rw [List.append_assoc,List.singleton_append,← hl];exact hA) (fun y hy=>hy)
  have hfil:l.filter (fun x=>!p x)=pre++suf.filter fun x=>!p x:=by
   rw [hl,List.filter_append,filter_none hpre,List.filter_cons_of_neg (by simp [hpx])]
  rw [← hfil] at w4 w5 w7
  generalize hkp:(l.filter fun x=>!p x)=kept at *
  rcases w7 with ⟨h,_⟩ | ⟨r',anc2,rest2,ha2,hfa2,hg2,hx2⟩
  ·
   cases h
  simp only [Option.some.injEq,Addr.mk.injEq,and_true] at ha2
  subst ha2
  have hkn:kept.length+mid'.length=l.length:=by rw [w5];simp
  have sl:∀ S3,S3.get r=S'.get r→yP zi false 58 (.slice (some ⟨r,0,none⟩) l.length l.length) (some (.int .i64 kept.length)) none S3=some (.slice (some ⟨r,0+kept.length * 2,none⟩) mid'.length mid'.length,S3):=fun S3 h3=>by
   rw [QS (P:=zi) (t:=58) (o:=0) (n:=l.length) (c:=l.length) (l:=kept.length) (h:=l.length) rfl (h3.trans hg2) jq jy rfl rfl (by omega) (by omega) (by omega)]
   simp only [Int.toNat_natCast]
   rw [show l.length - kept.length=mid'.length by omega]
  obtain ⟨S4,rest4,e1,e2,e3,e4,e5⟩:=wU.clear (P:=zi) (t:=58) (te:=64) (S:=S') jq jy Jc rfl rfl rfl (by decide) xR (pre:=kept) (suf:=mid') hg2 w6 (by rw [← hfa2];exact hx2) mid'.length
  have sl2:yP zi false 58 (.slice (some ⟨r,0,none⟩) l.length l.length) none (some (.int .i64 kept.length)) S4=some (.slice (some ⟨r,0,none⟩) kept.length kept.length,S4):=by
   rw [QS (P:=zi) (t:=58) (o:=0) (n:=l.length) (c:=l.length) (l:=0) (h:=kept.length) rfl e2 jq jy rfl rfl (by omega) (by omega) (by omega)]
   simp
  have hTe':=slices_DeleteFunc.eta w2
  rw [w3,w4] at hTe'
  have sl1:=sl S' rfl
  conv at hr =>
   rhs
   simp only [zSs,reduceIte,zk,zn,zo,zq]
   rw [hTe']
   simp only [slices_DeleteFunc.code,slices_DeleteFunc.rs,zSs,reduceIte,zk,zn,zo,zq,sl1,e1,sl2]
  rw [hTe] at hr
  refine ⟨some ⟨r,0,none⟩,S4,[r],slices_DeleteFunc.runs hr (.inr rfl),.inr ⟨r,[],rest4,rfl,rfl,e2,fun y hy=>by rw [List.mem_singleton.1 hy];exact ⟨by rw [e3];exact (hx2 r (by rw [hfa2];simp)).1,e5⟩⟩,fun y hy=>by rw [List.mem_singleton.1 hy];simp,w9.trans e4 fun y hy=>.inl (w8 y (by rw [hfa2];exact hy))⟩
end
end Go.Proofs.Ytpjglojnipjgfaa
namespace Go.Proofs.Ytpjglojnipjgfaa
open Go.Abs
abbrev zX.id:FuncId:=29
noncomputable def zX.code:Code:=(.seq (.region 0 (reg Try.f29 0) false) (.seq (.region 1 (reg Try.f29 1) false) Code.ret))
theorem zX.body:Try.f29.body=some zX.code:=by kernel_rfl
variable (b c d o p q z s t u i k l m n:Value) (S:zy)
theorem zX.r0 :jk zi ⟨false,false,false⟩ (zU zi O) (reg Try.f29 0) (reg Try.f29 0).toList ([b,c,d,o,p,q,z,s,t,u,i,k,l,m,n]) S =
  ( some ([b,c,d,o,p,q,Value.bool false,s,t,u,i,k,l,m,n],S)):=by
 kernel_rfl
theorem zX.r1 :jk zi ⟨false,false,false⟩ (zU zi O) (reg Try.f29 1) (reg Try.f29 1).toList ([b,c,d,o,p,q,z,s,t,u,i,k,l,m,n]) S =
  (zM (wB zi BinOp.geq 3 (dem b) (dem c) S) (fun f g=>gdK (dem f) true (ret b) g (fun w A=>gdK (dem f) true (ret d) A (fun x B=>gdK (dem f) true (wB zi BinOp.leq 3 (dem w) (dem x)) B (fun y C=>zM (qJ (dem f) y (Value.bool false) C) (fun r D=>some ([b,c,d,o,p,q,r,dem b,dem c,f,dem f,dem w,dem x,y,dem r],D)) ()) ()) ()) ()) ()):=by
 refine sP Try.f29 1 0 (v:=b) ?_
 refine sP Try.f29 1 1 (v:=c) ?_
 refine sD Try.f29 1 2 (fun f g=>?_)
 refine sP Try.f29 1 3 (v:=f) ?_
 refine sG Try.f29 1 4 (j:=3) (fun w A=>?_)
 refine sG Try.f29 1 5 (j:=3) (fun x B=>?_)
 refine sG Try.f29 1 6 (j:=3) (fun y C=>?_)
 refine sD Try.f29 1 7 (fun r D=>?_)
 refine sP Try.f29 1 8 (v:=r) ?_
 kernel_rfl
theorem zX.rs:type_of% (afM @zX.r0 (@zX.r1)):=afM @zX.r0 (@zX.r1)
theorem zX.runs {b c d:Value} {S g:zy} {e:AEx} {T:List Value} (h:zJ zi O false zX.code ([b,c,d,zh,zh,zh,zh,zh,zh,zh,zh,zh,zh,zh,zh]) S=some (e,T,g)) (he:e=.normal∨e=.ret):zU zi O 29 [b,c,d] S=some (T.getD 6 zh,g) :=
 jS rfl rfl Try.func29 (by decide) zX.body (by exact h) he (wI (a:=T.getD 6 zh) ((show zN zi T g Try.f29.results.toList=zN zi T g [(ResultVar.tmp 6)] from by kernel_rfl).trans (by simp only [zN])) (by kernel_rfl))
end Go.Proofs.Ytpjglojnipjgfaa
namespace Go.Proofs.Ytpjglojnipjgfaa
open Go.Abs
abbrev jh.id:FuncId:=25
noncomputable def jh.code:Code:=(.seq (.region 0 (reg Try.f25 0) false) (.seq (.region 1 (reg Try.f25 1) false) Code.ret))
theorem jh.body:Try.f25.body=some jh.code:=by kernel_rfl
variable (b g w k l m n o p q f:Value) (S:zy)
theorem jh.r0 :jk zi ⟨false,false,false⟩ (zU zi O) (reg Try.f25 0) (reg Try.f25 0).toList ([b,g,w,k,l,m,n,o,p,q,f]) S =
  ( some ([b,g,Value.bool false,k,l,m,n,o,p,q,f],S)):=by
 kernel_rfl
theorem jh.r1 :jk zi ⟨false,false,false⟩ (zU zi O) (reg Try.f25 1) (reg Try.f25 1).toList ([b,g,w,k,l,m,n,o,p,q,f]) S =
  (zM ((zU zi O) 29 [(dem (dem b)),(.int .i64 65536),(.int .i64 268435455)] S) (fun c d=>gdK (dem c) true (ret b) d (fun r x=>gdK (dem c) true (wB zi BinOp.rem 3 (dem r) (.int .i64 65536)) x (fun s y=>gdK (dem c) true (wB zi BinOp.quo 3 s (.int .i64 256)) y (fun t z=>gdK (dem c) true (wB zi BinOp.lss 3 t (.int .i64 7)) z (fun u A=>zM (qJ (dem c) u (Value.bool false) A) (fun i B=>some ([b,g,i,dem b,c,dem c,dem r,s,t,u,dem i],B)) ()) ()) ()) ()) ()) ()):=by
 refine sP Try.f25 1 0 (v:=b) ?_
 refine sD Try.f25 1 1 (fun c d=>?_)
 refine sP Try.f25 1 2 (v:=c) ?_
 refine sG Try.f25 1 3 (j:=2) (fun r x=>?_)
 refine sG Try.f25 1 4 (j:=2) (fun s y=>?_)
 refine sG Try.f25 1 5 (j:=2) (fun t z=>?_)
 refine sG Try.f25 1 6 (j:=2) (fun u A=>?_)
 refine sD Try.f25 1 7 (fun i B=>?_)
 refine sP Try.f25 1 8 (v:=i) ?_
 kernel_rfl
theorem jh.rs:type_of% (afM @jh.r0 (@jh.r1)):=afM @jh.r0 (@jh.r1)
theorem jh.runs {b:Value} {S d:zy} {e:AEx} {T:List Value} (h:zJ zi O false jh.code ([b,zh,zh,zh,zh,zh,zh,zh,zh,zh,zh]) S=some (e,T,d)) (he:e=.normal∨e=.ret):zU zi O 25 [b] S=some (T.getD 2 zh,d) :=
 jS rfl rfl Try.func25 (by decide) jh.body (by exact h) he (wI (a:=T.getD 2 zh) ((show zN zi T d Try.f25.results.toList=zN zi T d [(ResultVar.tmp 2)] from by kernel_rfl).trans (by simp only [zN])) (by kernel_rfl))
end Go.Proofs.Ytpjglojnipjgfaa
namespace Go.Proofs.Ytpjglojnipjgfaa
open Go.Abs
abbrev je.id:FuncId:=19
noncomputable def je.code:Code:=(.seq (.region 0 (reg Try.f19 0) false) (.seq (.seq (.region 1 (reg Try.f19 1) false) (.cond (.tmp 5) (.seq (.region 2 (reg Try.f19 2) false) Code.ret) Code.skip)) (.seq (.region 3 (reg Try.f19 3) false) Code.ret)))
theorem je.body:Try.f19.body=some je.code:=by kernel_rfl
variable (b c l f g i j k:Value) (S:zy)
theorem je.r0 :jk zi ⟨false,false,false⟩ (zU zi O) (reg Try.f19 0) (reg Try.f19 0).toList ([b,c,l,f,g,i,j,k]) S =
  ( some ([b,c,.int .i64 0,f,g,i,j,k],S)):=by
 kernel_rfl
theorem je.r1 :jk zi ⟨false,false,false⟩ (zU zi O) (reg Try.f19 1) (reg Try.f19 1).toList ([b,c,l,f,g,i,j,k]) S =
  (zM ((zU zi O) 25 [(dem (dem b))] S) (fun m d=>zM (aUn zi UnOp.not m d) (fun n o=>some ([b,c,l,dem b,m,n,j,k],o)) ()) ()):=by
 kernel_rfl
theorem je.r2 :jk zi ⟨false,false,false⟩ (zU zi O) (reg Try.f19 2) (reg Try.f19 2).toList ([b,c,l,f,g,i,j,k]) S =
  ( some ([b,c,.int .i64 0,f,g,i,j,k],S)):=by
 kernel_rfl
theorem je.r3 :jk zi ⟨false,false,false⟩ (zU zi O) (reg Try.f19 3) (reg Try.f19 3).toList ([b,c,l,f,g,i,j,k]) S =
  (zM (wB zi BinOp.quo 3 (dem b) (.int .i64 65536) S) (fun m d=>some ([b,c,m,f,g,i,dem b,dem m],d)) ()):=by
 kernel_rfl
theorem je.rs:type_of% (afM @je.r0 (afM @je.r1 (afM @je.r2 (@je.r3)))):=afM @je.r0 (afM @je.r1 (afM @je.r2 (@je.r3)))
theorem je.runs {b:Value} {S d:zy} {e:AEx} {T:List Value} (h:zJ zi O false je.code ([b,zh,zh,zh,zh,zh,zh,zh]) S=some (e,T,d)) (he:e=.normal∨e=.ret):zU zi O 19 [b] S=some (T.getD 2 zh,d) :=
 jS rfl rfl Try.func19 (by decide) je.body (by exact h) he (wI (a:=T.getD 2 zh) ((show zN zi T d Try.f19.results.toList=zN zi T d [(ResultVar.tmp 2)] from by kernel_rfl).trans (by simp only [zN])) (by kernel_rfl))
end Go.Proofs.Ytpjglojnipjgfaa
namespace Go.Proofs.Ytpjglojnipjgfaa
open Go.Abs
abbrev zH.id:FuncId:=21
noncomputable def zH.code:Code:=(.seq (.region 0 (reg Try.f21 0) false) (.seq (.seq (.region 1 (reg Try.f21 1) false) (.cond (.tmp 10) (.seq (.region 2 (reg Try.f21 2) false) Code.ret) Code.skip)) (.seq (.region 3 (reg Try.f21 3) false) (.seq (.region 4 (reg Try.f21 4) false) Code.ret))))
theorem zH.body:Try.f21.body=some zH.code:=by kernel_rfl
variable (a E H I J K b c C G d f g i k l m n o p q r s t u w x y z A B:Value) (S:zy)
theorem zH.r0 :jk zi ⟨false,false,false⟩ (zU zi O) (reg Try.f21 0) (reg Try.f21 0).toList ([a,E,H,I,J,K,b,c,C,G,d,f,g,i,k,l,m,n,o,p,q,r,s,t,u,w,x,y,z,A,B]) S =
  ( some ([a,E,.int .i64 0,.int .i64 0,.int .i64 0,Value.bool false,b,c,C,G,d,f,g,i,k,l,m,n,o,p,q,r,s,t,u,w,x,y,z,A,B],S)):=by
 kernel_rfl
theorem zH.r1 :jk zi ⟨false,false,false⟩ (zU zi O) (reg Try.f21 1) (reg Try.f21 1).toList ([a,E,H,I,J,K,b,c,C,G,d,f,g,i,k,l,m,n,o,p,q,r,s,t,u,w,x,y,z,A,B]) S =
  (zM (wB zi BinOp.lss 3 (dem a) (.int .i64 0) S) (fun R D=>some ([a,E,H,I,J,K,b,c,C,dem a,R,f,g,i,k,l,m,n,o,p,q,r,s,t,u,w,x,y,z,A,B],D)) ()):=by
 kernel_rfl
theorem zH.r2 :jk zi ⟨false,false,false⟩ (zU zi O) (reg Try.f21 2) (reg Try.f21 2).toList ([a,E,H,I,J,K,b,c,C,G,d,f,g,i,k,l,m,n,o,p,q,r,s,t,u,w,x,y,z,A,B]) S =
  ( some ([a,E,.int .i64 0,.int .i64 0,.int .i64 0,Value.bool false,b,c,C,G,d,f,g,i,k,l,m,n,o,p,q,r,s,t,u,w,x,y,z,A,B],S)):=by
 kernel_rfl
theorem zH.r3 :jk zi ⟨false,false,false⟩ (zU zi O) (reg Try.f21 3) (reg Try.f21 3).toList ([a,E,H,I,J,K,b,c,C,G,d,f,g,i,k,l,m,n,o,p,q,r,s,t,u,w,x,y,z,A,B]) S =
  (zM (wB zi BinOp.quo 3 (dem a) (.int .i64 65536) S) (fun R D=>zM (wB zi BinOp.quo 3 (dem a) (.int .i64 256) D) (fun Y U=>zM (wB zi BinOp.rem 3 Y (.int .i64 256) U) (fun F V=>zM (wB zi BinOp.rem 3 (dem a) (.int .i64 256) V) (fun N W=>some ([a,E,H,I,J,K,R,F,N,G,d,dem a,dem R,dem a,Y,dem F,dem a,dem N,o,p,q,r,s,t,u,w,x,y,z,A,B],W)) ()) ()) ()) ()):=by
 kernel_rfl
theorem zH.r4 :jk zi ⟨false,false,false⟩ (zU zi O) (reg Try.f21 4) (reg Try.f21 4).toList ([a,E,H,I,J,K,b,c,C,G,d,f,g,i,k,l,m,n,o,p,q,r,s,t,u,w,x,y,z,A,B]) S =
  (zM (wB zi BinOp.geq 3 (dem (dem b)) (.int .i64 1) S) (fun F D=>gdK (dem F) true (ret (dem b)) D (fun N U=>gdK (dem F) true (wB zi BinOp.leq 3 (dem N) (.int .i64 4095)) U (fun X V=>zM (qJ (dem F) X (Value.bool false) V) (fun L W=>gdK (dem L) true (ret (dem c)) W (fun P Z=>gdK (dem L) true (wB zi BinOp.leq 3 (dem P) (.int .i64 6)) Z (fun Q S6=>zM (qJ (dem L) Q (Value.bool false) S6) (fun M S7=>some ([a,E,b,c,C,M,dem b,dem c,dem C,G,d,f,g,i,k,l,m,n,dem b,dem c,dem C,dem (dem b),F,dem F,dem N,X,L,dem L,dem P,Q,dem M],S7)) ()) ()) ()) ()) ()) ()) ()):=by
 refine sP Try.f21 4 0 (v:=b) ?_
 refine sP Try.f21 4 1 (v:=c) ?_
 refine sP Try.f21 4 2 (v:=C) ?_
 refine sP Try.f21 4 3 (v:=(dem b)) ?_
 refine sD Try.f21 4 4 (fun F D=>?_)
 refine sP Try.f21 4 5 (v:=F) ?_
 refine sG Try.f21 4 6 (j:=5) (fun N U=>?_)
 refine sG Try.f21 4 7 (j:=5) (fun X V=>?_)
 refine sD Try.f21 4 8 (fun L W=>?_)
 refine sP Try.f21 4 9 (v:=L) ?_
 refine sG Try.f21 4 10 (j:=9) (fun P Z=>?_)
 refine sG Try.f21 4 11 (j:=9) (fun Q S6=>?_)
 refine sD Try.f21 4 12 (fun M S7=>?_)
 refine sP Try.f21 4 13 (v:=b) ?_
 refine sP Try.f21 4 14 (v:=c) ?_
 refine sP Try.f21 4 15 (v:=C) ?_
 refine sP Try.f21 4 16 (v:=M) ?_
 kernel_rfl
theorem zH.rs:type_of% (afM @zH.r0 (afM @zH.r1 (afM @zH.r2 (afM @zH.r3 (@zH.r4))))):=afM @zH.r0 (afM @zH.r1 (afM @zH.r2 (afM @zH.r3 (@zH.r4))))
theorem zH.runs {a:Value} {S D:zy} {e:AEx} {T:List Value} (h:zJ zi O false zH.code ([a,zh,zh,zh,zh,zh,zh,zh,zh,zh,zh,zh,zh,zh,zh,zh,zh,zh,zh,zh,zh,zh,zh,zh,zh,zh,zh,zh,zh,zh,zh]) S=some (e,T,D)) (he:e=.normal∨e=.ret)  (h0:jV (T.getD 2 zh)=true) (h1:jV (T.getD 3 zh)=true) (h2:jV (T.getD 4 zh)=true) (h3:jV (T.getD 5 zh)=true):zU zi O 21 [a] S=some (Value.tuple #[T.getD 2 zh,T.getD 3 zh,T.getD 4 zh,T.getD 5 zh],D) :=
 jS rfl rfl Try.func21 (by decide) zH.body (by exact h) he ((JE ((show zN zi T D Try.f21.results.toList=zN zi T D [(ResultVar.tmp 2),(ResultVar.tmp 3),(ResultVar.tmp 4),(ResultVar.tmp 5)] from by kernel_rfl).trans (by simp only [zN])) (by kernel_rfl) (by simp only [List.all_cons,List.all_nil,h0,h1,h2,h3,Bool.and_true])).trans rfl)
end Go.Proofs.Ytpjglojnipjgfaa
namespace Go.Proofs.Ytpjglojnipjgfaa
open Go.Abs
def btw (n a b:Int):Bool:=decide (a≤n) && decide (n≤b)
theorem aev {n a b:Int}:btw n a b=true ↔ a≤n∧n≤b:=by simp [btw]
def qm (n:Int):Bool:=btw n 65536 268435455 && decide (n % 65536 / 256 < 7)
theorem kT {n:Int}:qm n=true ↔ 65536≤n∧n≤268435455∧n % 65536 / 256 < 7:=by simp [qm,btw,and_assoc]
def WJ (n:Int):Int:=if qm n=true then n / 65536 else 0
theorem xw {n m:Int} (h:0≤n):n.tmod m=n % m:=Int.tmod_eq_emod_of_nonneg h
theorem Jr {n m:Int} (h:0≤n):n.tdiv m=n / m:=Int.tdiv_eq_ediv_of_nonneg h
theorem Q8:(65536:Int)≠0:=by decide
theorem adN:(256:Int)≠0:=by decide
theorem zX.v (n a b:Int) (S:zy):zU zi O zX.id [.int .i64 n,.int .i64 a,.int .i64 b] S=some (.bool (btw n a b),S):=by
 obtain ⟨T,hTe⟩:∃ T,T=(.int .i64 n::.int .i64 a::.int .i64 b::zh::zh::zh::zh::zh::zh::zh::zh::zh::zh::zh::zh::[]):=⟨_,rfl⟩
 have hr:zJ zi O false zX.code T S=zJ zi O false zX.code T S:=rfl
 unfold btw
 by_cases h1:a≤n
 ·
  conv at hr =>
   rhs
   rw [hTe]
   simp only [zX.code,zX.rs,zSs,reduceIte,zk,zn,zo,zq,decide_eq_true h1]
  rw [decide_eq_true h1,Bool.true_and]
  rw [hTe] at hr
  exact zX.runs hr (.inr rfl)
 ·
  conv at hr =>
   rhs
   rw [hTe]
   simp only [zX.code,zX.rs,zSs,reduceIte,zk,zn,zo,zq,decide_eq_false h1]
  rw [decide_eq_false h1,Bool.false_and]
  rw [hTe] at hr
  exact zX.runs hr (.inr rfl)
theorem jh.v (n:Int) (S:zy):zU zi O jh.id [.int .i64 n] S=some (.bool (qm n),S):=by
 obtain ⟨T,hTe⟩:∃ T,T=(.int .i64 n::zh::zh::zh::zh::zh::zh::zh::zh::zh::zh::[]):=⟨_,rfl⟩
 have hr:zJ zi O false jh.code T S=zJ zi O false jh.code T S:=rfl
 unfold qm
 cases h1:btw n 65536 268435455
 ·
  conv at hr =>
   rhs
   rw [hTe]
   simp only [jh.code,jh.rs,zSs,reduceIte,zk,zn,zo,zq,zX.v,h1]
  rw [hTe] at hr
  exact jh.runs hr (.inr rfl)
 ·
  have hb:=aev.mp h1
  have q1:IntKind.i64.wrap ((n.tmod 65536).tdiv 256)=n % 65536 / 256:=by
   rw [xw (by omega),Jr (by omega),wrap_i64 (by omega) (by omega)]
  conv at hr =>
   rhs
   rw [hTe]
   simp only [jh.code,jh.rs,zSs,reduceIte,zk,zn,zo,zq,zX.v,h1,kD _ _ _ Q8,kE _ _ _ adN,q1]
  rw [hTe] at hr
  rw [Bool.true_and]
  exact jh.runs hr (.inr rfl)
theorem je.v (n:Int) (S:zy):zU zi O je.id [.int .i64 n] S=some (.int .i64 (WJ n),S):=by
 obtain ⟨T,hTe⟩:∃ T,T=(.int .i64 n::zh::zh::zh::zh::zh::zh::zh::[]):=⟨_,rfl⟩
 have hr:zJ zi O false je.code T S=zJ zi O false je.code T S:=rfl
 unfold WJ
 cases h1:qm n
 ·
  conv at hr =>
   rhs
   rw [hTe]
   simp only [je.code,je.rs,zSs,reduceIte,zk,zn,zo,zq,jh.v,h1]
  rw [hTe] at hr
  exact je.runs hr (.inr rfl)
 ·
  have hb:=kT.mp h1
  have q1:IntKind.i64.wrap (n.tdiv 65536)=n / 65536:=by
   rw [Jr (by omega),wrap_i64 (by omega) (by omega)]
  conv at hr =>
   rhs
   rw [hTe]
   simp only [je.code,je.rs,zSs,reduceIte,zk,zn,zo,zq,jh.v,h1,kE _ _ _ Q8,q1]
  rw [hTe] at hr
  exact je.runs hr (.inr rfl)
def XF (n:Int):Value:=if n < 0 then .tuple #[.int .i64 0,.int .i64 0,.int .i64 0,.bool false] else .tuple #[.int .i64 (n / 65536),.int .i64 (n / 256 % 256),.int .i64 (n % 256),.bool (qm n)]
theorem zH.v (n:Int) (hn:n < 9223372036854775808) (S:zy):zU zi O zH.id [.int .i64 n] S=some (XF n,S):=by
 obtain ⟨T,hTe⟩:∃ T,T=(.int .i64 n::zh::zh::zh::zh::zh::zh::zh::zh::zh::zh::zh::zh::zh::zh::zh::zh::zh::zh::zh::zh::zh::zh::zh::zh::zh::zh::zh::zh::zh::zh::[]):=⟨_,rfl⟩
 have hr:zJ zi O false zH.code T S=zJ zi O false zH.code T S:=rfl
 unfold XF
 by_cases h0:n < 0
 ·
  conv at hr =>
   rhs
   rw [hTe]
   simp only [zH.code,zH.rs,zSs,reduceIte,zk,zn,zo,zq,decide_eq_true h0]
  rw [hTe] at hr
  rw [if_pos h0]
  exact zH.runs hr (.inr rfl) rfl rfl rfl rfl
 ·
  have q1:IntKind.i64.wrap (n.tdiv 65536)=n / 65536:=by
   rw [Jr (by omega),wrap_i64 (by omega) (by omega)]
  have q2:(IntKind.i64.wrap (n.tdiv 256)).tmod 256=n / 256 % 256:=by
   rw [Jr (by omega),wrap_i64 (by omega) (by omega),xw (by omega)]
  have q3:n.tmod 256=n % 256:=xw (by omega)
  rw [if_neg h0]
  by_cases h1:1≤n / 65536
  ·
   by_cases h2:n / 65536≤4095
   ·
    have e:qm n=decide (n / 256 % 256≤6):=by
     rw [Bool.eq_iff_iff,kT];simp;omega
    rw [e]
    conv at hr =>
     rhs
     rw [hTe]
     simp only [zH.code,zH.rs,zSs,reduceIte,zk,zn,zo,zq,decide_eq_false h0,kD _ _ _ adN,kE _ _ _ adN,kE _ _ _ Q8,q1,q2,q3,decide_eq_true h1,decide_eq_true h2]
    rw [hTe] at hr
    exact zH.runs hr (.inr rfl) rfl rfl rfl rfl
   ·
    have e:qm n=false:=by
     cases h:qm n with
     | false=>rfl
     | true=>have:=kT.mp h;omega
    rw [e]
    conv at hr =>
     rhs
     rw [hTe]
     simp only [zH.code,zH.rs,zSs,reduceIte,zk,zn,zo,zq,decide_eq_false h0,kD _ _ _ adN,kE _ _ _ adN,kE _ _ _ Q8,q1,q2,q3,decide_eq_true h1,decide_eq_false h2]
    rw [hTe] at hr
    exact zH.runs hr (.inr rfl) rfl rfl rfl rfl
  ·
   have e:qm n=false:=by
    cases h:qm n with
    | false=>rfl
    | true=>have:=kT.mp h;omega
   rw [e]
   conv at hr =>
    rhs
    rw [hTe]
    simp only [zH.code,zH.rs,zSs,reduceIte,zk,zn,zo,zq,decide_eq_false h0,kD _ _ _ adN,kE _ _ _ adN,kE _ _ _ Q8,q1,q2,q3,decide_eq_false h1]
   rw [hTe] at hr
   exact zH.runs hr (.inr rfl) rfl rfl rfl rfl
end Go.Proofs.Ytpjglojnipjgfaa
namespace Go.Proofs.Ytpjglojnipjgfaa
open Go.Abs
structure Ft (S:zy) (q:Nat) (me nodes:Int) (l:List jF) (fp:List Nat):Prop where
 lt:q < S.next
 len:l.length≤32
 cell:∃ a,S.get q=some (.cells [.int .i64 me,.int .i64 nodes,.slice a l.length l.length] (.own []) 0)∧wU fW 2 S a l fp
section
variable {S:zy} {q:Nat} {me nodes:Int} {l:List jF} {fp:List Nat}
theorem Ft.QL (h:Ft S q me nodes l fp):q ∉ fp:=by
 obtain ⟨a,h1,h2⟩:=h.cell
 exact h2.QL h1
theorem Ft.flt (h:Ft S q me nodes l fp):∀ x ∈ fp,x < S.next:=by
 obtain ⟨a,h1,h2⟩:=h.cell
 exact h2.lt
theorem Ft.ext {S1:zy} (h:Ft S q me nodes l fp) (k:Ext S S1):Ft S1 q me nodes l fp:=by
 obtain ⟨a,h1,h2⟩:=h.cell
 exact ⟨Nat.lt_of_lt_of_le h.lt k.next,h.len,a,by rw [k.get q h.lt];exact h1,h2.ext k⟩
def Yu (q:Nat) (S S1:zy):Prop:=S.next≤S1.next∧∀ p cs own,p≠q→p < S.next→S.get p=some (.cells cs own 0)→S1.get p=S.get p
theorem Yu.refl (q:Nat) (S:zy):Yu q S S:=⟨Nat.le_refl _,fun _ _ _ _ _ _=>rfl⟩
theorem Yu.trans {S1 S2:zy} (h:Yu q S S1) (k:Yu q S1 S2):Yu q S S2:=⟨Nat.le_trans h.1 k.1,fun p cs own hp hl hg=>by
 have h1:=h.2 p cs own hp hl hg
 rw [k.2 p cs own hp (Nat.lt_of_lt_of_le hl h.1) (h1.trans hg),h1]⟩
theorem Yu.ext {S1:zy} (h:Ext S S1):Yu q S S1:=⟨h.next,fun p _ _ _ hl _=>h.get p hl⟩
theorem Ft.stay {S1:zy} (h:Ft S q me nodes l fp) (k:Fr (q::fp) S S1):Yu q S S1:=⟨k.1,fun p cs own hp hl hg=>k.2 p hl (by
 obtain ⟨a,h1,h2⟩:=h.cell
 simp only [List.mem_cons,not_or]
 exact ⟨hp,h2.QL hg⟩)⟩
theorem jI.v (me nodes:Int) (S:zy):∃ S1,zU zi O jI.id [.int .i64 me,.int .i64 nodes] S=some (.pointer (some ⟨S.next,0,none⟩),S1)∧Ft S1 S.next me nodes [] []∧Ext S S1:=by
 obtain ⟨T,hTe⟩:∃ T,T=(.int .i64 me::.int .i64 nodes::zh::zh::zh::zh::zh::zh::zh::[]):=⟨_,rfl⟩
 have hr:zJ zi O false jI.code T S=zJ zi O false jI.code T S:=rfl
 have bd:=Zx (y0:=.int .i64 me) (y1:=.int .i64 nodes) rfl rfl S
 obtain ⟨S1,b1,b2,b3,b4⟩:=ac0 (.agg [.int .i64 me,.int .i64 nodes,.slice none 0 0].toArray) S
 conv at hr =>
  rhs
  rw [hTe]
  simp only [jI.code,jI.rs,zSs,reduceIte,zk,zn,zo,zq,bd,b1]
 rw [hTe] at hr
 exact ⟨_,jI.runs hr (.inr rfl),⟨b4,by simp,none,b2,.inl ⟨rfl,rfl,rfl⟩⟩,b3⟩
theorem ZH {k:Nat} {l:List Int} {x:Int} {S:zy} (h:Okl k l) (hk:k≠1) (hl:l.length≤17592186044000):yj zi 29 29 (iz k l) (sv 2 1 1 [.int .i64 x]) S=some (iz 2 (l++[x]),S):=by
 rw [afp];exact aef h hk hl
theorem zG.round {r:Nat} (hn:l.length≤32):∀ (suf pre:List jF) {T:List Value} {rr:St} {S:zy} {k:Nat},wQ (zJ zi O false zG.zY) T S=rr→T.length=22 →
  T.getD 3 zh=iz k (pre.map (·.name))→T.getD 9 zh=.slice (some ⟨r,0,none⟩) l.length l.length→T.getD 10 zh=.int .i64 l.length→T.getD 11 zh=.int .i64 pre.length→l=pre++suf→Okl k (pre.map (·.name))→k≠1→wU fW 2 S (some ⟨r,0,none⟩) l fp →
  ∃ T' S' k',rr=some (.exit 0,T',S')∧T'.length=22∧T'.getD 3 zh=iz k' (l.map (·.name))∧Okl k' (l.map (·.name))∧k'≠1∧Ext S S':=by
 intro suf
 induction suf with
 | nil =>
  intro pre T rr S k hL hT h3 h9 h10 h11 hl hk k1 hA
  have hTe:=zG.eta hT
  rw [h3,h9,h10,h11] at hTe
  have hr:zJ zi O false zG.zY T S=zJ zi O false zG.zY T S:=rfl
  have hd:¬ (pre.length:Int) < (l.length:Int):=by rw [hl];simp
  conv at hr =>
   rhs
   rw [hTe]
   simp only [zG.zY,zG.code,zG.rs,zSs,reduceIte,zk,zn,zo,zq,hd]
  have hp:l=pre:=by rw [hl,List.append_nil]
  exact ⟨_,_,k,hL.symm.trans (jw hr (by simp)),rfl,by rw [hp];rfl,by rw [hp];exact hk,k1,Ext.refl _⟩
 | cons x suf ih =>
  intro pre T rr S k hL hT h3 h9 h10 h11 hl hk k1 hA
  have hTe:=zG.eta hT
  rw [h3,h9,h10,h11] at hTe
  have hr:zJ zi O false zG.zY T S=zJ zi O false zG.zY T S:=rfl
  have hd:(pre.length:Int) < (l.length:Int):=by rw [hl];simp;omega
  have ix:∀ S,zO zi 58 (.slice (some ⟨r,0,none⟩) l.length l.length) (.int .i64 pre.length) S=some (.pointer (some ⟨r,0+pre.length * 2,none⟩),S):=fun S=>by
   rw [J6 (o:=0) (n:=l.length) (c:=l.length) (q:=r) jq jy (by omega) hd,Int.toNat_natCast]
  have hA0:=hA
  rcases hA0 with ⟨h,_⟩ | ⟨r',anc,rest,ha,hfa,hg,hx⟩
  ·
   cases h
  simp only [Option.some.injEq,Addr.mk.injEq,and_true] at ha
  subst ha
  have l1:zW zi false 64 (.pointer (some ⟨r,0+pre.length * 2,none⟩)) S=some (wv x,S):=wU.load (P:=zi) (te:=64) (S:=S) kC jy xR ac9 (x:=x) (pre:=pre) (suf:=suf) (by rw [← hl];exact hg)
  obtain ⟨S1,n1,n2,n3,n4⟩:=Zl (P:=zi) (t:=64) (z:=[.int .i64 0,.int .i64 0]) (xs:=fW x) (x:=wv x) S rfl jy rfl rfl
  have al:=Zn S
  have l2:zW zi false 3 (.pointer (some ⟨S.next,0+0,none⟩)) S1=some (.int .i64 x.name,S1):=jC (o:=0+0) n2 yV rfl
  have hpl:pre.length≤l.length:=by rw [hl];simp
  have ap:=fun S=>ZH (S:=S) (x:=x.name) hk k1 (by rw [List.length_map];omega)
  have wi:IntKind.i64.wrap ((pre.length:Int)+1)=((pre++[x]).length:Int):=by rw [wrap_i64 (by omega) (by omega)];simp
  conv at hr =>
   rhs
   rw [hTe]
   simp only [zG.zY,zG.code,zG.rs,zSs,reduceIte,zk,zn,zo,zq,hd,ix,l1,al,n1,qW,l2,vG,ap,wi]
  have hs:=(jK hr).symm.trans hL
  obtain ⟨T',S',k',q1,q2,q3,q4,q5,q6⟩:=ih (pre++[x]) (k:=2) hs rfl (by rw [List.map_append];rfl) rfl rfl rfl (by rw [hl];simp) Okl.own (by decide) (hA.ext n3)
  exact ⟨T',S',k',q1,q2,q3,q4,q5,n3.trans q6⟩
theorem zG.v (h:Ft S q me nodes l fp):∃ k S1,zU zi O zG.id [.pointer (some ⟨q,0,none⟩)] S=some (iz k (l.map (·.name)),S1)∧Okl k (l.map (·.name))∧k≠1∧Ext S S1:=by
 obtain ⟨T,hTe⟩:∃ T,T=(.pointer (some ⟨q,0,none⟩)::zh::zh::zh::zh::zh::zh::zh::zh::zh::zh::zh::zh::zh::zh::zh::zh::zh::zh::zh::zh::zh::[]):=⟨_,rfl⟩
 have hr:zJ zi O false zG.code T S=zJ zi O false zG.code T S:=rfl
 obtain ⟨a,h1,h2⟩:=h.cell
 have l1:=JA (t:=58) (o:=0+2) h1 yL rfl
 have ln:=fun S=>Zc jq a l.length l.length S
 conv at hr =>
  rhs
  rw [hTe]
  simp only [zG.code,zG.rs,zSs,reduceIte,zk,zn,zo,zq,yB,wF,l1,ln,goInt]
 generalize hL:wQ (zJ zi O false zG.zY) _ _=rr at hr
 have fin:∀ T' S' k',rr=some (.exit 0,T',S')→T'.length=22→T'.getD 3 zh=iz k' (l.map (·.name))→Okl k' (l.map (·.name))→k'≠1→Ext S S'→∃ k S1,zU zi O zG.id [.pointer (some ⟨q,0,none⟩)] S=some (iz k (l.map (·.name)),S1)∧Okl k (l.map (·.name))∧k≠1∧Ext S S1:=by
  intro T' S' k' e1 e2 e3 e4 e5 e6
  subst e1
  have hTe':=zG.eta e2
  rw [e3] at hTe'
  conv at hr =>
   rhs
   simp only [zSs,reduceIte,zk,zn,zo,zq]
   rw [hTe']
   simp only [zG.code,zG.rs,zSs,reduceIte,zk,zn,zo,zq]
  rw [hTe] at hr
  exact ⟨k',S',zG.runs hr (.inr rfl),e4,e5,e6⟩
 rcases h2 with ⟨rfl,rfl,rfl⟩ | ⟨r,anc,rest,rfl,rfl,k3,k4⟩
 ·
  generalize hT2:List.cons _ _=T2 at hL
  have hlen:T2.length=22:=by rw [← hT2];rfl
  have g3:T2.getD 3 zh=.slice none 0 0:=by rw [← hT2];rfl
  have g10:T2.getD 10 zh=.int .i64 0:=by rw [← hT2];rfl
  have g11:T2.getD 11 zh=.int .i64 0:=by rw [← hT2];rfl
  have hTe2:=zG.eta hlen
  rw [g3,g10,g11] at hTe2
  have hr2:zJ zi O false zG.zY T2 S=zJ zi O false zG.zY T2 S:=rfl
  have hd:¬ (0:Int) < (0:Int):=by decide
  conv at hr2 =>
   rhs
   rw [hTe2]
   simp only [zG.zY,zG.code,zG.rs,zSs,reduceIte,zk,zn,zo,zq,hd]
  exact fin _ _ 0 (hL.symm.trans (jw hr2 (by simp))) rfl rfl Okl.none (by decide) (Ext.refl _)
 ·
  obtain ⟨T',S',k',q1,q2,q3,q4,q5,q6⟩:=zG.round h.len l [] (k:=0) hL rfl rfl rfl rfl rfl rfl Okl.none (by decide) (.inr ⟨r,anc,rest,rfl,rfl,k3,k4⟩)
  exact fin T' S' k' q1 q2 q3 q4 q5 q6
def kY (l:List jF) (n:Int):Bool:=!decide (WJ n=0) && !(l.any fun w=>decide (n=w.name)) && decide (l.length < 32)
def kQ (l:List jF) (n:Int):List jF:=if kY l n then l++[⟨n,0⟩] else l
theorem abt (l:List jF) (n:Int):((l.map (·.name)).any fun x=>decide (n=x))=l.any fun w=>decide (n=w.name):=by rw [List.any_map];rfl
theorem zK.v (h:Ft S q me nodes l fp) (n:Int):∃ S1 fp',zU zi O zK.id [.pointer (some ⟨q,0,none⟩),.int .i64 n] S=some (.bool (kY l n),S1) ∧
  Ft S1 q me nodes (kQ l n) fp'∧(∀ x ∈ fp',x ∈ fp∨S.next≤x)∧Fr (q::fp) S S1:=by
 obtain ⟨T,hTe⟩:∃ T,T=(.pointer (some ⟨q,0,none⟩)::.int .i64 n::zh::zh::zh::zh::zh::zh::zh::zh::zh::zh::zh::zh::zh::zh::zh::zh::zh::zh::zh::zh::zh::zh::zh::zh::zh::zh::zh::zh::zh::zh::zh::[]):=⟨_,rfl⟩
 have hr:zJ zi O true zK.code T S=zJ zi O true zK.code T S:=rfl
 have c1:=fun S=>acK (je.v n S) (by rfl)
 by_cases h0:WJ n=0
 ·
  have hb:kY l n=false:=by simp [kY,h0]
  have d0:=decide_eq_true h0
  refine ⟨S,fp,?_,by unfold kQ;rw [hb];exact h,fun x hx=>.inl hx,Fr.refl _ _⟩
  rw [hb]
  conv at hr =>
   rhs
   rw [hTe]
   simp only [zK.code,zK.rs,zSs,reduceIte,zk,zn,zo,zq,c1,d0]
  rw [hTe] at hr
  exact zK.runs hr (.inr rfl)
 ·
  have d0:=decide_eq_false h0
  obtain ⟨k,S1,w1,w2,w3,w4⟩:=zG.v h
  have c2:vN (zU zi O) 18 [.pointer (some ⟨q,0,none⟩)] S=some (iz k (l.map (·.name)),S1):=acK w1 (by rfl)
  have c3:∀ S,vN (zU zi O) 20 [iz (if k=2 then 1 else k) (l.map (·.name)),.int .i64 n] S=some (.bool (l.any fun w=>decide (n=w.name)),S):=fun S=>by
   rw [← abt]
   exact acK (slices_Contains.v w2.dem (YA k) (by rw [List.length_map];have:=h.len;omega) S) (by simp only [List.all_cons,List.all_nil,ad1];rfl)
  have h1:=h.ext w4
  cases ha:l.any fun w=>decide (n=w.name) with
  | true =>
   have hb:kY l n=false:=by simp only [kY,ha,Bool.not_true,Bool.and_false,Bool.false_and]
   refine ⟨S1,fp,?_,by unfold kQ;rw [hb];exact h1,fun x hx=>.inl hx,Fr.ext w4⟩
   rw [hb]
   rw [ha] at c3
   conv at hr =>
    rhs
    rw [hTe]
    simp only [zK.code,zK.rs,zSs,reduceIte,zk,zn,zo,zq,c1,d0,c2,c3]
   rw [hTe] at hr
   exact zK.runs hr (.inr rfl)
  | false =>
   rw [ha] at c3
   obtain ⟨a,g1,g2⟩:=h1.cell
   have l1:=JA (t:=58) (o:=0+2) g1 yL rfl
   have ln:=fun S=>Zc jq a l.length l.length S
   by_cases hl:l.length < 32
   ·
    have hb:kY l n=true:=by simp only [kY,ha,d0,Bool.not_false,Bool.true_and,decide_eq_true hl]
    have dl:¬ (32:Int)≤(l.length:Int):=by omega
    have bd:=Jy (y0:=.int .i64 n) rfl
    obtain ⟨S2,s1,s2,s3⟩:∃ S2,jf zi 58 1 [(0,wv ⟨n,0⟩)] S1=some (.slice (some ⟨S1.next,0,none⟩) 1 1,S2)∧S2.get S1.next=some (.cells (fW ⟨n,0⟩) (.own []) 2)∧S2=S1.push (.cells (fW ⟨n,0⟩) (.own []) 2) :=
     ⟨_,by kernel_rfl,by rw [zy.zZ,if_pos rfl],rfl⟩
    have x2:Ext S1 S2:=by rw [s3];exact Ext.push _ _
    have src:xZ zi 58 2 (.slice (some ⟨S1.next,0,none⟩) 1 1) S2=some (([⟨n,0⟩]:List jF).length,([⟨n,0⟩]:List jF).flatMap fW) :=
     (JX (o:=0) (m:=1) (e:=2) jq s2 (by show 2≤2;omega) (by rfl)).trans rfl
    obtain ⟨a',S3,fp',e1,e2,e3,e4⟩:=wU.append (P:=zi) (t:=58) (te:=64) (tx:=58) jq jy Jc rfl Kv (by decide) xR adq (g2.ext x2) src (by simp;omega) (by simp;omega)
    have hq3:S3.get q=some (.cells [.int .i64 me,.int .i64 nodes,.slice a l.length l.length] (.own []) 0):=by
     have hq1:q < S1.next:=h1.lt
     rw [e4.2 q (Nat.lt_of_lt_of_le hq1 x2.next) h1.QL,x2.get q hq1,g1]
    have st:=wY (P:=zi) (t:=58) (o:=0+2) (x:=.slice a' (l++[(⟨n,0⟩:jF)]).length (l++[(⟨n,0⟩:jF)]).length) hq3 vS rfl rfl (by simp)
    generalize hS4:(S3.kills []).set q _=S4 at st
    refine ⟨S4,fp',?_,⟨?_,?_,a',?_,?_⟩,fun x hx=>?_,?_⟩
    ·
     rw [hb]
     conv at hr =>
      rhs
      rw [hTe]
      simp only [zK.code,zK.rs,zSs,reduceIte,zk,zn,zo,zq,c1,d0,c2,c3,yB,wF,l1,ln,goInt,dl,bd,s1,e1,st]
     rw [hTe] at hr
     exact zK.runs hr (.inr rfl)
    ·
     have:=x2.next;have:=e4.1;have:=h1.lt
     subst hS4
     simp [zy.kills];omega
    ·
     unfold kQ;rw [hb];simp;omega
    ·
     subst hS4;unfold kQ;rw [hb,zy.ji,if_pos rfl];rfl
    ·
     have hq4:q ∉ fp':=e2.QL hq3
     subst hS4
     unfold kQ;rw [hb]
     exact e2.keep (by simp [zy.kills]) fun x hx=>by rw [zy.ji,if_neg (fun e=>hq4 (by rw [← e];exact hx))];rfl
    ·
     rcases e3 x hx with hx | hx
     ·
      exact .inl hx
     ·
      exact .inr (by have:=w4.next;have:=x2.next;omega)
    ·
     have f1:Fr (q::fp) S S2:=(Fr.ext w4).trans (Fr.ext x2) (fp2:=[]) fun x hx=>by cases hx
     have f2:Fr (q::fp) S S3:=f1.trans e4 fun x hx=>.inl (by simp [hx])
     subst hS4
     exact f2.set (.inl (by simp)) _
   ·
    have hb:kY l n=false:=by simp only [kY,decide_eq_false hl,Bool.and_false]
    have dl:(32:Int)≤(l.length:Int):=by omega
    refine ⟨S1,fp,?_,by unfold kQ;rw [hb];exact h1,fun x hx=>.inl hx,Fr.ext w4⟩
    rw [hb]
    conv at hr =>
     rhs
     rw [hTe]
     simp only [zK.code,zK.rs,zSs,reduceIte,zk,zn,zo,zq,c1,d0,c2,c3,yB,wF,l1,ln,goInt,dl]
    rw [hTe] at hr
    exact zK.runs hr (.inr rfl)
theorem zT.v {c:Nat} {n:Int} (x:jF) {S:zy} (hc:S.get c=some (.cells [.int .i64 n] (.own []) 0)) (hl:c < S.next):∃ S1,zU zi O zT.id [wv x,.pointer (some ⟨c,0,none⟩)] S=some (.bool (decide (x.name=n)),S1)∧Ext S S1∧S1.log=S.log:=by
 obtain ⟨T,hTe⟩:∃ T,T=(wv x::.pointer (some ⟨c,0,none⟩)::zh::zh::zh::zh::zh::zh::[]):=⟨_,rfl⟩
 have hr:zJ zi O false zT.code T S=zJ zi O false zT.code T S:=rfl
 have b1:Yp (wv x) S=some (.pointer (some ⟨S.next,0,none⟩),S.push (.cells (fW x) (.own []) 0)):=rfl
 have g1:(S.push (.cells (fW x) (.own []) 0)).get S.next=some (.cells (fW x) (.own []) 0):=by rw [zy.zZ,if_pos rfl]
 have g2:(S.push (.cells (fW x) (.own []) 0)).get c=some (.cells [.int .i64 n] (.own []) 0):=by rw [zy.zZ,if_neg (by omega)];exact hc
 have l1:zW zi false 3 (.pointer (some ⟨S.next,0+0,none⟩)) (S.push (.cells (fW x) (.own []) 0))=some (.int .i64 x.name,S.push (.cells (fW x) (.own []) 0)):=jC (o:=0+0) g1 yV rfl
 have l2:zW zi false 3 (.pointer (some ⟨c,0,none⟩)) (S.push (.cells (fW x) (.own []) 0))=some (.int .i64 n,S.push (.cells (fW x) (.own []) 0)):=jC (o:=0) g2 yV rfl
 refine ⟨S.push (.cells (fW x) (.own []) 0),?_,Ext.push _ _,rfl⟩
 ·
  conv at hr =>
   rhs
   rw [hTe]
   simp only [zT.code,zT.rs,zSs,reduceIte,zk,zn,zo,zq,b1,qW,l1,l2]
  rw [hTe] at hr
  exact zT.runs hr (.inr rfl)
def YG (l:List jF) (n:Int):List jF:=l.filter fun w=>!decide (w.name=n)
theorem zV.v (h:Ft S q me nodes l fp) (n:Int):∃ v S1 fp',zU zi O zV.id [.pointer (some ⟨q,0,none⟩),.int .i64 n] S=some (v,S1) ∧
  Ft S1 q me nodes (YG l n) fp'∧(∀ x ∈ fp',x ∈ fp∨S.next≤x)∧Fr (q::fp) S S1:=by
 obtain ⟨T,hTe⟩:∃ T,T=(.pointer (some ⟨q,0,none⟩)::.int .i64 n::zh::zh::zh::zh::zh::zh::zh::zh::zh::zh::zh::[]):=⟨_,rfl⟩
 have hr:zJ zi O false zV.code T S=zJ zi O false zV.code T S:=rfl
 obtain ⟨S0,b1,b2,b3,b4⟩:=ac0 (.int .i64 n) S
 have h0:=h.ext b3
 obtain ⟨a,h1,h2⟩:=h0.cell
 have l1:=JA (t:=58) (o:=0+2) h1 yL rfl
 have hcn:S.next ∉ fp:=fun hx=>by have:=h.flt _ hx;omega
 obtain ⟨a',S1,fp',e1,e2,e3,e4⟩:=slices_DeleteFunc.v (l:=l) (p:=fun w=>decide (w.name=n)) (g:=23) (c:=.pointer (some ⟨S.next,0,none⟩)) (K:=fun S1=>S1.get S.next=some (.cells [.int .i64 n] (.own []) 0)∧S.next < S1.next) h2 (by have:=h.len;omega)
  (fun S1 x hK _=>zT.v x hK.1 hK.2) rfl (fun S1 S2 hK hF=>⟨by rw [hF.2 _ hK.2 hcn];exact hK.1,Nat.lt_of_lt_of_le hK.2 hF.1⟩) ⟨b2,b4⟩
 have e1:zU zi O 22 [.slice a l.length l.length,.func (Fn.func 23) #[] #[.pointer (some ⟨S.next,0,none⟩)]] S0=some (.slice a' (YG l n).length (YG l n).length,S1):=e1
 have hq:S1.get q=some (.cells [.int .i64 me,.int .i64 nodes,.slice a l.length l.length] (.own []) 0):=by rw [e4.2 q h0.lt h0.QL,h1]
 have st:=wY (P:=zi) (t:=58) (o:=0+2) (x:=.slice a' (YG l n).length (YG l n).length) hq vS rfl rfl (by simp)
 conv at hr =>
  rhs
  rw [hTe]
  simp only [zV.code,zV.rs,zSs,reduceIte,zk,zn,zo,zq,b1,yB,wF,l1,Zd,e1,st]
 rw [hTe] at hr
 have hq4:q ∉ fp':=fun hx=>h.QL (e3 q hx)
 refine ⟨_,_,fp',zV.runs hr (.inl rfl),⟨?_,?_,a',?_,?_⟩,fun x hx=>.inl (e3 x hx),?_⟩
 ·
  have:=h0.lt;have:=e4.1
  simp [zy.kills];omega
 ·
  exact Nat.le_trans (List.length_filter_le _ _) h.len
 ·
  rw [zy.ji,if_pos rfl];rfl
 ·
  exact e2.keep (by simp [zy.kills]) fun x hx=>by rw [zy.ji,if_neg (fun e=>hq4 (by rw [← e];exact hx))];rfl
 ·
  have f2:Fr (q::fp) S S1:=(Fr.ext b3).trans e4 fun x hx=>.inl (by simp [hx])
  exact f2.set (.inl (by simp)) _
end
end Go.Proofs.Ytpjglojnipjgfaa
namespace Go.Proofs.Ytpjglojnipjgfaa
open Go.Abs
structure Wu where
 to:Int
 frm:Int
 val:Int
def fA (x:Wu):List Value:=[.int .i64 x.to,.int .i64 2,.int .i64 x.frm,.int .i64 0,.int .i64 0,.int .i64 x.val,.int .i64 0,.int .i64 0,.int .i64 0,.int .i64 0,.int .i64 0,.int .i64 0,.int .i64 0,.slice none 0 0]
theorem X5 (x:Wu):(fA x).length=14:=rfl
theorem adv (x:Wu):(fA x).all (·.oneCell')=true:=rfl
abbrev az (k:Nat) (l:List Wu):Value:=vs fA 14 k l
theorem aeV (x:Wu) (S:zy):jl zi 26 1 [(0,.agg [Value.int .i64 x.to,.int .i64 2,.int .i64 x.frm,.int .i64 0,.int .i64 0,.int .i64 x.val,.int .i64 0,.int .i64 0,.int .i64 0,.int .i64 0,.int .i64 0,.int .i64 0,.int .i64 0,.slice none 0 0].toArray)] S=some (az 2 [x],S):=by kernel_rfl
theorem aeg {k:Nat} {l:List Wu} {x:Wu} {S:zy} (h:Okl k l) (hk:k≠1) (hl:l.length≤1000000):yj zi 26 26 (az k l) (az 2 [x]) S=some (az 2 (l++[x]),S):=by
 rw [Q9 yR JV QJ rfl QI (by decide) yR X5 adv h hk Okl.own (by simp;omega) (by simp;omega),if_neg (fun h=>by have:=h.2;simp at this)]
def acw (me nodes asked:Int):Int:=(me+1+asked % (nodes - 1)) % nodes
def qK (me nodes:Int) (w:jF):Wu:=⟨acw me nodes w.asked,me,w.name⟩
def abR (w:jF):jF:=⟨w.name,w.asked+1⟩
def wZ (me nodes:Int) (l:List jF):List Wu:=if nodes < 2 then [] else (l.take 8).map (qK me nodes)
def qB (nodes:Int) (l:List jF):List jF:=if nodes < 2 then l else (l.take 8).map abR++l.drop 8
theorem Zb (nodes:Int) (l:List jF):(qB nodes l).map (·.name)=l.map (·.name):=by
 unfold qB
 split
 ·
  rfl
 ·
  rw [List.map_append,List.map_map,show ((·.name) ∘ abR)=(·.name) from rfl,← List.map_append,List.take_append_drop]
section
variable {S:zy} {q:Nat} {me nodes:Int} {l:List jF} {fp:List Nat}
theorem aaH {x:jF} {pre suf:List jF} {rest:List Value} (j:Nat) (hj:j < 2):((pre++x::suf).flatMap fW++rest)[0+pre.length * 2+j]?=(fW x)[j]?:=by
 have h:=wU.adu (f:=fW) (e:=2) xR (x:=x) (pre:=pre) (suf:=suf) (rest:=rest)
 have h2:=congrArg (·[j]?) h
 simp only [List.getElem?_take,if_pos hj,List.getElem?_drop] at h2
 exact h2
theorem acD {r:Nat} {anc:List Nat} {x:jF} {pre suf:List jF} {rest:List Value} (n:Int) (hg:S.get r=some (.cells ((pre++x::suf).flatMap fW++rest) (.own anc) 2)) (hx:∀ k ∈ r::anc,k < S.next∧Many S k) :
  ∃ S1,jX zi 3 (.pointer (some ⟨r,0+pre.length * 2+1,none⟩)) (.int .i64 n) S=some (zh,S1)∧S1.get r=some (.cells ((pre++⟨x.name,n⟩::suf).flatMap fW++rest) (.own []) 2)∧S1.next=S.next∧Fr (r::anc) S S1∧Many S1 r:=by
 have e0:∀ y:jF,(pre++y::suf).flatMap fW++rest=(pre.flatMap fW++[.int .i64 y.name])++([.int .i64 y.asked]++(suf.flatMap fW++rest)):=fun y=>by
  rw [List.flatMap_append,List.flatMap_cons]
  simp [fW]
 have hs:splice ((pre++x::suf).flatMap fW++rest) (0+pre.length * 2+1) [.int .i64 n]=(pre++⟨x.name,n⟩::suf).flatMap fW++rest:=by
  rw [e0,e0]
  exact vw (B:=[Value.int .i64 x.asked]) (C:=[Value.int .i64 n]) (by rw [List.length_append,jD xR];simp) (by rfl)
 have hle:0+pre.length * 2+1+1≤((pre++x::suf).flatMap fW++rest).length:=by
  rw [List.length_append,jD xR,List.length_append,List.length_cons];omega
 have:=wY (P:=zi) (t:=3) (o:=0+pre.length * 2+1) (x:=.int .i64 n) hg Xp rfl rfl hle
 refine ⟨_,this,?_,by simp,((Fr.refl _ _).kills (fun k hk=>.inl (by simp [hk]))).set (.inl (by simp)) _,ZG (by decide) (vH (hx r (by simp)).2)⟩
 rw [zy.ji,if_pos rfl]
 show some (wR.cells (splice _ _ [.int .i64 n]) _ _)=_
 rw [hs]
theorem zD.round {m:Nat} (hm0:0≤me∧me < nodes) (hn0:2≤nodes∧nodes≤7) (hnq:q ∉ fp) (hll:l.length≤32) (ha:∀ w ∈ l,0≤w.asked∧w.asked < 1099511627776) (hml:m≤l.length) {a:Option Addr} {S0:zy}:∀ (j:Nat) (pre suf:List jF) {T:List Value} {rr:St} {S:zy} {k:Nat} {fp1:List Nat},wQ (zJ zi O false zD.zY) T S=rr→T.length=71 →
  T.getD 0 zh=.pointer (some ⟨q,0,none⟩)→T.getD 3 zh=az k (pre.map (qK me nodes))→T.getD 12 zh=.int .i64 m→T.getD 13 zh=.int .i64 pre.length→l=pre++suf→pre.length+j=m→Okl k (pre.map (qK me nodes))→k≠1 →
  S.get q=some (.cells [.int .i64 me,.int .i64 nodes,.slice a l.length l.length] (.own []) 0)→wU fW 2 S a (pre.map abR++suf) fp1→(∀ x ∈ fp1,x ∈ fp)→Fr fp S0 S→q < S.next →
  ∃ T' S' k' fp',rr=some (.exit 0,T',S')∧T'.length=71∧T'.getD 3 zh=az k' ((l.take m).map (qK me nodes))∧Okl k' ((l.take m).map (qK me nodes))∧k'≠1 ∧
   S'.get q=some (.cells [.int .i64 me,.int .i64 nodes,.slice a l.length l.length] (.own []) 0)∧wU fW 2 S' a ((l.take m).map abR++l.drop m) fp'∧(∀ x ∈ fp',x ∈ fp)∧Fr fp S0 S'∧q < S'.next:=by
 intro j
 induction j with
 | zero =>
  intro pre suf T rr S k fp1 hL hT h0 h3 h12 h13 hl hj hk k1 hq hA hfp hF hlt
  have hTe:=zD.eta hT
  rw [h0,h3,h12,h13] at hTe
  have hr:zJ zi O false zD.zY T S=zJ zi O false zD.zY T S:=rfl
  have hd:¬ (pre.length:Int) < (m:Int):=by omega
  conv at hr =>
   rhs
   rw [hTe]
   simp only [zD.zY,zD.code,zD.rs,zSs,reduceIte,zk,zn,zo,zq,hd]
  have hp:l.take m=pre:=by rw [hl,← hj,Nat.add_zero,List.take_left]
  have hp2:l.drop m=suf:=by rw [hl,← hj,Nat.add_zero,List.drop_left]
  exact ⟨_,_,k,fp1,hL.symm.trans (jw hr (by simp)),rfl,by rw [hp];rfl,by rw [hp];exact hk,k1,hq,by rw [hp,hp2];exact hA,hfp,hF,hlt⟩
 | succ j ih =>
  intro pre suf T rr S k fp1 hL hT h0 h3 h12 h13 hl hj hk k1 hq hA hfp hF hlt
  have hTe:=zD.eta hT
  rw [h0,h3,h12,h13] at hTe
  have hr:zJ zi O false zD.zY T S=zJ zi O false zD.zY T S:=rfl
  have hd:(pre.length:Int) < (m:Int):=by omega
  obtain ⟨x,suf,rfl⟩:∃ x s,suf=x::s:=by
   cases suf with
   | nil=>rw [hl,List.append_nil] at hml;omega
   | cons x s=>exact ⟨x,s,rfl⟩
  have hin:(pre.length:Int) < (l.length:Int):=by omega
  have hA0:=hA
  rcases hA0 with ⟨_,h,_⟩ | ⟨r,anc,rest,ha2,hfa,hg,hx⟩
  ·
   simp at h
  subst ha2
  have ax:=ha x (by rw [hl];simp)
  have l0:=jC (t:=3) (o:=0+0) hq yV rfl
  have l1:=jC (t:=3) (o:=0+1) hq yV rfl
  have l2:=JA (t:=58) (o:=0+2) hq yL rfl
  have d2:¬ nodes < 2:=by omega
  have ix:∀ S,zO zi 58 (.slice (some ⟨r,0,none⟩) l.length l.length) (.int .i64 pre.length) S=some (.pointer (some ⟨r,0+pre.length * 2,none⟩),S):=fun S=>by
   rw [J6 (o:=0) (n:=l.length) (c:=l.length) (q:=r) jq jy (by omega) hin,Int.toNat_natCast]
  have lpre:(pre.map abR).length=pre.length:=by simp
  have la:zW zi false 3 (.pointer (some ⟨r,0+pre.length * 2+1,none⟩)) S=some (.int .i64 x.asked,S):=jC hg yV (by
   have:=aaH (x:=x) (pre:=pre.map abR) (suf:=suf) (rest:=rest) 1 (by decide)
   rw [lpre] at this
   rw [this];rfl)
  obtain ⟨S1,s1,s2,s3,s4,s5⟩:=acD (x.asked+1) hg (by rw [← hfa];exact hx)
  rw [lpre] at s1
  have hq1:S1.get q=some (.cells [.int .i64 me,.int .i64 nodes,.slice (some ⟨r,0,none⟩) l.length l.length] (.own []) 0):=by
   rw [s4.2 q hlt (fun h=>hnq (hfp q (by rw [hfa];exact h))),hq]
  have m0:=jC (t:=3) (o:=0+0) hq1 yV rfl
  have ln1:zW zi false 3 (.pointer (some ⟨r,0+pre.length * 2+0,none⟩)) S1=some (.int .i64 x.name,S1):=jC s2 yV (by
   have:=aaH (x:=⟨x.name,x.asked+1⟩) (pre:=pre.map abR) (suf:=suf) (rest:=rest) 0 (by decide)
   rw [lpre] at this
   rw [this];rfl)
  have hne:nodes - 1≠0:=by omega
  have hne2:nodes≠0:=by omega
  have w1:IntKind.i64.wrap (me+1)=me+1:=wrap_i64 (by omega) (by omega)
  have w2:IntKind.i64.wrap (nodes - 1)=nodes - 1:=wrap_i64 (by omega) (by omega)
  have hmod:=Int.emod_nonneg x.asked hne
  have hmod2:=Int.emod_lt_of_pos x.asked (show 0 < nodes - 1 by omega)
  have t1:x.asked.tmod (nodes - 1)=x.asked % (nodes - 1):=xw ax.1
  have w3:IntKind.i64.wrap (me+1+x.asked % (nodes - 1))=me+1+x.asked % (nodes - 1):=wrap_i64 (by omega) (by omega)
  have t2:(me+1+x.asked % (nodes - 1)).tmod nodes=acw me nodes x.asked:=xw (by omega)
  have w4:IntKind.i64.wrap (x.asked+1)=x.asked+1:=wrap_i64 (by omega) (by omega)
  have wi:IntKind.i64.wrap ((pre.length:Int)+1)=((pre++[x]).length:Int):=by rw [wrap_i64 (by omega) (by omega)];simp
  have bm:=fun S=>xC (y0:=.int .i64 2) (y1:=.int .i64 me) (y4:=.int .i64 x.name) rfl rfl rfl S
  have ba:=fun (y0:Value) {y1 y2 y3 y4 y5 y6 y7 y8 y9 y10 y11 y12 y13:Value} (h:y0.cells=#[y0]) S=>kH (y0:=y0) (y1_0:=y1) (y1_1:=y2) (y1_2:=y3) (y1_3:=y4) (y1_4:=y5) (y1_5:=y6) (y1_6:=y7) (y1_7:=y8) (y1_8:=y9) (y1_9:=y10) (y1_10:=y11) (y1_11:=y12) (y1_12:=y13) h S
  have ba:=fun S=>kH (y0:=.int .i64 (acw me nodes x.asked)) (y1_0:=.int .i64 2) (y1_1:=.int .i64 me) (y1_2:=.int .i64 0) (y1_3:=.int .i64 0) (y1_4:=.int .i64 x.name) (y1_5:=.int .i64 0) (y1_6:=.int .i64 0) (y1_7:=.int .i64 0) (y1_8:=.int .i64 0) (y1_9:=.int .i64 0) (y1_10:=.int .i64 0) (y1_11:=.int .i64 0) (y1_12:=.slice none 0 0) rfl S
  have bs:=aeV (qK me nodes x)
  have bs:∀ S,jl zi 26 1 [(0,.agg [Value.int .i64 (acw me nodes x.asked),.int .i64 2,.int .i64 me,.int .i64 0,.int .i64 0,.int .i64 x.name,.int .i64 0,.int .i64 0,.int .i64 0,.int .i64 0,.int .i64 0,.int .i64 0,.int .i64 0,.slice none 0 0].toArray)] S=some (az 2 [qK me nodes x],S):=bs
  have ap:=fun S=>aeg (S:=S) (x:=qK me nodes x) hk k1 (by rw [List.length_map];omega)
  conv at hr =>
   rhs
   rw [hTe]
   simp only [zD.zY,zD.code,zD.rs,zSs,reduceIte,zk,zn,zo,zq,hd,yB,Jj,xH,wF,l0,l1,l2,d2,ix,JM,qW,la,w1,w2,w3,kD _ _ _ hne,kD _ _ _ hne2,t1,t2,w4,s1,m0,ln1,bm,ba,bs,ap,wi]
  have hs:=(jK hr).symm.trans hL
  have hA1:wU fW 2 S1 (some ⟨r,0,none⟩) ((pre++[x]).map abR++suf) [r]:=.inr ⟨r,[],rest,rfl,rfl,by rw [s2];simp [abR],fun y hy=>by
   rw [List.mem_singleton.1 hy]
   exact ⟨by rw [s3];exact (hx r (by rw [hfa];simp)).1,s5⟩⟩
  exact ih (pre++[x]) suf (k:=2) hs rfl rfl (by rw [List.map_append];rfl) rfl rfl (by rw [hl];simp) (by simp;omega) Okl.own (by decide) hq1 hA1 (fun y hy=>hfp y (by rw [hfa,List.mem_singleton.1 hy];simp)) (hF.trans s4 fun y hy=>.inl (hfp y (by rw [hfa];exact hy))) (by rw [s3];exact hlt)
theorem zD.v (h:Ft S q me nodes l fp) (hm0:0≤me∧me < nodes) (hn0:nodes≤7) (ha:∀ w ∈ l,0≤w.asked∧w.asked < 1099511627776):∃ k S1 fp',zU zi O zD.id [.pointer (some ⟨q,0,none⟩)] S=some (az k (wZ me nodes l),S1)∧Okl k (wZ me nodes l)∧k≠1 ∧
  Ft S1 q me nodes (qB nodes l) fp'∧(∀ x ∈ fp',x ∈ fp)∧Fr fp S S1:=by
 obtain ⟨T,hTe⟩:∃ T,T=(.pointer (some ⟨q,0,none⟩)::zh::zh::zh::zh::zh::zh::zh::zh::zh::zh::zh::zh::zh::zh::zh::zh::zh::zh::zh::zh::zh::zh::zh::zh::zh::zh::zh::zh::zh::zh::zh::zh::zh::zh::zh::zh::zh::zh::zh::zh::zh::zh::zh::zh::zh::zh::zh::zh::zh::zh::zh::zh::zh::zh::zh::zh::zh::zh::zh::zh::zh::zh::zh::zh::zh::zh::zh::zh::zh::zh::[]):=⟨_,rfl⟩
 have hr:zJ zi O false zD.code T S=zJ zi O false zD.code T S:=rfl
 obtain ⟨a,h1,h2⟩:=h.cell
 have l2:=JA (t:=58) (o:=0+2) h1 yL rfl
 have ln:=fun S=>Zc jq a l.length l.length S
 have mn:(if (8:Int) < (l.length:Int) then (8:Int) else l.length)=((min 8 l.length:Nat):Int):=by split <;> omega
 conv at hr =>
  rhs
  rw [hTe]
  simp only [zD.code,zD.rs,zSs,reduceIte,zk,zn,zo,zq,yB,wF,l2,ln,goInt,afH,mn]
 generalize hL:wQ (zJ zi O false zD.zY) _ _=rr at hr
 have fin:∀ T' S' k' fp' l1 l2,rr=some (.exit 0,T',S')→T'.length=71→T'.getD 3 zh=az k' l1→l1=wZ me nodes l→l2=qB nodes l→Okl k' l1→k'≠1→S'.get q=some (.cells [.int .i64 me,.int .i64 nodes,.slice a l.length l.length] (.own []) 0)→wU fW 2 S' a l2 fp'→l2.length=l.length→(∀ x ∈ fp',x ∈ fp)→Fr fp S S'→q < S'.next →
   ∃ k S1 fp',zU zi O zD.id [.pointer (some ⟨q,0,none⟩)] S=some (az k (wZ me nodes l),S1)∧Okl k (wZ me nodes l)∧k≠1∧Ft S1 q me nodes (qB nodes l) fp'∧(∀ x ∈ fp',x ∈ fp)∧Fr fp S S1:=by
  intro T' S' k' fp' l1 l2 e1 e2 e3 e4 e5 e6 e7 e8 e9 e10 e11 e12 e13
  subst e1
  have hTe':=zD.eta e2
  rw [e3] at hTe'
  conv at hr =>
   rhs
   simp only [zSs,reduceIte,zk,zn,zo,zq]
   rw [hTe']
   simp only [zD.code,zD.rs,zSs,reduceIte,zk,zn,zo,zq]
  rw [hTe] at hr
  subst e4 e5
  exact ⟨k',S',fp',zD.runs hr (.inr rfl),e6,e7,⟨e13,by rw [e10];exact h.len,a,by rw [e10];exact e8,e9⟩,e11,e12⟩
 by_cases hn:nodes < 2
 ·
  have ta:wZ me nodes l=[]:=by rw [wZ,if_pos hn]
  have tl:qB nodes l=l:=by rw [qB,if_pos hn]
  generalize hT2:List.cons _ _=T2 at hL
  have hlen:T2.length=71:=by rw [← hT2];rfl
  have g0:T2.getD 0 zh=.pointer (some ⟨q,0,none⟩):=by rw [← hT2];rfl
  have g3:T2.getD 3 zh=.slice none 0 0:=by rw [← hT2];rfl
  have g12:T2.getD 12 zh=.int .i64 (min 8 l.length:Nat):=by rw [← hT2];rfl
  have g13:T2.getD 13 zh=.int .i64 0:=by rw [← hT2];rfl
  have hTe2:=zD.eta hlen
  rw [g0,g3,g12,g13] at hTe2
  have hr2:zJ zi O false zD.zY T2 S=zJ zi O false zD.zY T2 S:=rfl
  have l1:=jC (t:=3) (o:=0+1) h1 yV rfl
  by_cases h0:(0:Int) < ((min 8 l.length:Nat):Int)
  ·
   conv at hr2 =>
    rhs
    rw [hTe2]
    simp only [zD.zY,zD.code,zD.rs,zSs,reduceIte,zk,zn,zo,zq,h0,yB,xH,l1,hn]
   exact fin _ _ 0 fp [] l (hL.symm.trans (jw hr2 (by simp))) rfl rfl ta.symm tl.symm Okl.none (by decide) h1 h2 rfl (fun x hx=>hx) (Fr.refl _ _) h.lt
  ·
   conv at hr2 =>
    rhs
    rw [hTe2]
    simp only [zD.zY,zD.code,zD.rs,zSs,reduceIte,zk,zn,zo,zq,h0]
   exact fin _ _ 0 fp [] l (hL.symm.trans (jw hr2 (by simp))) rfl rfl ta.symm tl.symm Okl.none (by decide) h1 h2 rfl (fun x hx=>hx) (Fr.refl _ _) h.lt
 ·
  obtain ⟨T',S',k',fp',q1,q2,q3,q4,q5,q6,q7,q8,q9,q10⟩:=zD.round (m:=min 8 l.length) (q:=q) (me:=me) (nodes:=nodes) (l:=l) (fp:=fp) (a:=a) (S0:=S) hm0 ⟨by omega,hn0⟩ h.QL h.len ha (by omega) (min 8 l.length) [] l (k:=0) (fp1:=fp) hL rfl rfl rfl rfl rfl rfl (by simp) Okl.none (by decide) h1 (by simpa using h2) (fun x hx=>hx) (Fr.refl _ _) h.lt
  have et:l.take (min 8 l.length)=l.take 8:=by
   by_cases h8:l.length≤8
   ·
    rw [List.take_of_length_le (by omega),List.take_of_length_le h8]
   ·
    rw [Nat.min_eq_left (by omega)]
  have ed:l.drop (min 8 l.length)=l.drop 8:=by
   by_cases h8:l.length≤8
   ·
    rw [List.drop_eq_nil_of_le (by omega),List.drop_eq_nil_of_le h8]
   ·
    rw [Nat.min_eq_left (by omega)]
  rw [et] at q3 q4 q7
  rw [ed] at q7
  exact fin T' S' k' fp' _ _ q1 q2 q3 (by rw [wZ,if_neg hn]) (by rw [qB,if_neg hn]) q4 q5 q6 q7 (by simp;omega) q8 q9 q10
end
end Go.Proofs.Ytpjglojnipjgfaa
namespace Go.Proofs.Ytpjglojnipjgfaa
open Go.Abs
abbrev zA.id:FuncId:=17
noncomputable def zA.zY:Code:=(.seq (.region 4 (reg Try.f17 4) false) (.seq (.cond (.tmp 14) Code.skip (.exit 0)) (.seq (.block 1 (.seq (.region 5 (reg Try.f17 5) false) (.seq (.region 6 (reg Try.f17 6) true) (.cond (.tmp 24) (.seq (.region 7 (reg Try.f17 7) false) Code.ret) Code.skip)))) (.region 8 (reg Try.f17 8) false))))
noncomputable def zA.code:Code:=(.seq (.region 0 (reg Try.f17 0) false) (.seq (.seq (.region 1 (reg Try.f17 1) false) (.cond (.tmp 10) (.seq (.region 2 (reg Try.f17 2) false) Code.ret) Code.skip)) (.seq (.seq (.region 3 (reg Try.f17 3) false) (.block 0 (.loop zA.zY))) (.seq (.region 9 (reg Try.f17 9) false) Code.ret))))
theorem zA.body:Try.f17.body=some zA.code:=by kernel_rfl
theorem zA.eta {T:List Value} (h:T.length=26):T=[T.getD 0 zh,T.getD 1 zh,T.getD 2 zh,T.getD 3 zh,T.getD 4 zh,T.getD 5 zh,T.getD 6 zh,T.getD 7 zh,T.getD 8 zh,T.getD 9 zh,T.getD 10 zh,T.getD 11 zh,T.getD 12 zh,T.getD 13 zh,T.getD 14 zh,T.getD 15 zh,T.getD 16 zh,T.getD 17 zh,T.getD 18 zh,T.getD 19 zh,T.getD 20 zh,T.getD 21 zh,T.getD 22 zh,T.getD 23 zh,T.getD 24 zh,T.getD 25 zh]:=(yF T 26 h).trans (by kernel_rfl)
variable (d u x y D w z A B C f g c b i j k l m n o p q r s t:Value) (S:zy)
theorem zA.r0 :jk zi ⟨false,false,false⟩ (zU zi O) (reg Try.f17 0) (reg Try.f17 0).toList ([d,u,x,y,D,w,z,A,B,C,f,g,c,b,i,j,k,l,m,n,o,p,q,r,s,t]) S =
  ( some ([d,u,x,y,Value.bool false,w,z,A,B,C,f,g,c,b,i,j,k,l,m,n,o,p,q,r,s,t],S)):=by
 kernel_rfl
theorem zA.r1 :jk zi ⟨false,false,false⟩ (zU zi O) (reg Try.f17 1) (reg Try.f17 1).toList ([d,u,x,y,D,w,z,A,B,C,f,g,c,b,i,j,k,l,m,n,o,p,q,r,s,t]) S =
  (zM (xY zi 29 (dem d) S) (fun G E=>zM (xY zi 29 (dem u) E) (fun F H=>zM (wB zi BinOp.neq 3 G F H) (fun R I=>some ([d,u,x,y,D,w,dem d,G,dem u,F,R,g,c,b,i,j,k,l,m,n,o,p,q,r,s,t],I)) ()) ()) ()):=by
 kernel_rfl
theorem zA.r2 :jk zi ⟨false,false,false⟩ (zU zi O) (reg Try.f17 2) (reg Try.f17 2).toList ([d,u,x,y,D,w,z,A,B,C,f,g,c,b,i,j,k,l,m,n,o,p,q,r,s,t]) S =
  ( some ([d,u,x,y,Value.bool false,w,z,A,B,C,f,g,c,b,i,j,k,l,m,n,o,p,q,r,s,t],S)):=by
 kernel_rfl
theorem zA.r3 :jk zi ⟨false,false,false⟩ (zU zi O) (reg Try.f17 3) (reg Try.f17 3).toList ([d,u,x,y,D,w,z,A,B,C,f,g,c,b,i,j,k,l,m,n,o,p,q,r,s,t]) S =
  (zM (xY zi 29 (dem d) S) (fun G E=>some ([d,u,x,y,D,w,z,A,B,C,f,dem d,G,.int .i64 0,i,j,k,l,m,n,o,p,q,r,s,t],E)) ()):=by
 kernel_rfl
theorem zA.r4 :jk zi ⟨false,false,false⟩ (zU zi O) (reg Try.f17 4) (reg Try.f17 4).toList ([d,u,x,y,D,w,z,A,B,C,f,g,c,b,i,j,k,l,m,n,o,p,q,r,s,t]) S =
  (zM (wB zi BinOp.lss 3 b c S) (fun J E=>some ([d,u,x,y,D,w,z,A,B,C,f,g,c,b,J,j,k,l,m,n,o,p,q,r,s,t],E)) ()):=by
 kernel_rfl
theorem zA.r5 :jk zi ⟨false,false,false⟩ (zU zi O) (reg Try.f17 5) (reg Try.f17 5).toList ([d,u,x,y,D,w,z,A,B,C,f,g,c,b,i,j,k,l,m,n,o,p,q,r,s,t]) S =
  ( some ([d,u,x,y,D,b,z,A,B,C,f,g,c,dem b,i,dem b,k,l,m,n,o,p,q,r,s,t],S)):=by
 kernel_rfl
theorem zA.d6:qL zi (reg Try.f17 6)=true:=by kernel_rfl
theorem zA.ff6:fixed zi (reg Try.f17 6)=false:=by kernel_rfl
theorem zA.k6:checked zi (reg Try.f17 6)=[]:=by kernel_rfl
theorem zA.g6:again zi (reg Try.f17 6)=[]:=by kernel_rfl
theorem zA.r6 :zJ zi O false (.region 6 (reg Try.f17 6) true) ([d,u,x,y,D,w,z,A,B,C,f,g,c,b,i,j,k,l,m,n,o,p,q,r,s,t]) S =
  YO (zM (zO zi 29 (dem d) (dem w) S) (fun K E=>zM (zW zi false 3 K E) (fun F H=>zM (zO zi 29 (dem u) (dem w) H) (fun L I=>zM (zW zi false 3 L I) (fun M N=>zM (wB zi BinOp.neq 3 F M N) (fun P Q=>some ([d,u,x,y,D,w,z,A,B,C,f,g,c,b,i,j,dem d,dem w,K,F,dem u,dem w,L,M,P,t],Q)) ()) ()) ()) ()) ()):=by
 rw [qF zA.d6 zA.ff6 zA.k6 zA.g6]
 refine congrArg YO ?_
 refine tP Try.f17 6 0 (v:=d) ?_
 refine tP Try.f17 6 1 (v:=w) ?_
 refine tD Try.f17 6 2 (fun K E=>?_)
 refine tD Try.f17 6 3 (fun F H=>?_)
 refine tP Try.f17 6 4 (v:=u) ?_
 refine tP Try.f17 6 5 (v:=w) ?_
 refine tD Try.f17 6 6 (fun L I=>?_)
 refine tD Try.f17 6 7 (fun M N=>?_)
 refine tD Try.f17 6 8 (fun P Q=>?_)
 kernel_rfl
theorem zA.r7 :jk zi ⟨false,false,false⟩ (zU zi O) (reg Try.f17 7) (reg Try.f17 7).toList ([d,u,x,y,D,w,z,A,B,C,f,g,c,b,i,j,k,l,m,n,o,p,q,r,s,t]) S =
  ( some ([d,u,x,y,Value.bool false,w,z,A,B,C,f,g,c,b,i,j,k,l,m,n,o,p,q,r,s,t],S)):=by
 kernel_rfl
theorem zA.r8 :jk zi ⟨false,false,false⟩ (zU zi O) (reg Try.f17 8) (reg Try.f17 8).toList ([d,u,x,y,D,w,z,A,B,C,f,g,c,b,i,j,k,l,m,n,o,p,q,r,s,t]) S =
  (zM (wB zi BinOp.add 3 b (.int .i64 1) S) (fun J E=>some ([d,u,x,y,D,w,z,A,B,C,f,g,c,dem J,i,j,k,l,m,n,o,p,q,r,s,J],E)) ()):=by
 kernel_rfl
theorem zA.r9 :jk zi ⟨false,false,false⟩ (zU zi O) (reg Try.f17 9) (reg Try.f17 9).toList ([d,u,x,y,D,w,z,A,B,C,f,g,c,b,i,j,k,l,m,n,o,p,q,r,s,t]) S =
  ( some ([d,u,x,y,Value.bool true,w,z,A,B,C,f,g,c,b,i,j,k,l,m,n,o,p,q,r,s,t],S)):=by
 kernel_rfl
theorem zA.rs:type_of% (afM @zA.r0 (afM @zA.r1 (afM @zA.r2 (afM @zA.r3 (afM @zA.r4 (afM @zA.r5 (afM @zA.r6 (afM @zA.r7 (afM @zA.r8 (@zA.r9)))))))))):=afM @zA.r0 (afM @zA.r1 (afM @zA.r2 (afM @zA.r3 (afM @zA.r4 (afM @zA.r5 (afM @zA.r6 (afM @zA.r7 (afM @zA.r8 (@zA.r9)))))))))
theorem zA.runs {d u:Value} {S E:zy} {e:AEx} {T:List Value} (h:zJ zi O false zA.code ([d,u,zh,zh,zh,zh,zh,zh,zh,zh,zh,zh,zh,zh,zh,zh,zh,zh,zh,zh,zh,zh,zh,zh,zh,zh]) S=some (e,T,E)) (he:e=.normal∨e=.ret):zU zi O 17 [d,u] S=some (T.getD 4 zh,E) :=
 jS rfl rfl Try.func17 (by decide) zA.body (by exact h) he (wI (a:=T.getD 4 zh) ((show zN zi T E Try.f17.results.toList=zN zi T E [(ResultVar.tmp 4)] from by kernel_rfl).trans (by simp only [zN])) (by kernel_rfl))
end Go.Proofs.Ytpjglojnipjgfaa
namespace Go.Proofs.Ytpjglojnipjgfaa
open Go.Abs
theorem zA.round {k j:Nat} {a b:List Int} (hk:Okl k a) (hj:Okl j b) (k2:k≠2) (j2:j≠2) (hab:a.length=b.length) (hlen:a.length≤17592186044416) {S:zy}:∀ (sa sb pre:List Int) {T:List Value} {r:St},wQ (zJ zi O false zA.zY) T S=r→T.length=26 →
  T.getD 0 zh=iz k a→T.getD 1 zh=iz j b→T.getD 12 zh=.int .i64 a.length→T.getD 13 zh=.int .i64 pre.length→a=pre++sa→b=pre++sb →
  ∃ e T',r=some (e,T',S)∧if a=b then e=.exit 0∧T'.length=26 else e=.ret∧T'.getD 4 zh=.bool false:=by
 intro sa
 induction sa with
 | nil =>
  intro sb pre T r hL hT h0 h1 h12 h13 ha hb
  have hTe:=zA.eta hT
  rw [h0,h1,h12,h13] at hTe
  have hr:zJ zi O false zA.zY T S=zJ zi O false zA.zY T S:=rfl
  have hd:¬ (pre.length:Int) < (a.length:Int):=by rw [ha];simp
  conv at hr =>
   rhs
   rw [hTe]
   simp only [zA.zY,zA.code,zA.rs,zSs,reduceIte,zk,zn,zo,zq,hd]
  have hsb:sb=[]:=by rw [ha,hb] at hab;simp at hab;exact hab
  refine ⟨_,_,hL.symm.trans (jw hr (by simp)),?_⟩
  rw [if_pos (by rw [ha,hb,hsb])]
  exact ⟨rfl,rfl⟩
 | cons x sa ih =>
  intro sb pre T r hL hT h0 h1 h12 h13 ha hb
  have hTe:=zA.eta hT
  rw [h0,h1,h12,h13] at hTe
  have hr:zJ zi O false zA.zY T S=zJ zi O false zA.zY T S:=rfl
  have hd:(pre.length:Int) < (a.length:Int):=by rw [ha];simp;omega
  cases sb with
  | nil=>rw [ha,hb] at hab;simp at hab
  | cons y sb =>
   have e1:∀ S,zO zi 29 (iz k a) (.int .i64 pre.length) S=some (EP [.int .i64 x],S):=fun S=>by
    rw [Q5 hk (by omega) hd];rw [J9 ha]
   have e2:∀ S,zO zi 29 (iz j b) (.int .i64 pre.length) S=some (EP [.int .i64 y],S):=fun S=>by
    rw [Q5 hj (by omega) (by omega)];rw [J9 hb]
   have wi:IntKind.i64.wrap ((pre.length:Int)+1)=((pre++[x]).length:Int):=by rw [wrap_i64 (by omega) (by omega)];simp
   by_cases hxy:x=y
   ·
    conv at hr =>
     rhs
     rw [hTe]
     simp only [zA.zY,zA.code,zA.rs,zSs,reduceIte,zk,zn,zo,zq,hd,if_neg k2,if_neg j2,e1,e2,qU,hxy,wi]
    subst hxy
    exact ih sb (pre++[x]) ((jK hr).symm.trans hL) rfl rfl rfl rfl rfl (by simp [ha]) (by simp [hb])
   ·
    conv at hr =>
     rhs
     rw [hTe]
     simp only [zA.zY,zA.code,zA.rs,zSs,reduceIte,zk,zn,zo,zq,hd,if_neg k2,if_neg j2,e1,e2,qU,hxy]
    refine ⟨_,_,hL.symm.trans (jw hr (by simp)),?_⟩
    rw [if_neg (by rw [ha,hb];simp [hxy])]
    exact ⟨rfl,rfl⟩
theorem zA.v {k j:Nat} {a b:List Int} (hk:Okl k a) (hj:Okl j b) (k2:k≠2) (j2:j≠2) (hlen:a.length≤17592186044416) (S:zy):zU zi O zA.id [iz k a,iz j b] S=some (.bool (decide (a=b)),S):=by
 obtain ⟨T,hTe⟩:∃ T,T=(iz k a::iz j b::zh::zh::zh::zh::zh::zh::zh::zh::zh::zh::zh::zh::zh::zh::zh::zh::zh::zh::zh::zh::zh::zh::zh::zh::[]):=⟨_,rfl⟩
 have hr:zJ zi O false zA.code T S=zJ zi O false zA.code T S:=rfl
 by_cases hab:a.length=b.length
 ·
  have d1:(a.length:Int)=(b.length:Int):=by omega
  conv at hr =>
   rhs
   rw [hTe]
   simp only [zA.code,zA.rs,zSs,reduceIte,zk,zn,zo,zq,if_neg k2,if_neg j2,Ji hk,Ji hj,goInt,d1]
  generalize hL:wQ (zJ zi O false zA.zY) _ _=r at hr
  obtain ⟨e,T',rfl,g⟩:=zA.round hk hj k2 j2 hab hlen a b [] hL rfl rfl rfl (by rw [hab];rfl) rfl rfl rfl
  by_cases h:a=b
  ·
   rw [if_pos h] at g
   obtain ⟨rfl,g2⟩:=g
   have hTe':=zA.eta g2
   conv at hr =>
    rhs
    rw [hTe']
    simp only [zA.code,zA.rs,zSs,reduceIte,zk,zn,zo,zq]
   rw [hTe] at hr
   rw [decide_eq_true h]
   exact zA.runs hr (.inr rfl)
  ·
   rw [if_neg h] at g
   obtain ⟨rfl,g2⟩:=g
   conv at hr =>
    rhs
    simp only [zSs,reduceIte,zk,zn,zo,zq]
   rw [hTe] at hr
   rw [decide_eq_false h]
   have hrun:=zA.runs hr (.inr rfl)
   rw [g2] at hrun
   exact hrun
 ·
  have d1:¬ (a.length:Int)=(b.length:Int):=by omega
  conv at hr =>
   rhs
   rw [hTe]
   simp only [zA.code,zA.rs,zSs,reduceIte,zk,zn,zo,zq,if_neg k2,if_neg j2,Ji hk,Ji hj,goInt,d1]
  rw [hTe] at hr
  rw [decide_eq_false (fun h=>hab (by rw [h]))]
  exact zA.runs hr (.inr rfl)
end Go.Proofs.Ytpjglojnipjgfaa
namespace Go.Proofs.Ytpjglojnipjgfaa
open Go.Abs
abbrev Y6 (me nodes:Int) (kn ka:Nat) (l:List jF):List Value:=[.int .i64 me,.int .i64 nodes,iz kn (l.map (·.name)),iz ka (l.map (·.asked))]
abbrev ZT (me nodes:Int) (kn ka:Nat) (l:List jF):Value:=.agg [Value.int .i64 me,.int .i64 nodes,iz kn (l.map (·.name)),iz ka (l.map (·.asked))].toArray
structure ZM (kn ka:Nat) (l:List jF):Prop where
 n:Okl kn (l.map (·.name))
 a:Okl ka (l.map (·.asked))
 n2:kn≠2
 a2:ka≠2
theorem ZM.read {l:List jF}:ZM 1 1 l:=⟨Okl.read,Okl.read,by decide,by decide⟩
theorem YW {k:Nat} {l:List Int} (x:Array Value):iz k l≠.agg x:=fun h=>by unfold iz vs sv at h;split at h <;> cases h
section
variable {S:zy} {me nodes:Int} {l:List jF} {kn ka q e:Nat} {own:Own}
theorem Jm (h:S.get q=some (.cells (Y6 me nodes kn ka l) own e)) (hk:ZM kn ka l):zW zi false 29 (.pointer (some ⟨q,0+2,none⟩)) S=some (iz kn (l.map (·.name)),S):=by
 rw [ZJ (o:=0+2) (v:=iz kn (l.map (·.name))) h Xh rfl YW,KA,if_neg hk.n2]
theorem YJ (h:S.get q=some (.cells (Y6 me nodes kn ka l) own e)) (hk:ZM kn ka l):zW zi false 29 (.pointer (some ⟨q,0+3,none⟩)) S=some (iz ka (l.map (·.asked)),S):=by
 rw [ZJ (o:=0+3) (v:=iz ka (l.map (·.asked))) h Xh rfl YW,KA,if_neg hk.a2]
theorem YI {k:Nat} {l:List Int} (hk:k≠2):qA (iz k l)=iz k l:=by rw [ad6,if_neg hk]
theorem xX (h:S.get q=some (.cells (Y6 me nodes kn ka l) own e)) (hk:ZM kn ka l):zW zi false 31 (.pointer (some ⟨q,0,none⟩)) S=some (ZT me nodes kn ka l,S):=by
 rw [yh h,YI hk.n2,YI hk.a2];rfl
theorem adg {z xs:List Value} {x:Value} (hx:x=.agg xs.toArray) (h:S.get q=some (.cells z (.own []) 0)) (hz:z.length=4) (hl:xs.length=4) (h1:xs.all (·.oneCell')=true) :
  ∃ S2,jX zi 31 (.pointer (some ⟨q,0,none⟩)) x S=some (zh,S2)∧S2.get q=some (.cells xs (.own []) 0)∧S2.next=S.next∧∀ k,k≠q→S2.get k=S.get k:=by
 subst hx
 have st:=wY (P:=zi) (t:=31) (o:=0) (x:=.agg xs.toArray) h yE (by rw [yD,List.size_toArray,hl]) (by rw [yD];exact h1) (by omega)
 refine ⟨_,st,?_,by simp [zy.kills],fun k hk=>by rw [zy.ji,if_neg hk];rfl⟩
 rw [zy.ji,if_pos rfl,yD]
 show some (wR.cells (splice z 0 xs) _ _)=_
 rw [WC (by rw [hz,hl])]
theorem Zh:(Y6 me nodes kn ka l).all (·.oneCell')=true:=by simp only [List.all_cons,List.all_nil,W9,Bool.and_true];rfl
abbrev dm1 (me nodes:Int) (kn ka:Nat) (l:List jF):zy:=(zy.empty.push (.cells (Y6 me nodes kn ka l) (.own []) 0)).push (.cells [.int .i64 0,.int .i64 0,.slice none 0 0,.slice none 0 0] (.own []) 0)
theorem afn:(dm1 me nodes kn ka l).get 0=some (.cells (Y6 me nodes kn ka l) (.own []) 0):=rfl
theorem afs:(dm1 me nodes kn ka l).get 1=some (.cells [.int .i64 0,.int .i64 0,.slice none 0 0,.slice none 0 0] (.own []) 0):=by rw [dm1,zy.zZ];exact if_pos rfl
theorem abr:Yp (ZT me nodes kn ka l) zy.empty=some (.pointer (some ⟨0,0,none⟩),zy.empty.push (.cells (Y6 me nodes kn ka l) (.own []) 0)):=rfl
theorem adG:ql zi 31 (zy.empty.push (.cells (Y6 me nodes kn ka l) (.own []) 0))=some (.pointer (some ⟨1,0,none⟩),dm1 me nodes kn ka l):=by kernel_rfl
theorem Xf (n:Int):∃ a b c,XF n=.tuple #[.int .i64 a,.int .i64 b,.int .i64 c,.bool (qm n)]:=by
 unfold XF
 by_cases h:n < 0
 ·
  have e:qm n=false:=by
   cases h2:qm n with
   | false=>rfl
   | true=>have:=kT.mp h2;omega
  exact ⟨0,0,0,by rw [if_pos h,e]⟩
 ·
  exact ⟨_,_,_,by rw [if_neg h]⟩
theorem WZ (n:Int):(!decide (WJ n=0))=qm n:=by
 unfold WJ
 cases h:qm n with
 | false=>rfl
 | true =>
  have:=kT.mp h
  rw [if_pos rfl,decide_eq_false (by omega)];rfl
theorem kR {d:Nat} (hk:ZM kn ka l):jc (d+6) (ZT me nodes kn ka l)=true:=aae (by
 simp only [List.all_cons,List.all_nil,X0 hk.n.le,X0 hk.a.le,aaX,Bool.and_true])
theorem zC.round {n:Int} (hll:l.length≤32) (hk:ZM kn ka l) {M:zy} (hM0:M.get 0=some (.cells (Y6 me nodes kn ka l) (.own []) 0)) (hM1:M.get 1=some (.cells [.int .i64 0,.int .i64 0,.slice none 0 0,.slice none 0 0] (.own []) 0)):∀ (suf pre:List jF) {T:List Value} {r:St},wQ (zJ zi O false zC.zY) T M=r→T.length=56 →
  T.getD 1 zh=.int .i64 n→T.getD 2 zh=.pointer (some ⟨0,0,none⟩)→T.getD 4 zh=.pointer (some ⟨1,0,none⟩)→T.getD 29 zh=iz kn (l.map (·.name))→T.getD 30 zh=.int .i64 l.length→T.getD 31 zh=.int .i64 pre.length→l=pre++suf →
  ∃ e T' S',r=some (e,T',S')∧T'.length=56∧T'.getD 4 zh=.pointer (some ⟨1,0,none⟩)∧if suf.any (fun w=>decide (n=w.name)) then e=.ret∧T'.getD 5 zh=.bool false∧S'.get 1=some (.cells (Y6 me nodes kn ka l) (.own []) 0) else e=.exit 0∧S'=M∧T'.getD 1 zh=.int .i64 n∧T'.getD 2 zh=.pointer (some ⟨0,0,none⟩):=by
 intro suf
 induction suf with
 | nil =>
  intro pre T r hL hT h1 h2 h4 h29 h30 h31 hl
  have hTe:=zC.eta hT
  rw [h1,h2,h4,h29,h30,h31] at hTe
  have hr:zJ zi O false zC.zY T M=zJ zi O false zC.zY T M:=rfl
  have hd:¬ (pre.length:Int) < (l.length:Int):=by rw [hl];simp
  conv at hr =>
   rhs
   rw [hTe]
   simp only [zC.zY,zC.code,zC.rs,zSs,reduceIte,zk,zn,zo,zq,hd]
  exact ⟨_,_,_,hL.symm.trans (jw hr (by simp)),rfl,rfl,rfl,rfl,rfl,rfl⟩
 | cons x suf ih =>
  intro pre T r hL hT h1 h2 h4 h29 h30 h31 hl
  have hTe:=zC.eta hT
  rw [h1,h2,h4,h29,h30,h31] at hTe
  have hr:zJ zi O false zC.zY T M=zJ zi O false zC.zY T M:=rfl
  have hd:(pre.length:Int) < (l.length:Int):=by rw [hl];simp;omega
  have e1:∀ S,zO zi 29 (iz kn (l.map (·.name))) (.int .i64 pre.length) S=some (EP [.int .i64 x.name],S):=fun S=>by
   rw [Q5 hk.n (by omega) (by rw [List.length_map];exact hd)]
   simp only [List.getElem_map,Jg hl]
  have wi:IntKind.i64.wrap ((pre.length:Int)+1)=((pre++[x]).length:Int):=by rw [wrap_i64 (by omega) (by omega)];simp
  rw [List.any_cons]
  by_cases hx:n=x.name
  ·
   have hx2:(x.name=n)=True:=eq_true hx.symm
   obtain ⟨S2,p1,p2,p3,p4⟩:=adg (x:=ZT me nodes kn ka l) rfl hM1 rfl rfl Zh
   have ld:=xX hM0 hk
   conv at hr =>
    rhs
    rw [hTe]
    simp only [zC.zY,zC.code,zC.rs,zSs,reduceIte,zk,zn,zo,zq,hd,e1,qU,hx2,ld,p1]
   refine ⟨_,_,_,hL.symm.trans (jw hr (by simp)),rfl,rfl,?_⟩
   rw [decide_eq_true hx,Bool.true_or]
   exact ⟨rfl,rfl,p2⟩
  ·
   have hx2:(x.name=n)=False:=eq_false (fun h=>hx h.symm)
   conv at hr =>
    rhs
    rw [hTe]
    simp only [zC.zY,zC.code,zC.rs,zSs,reduceIte,zk,zn,zo,zq,hd,e1,qU,hx2,wi]
   rw [decide_eq_false hx,Bool.false_or]
   exact ih (pre++[x]) ((jK hr).symm.trans hL) rfl rfl rfl rfl rfl rfl rfl (by simp [hl])
theorem zC.v (hll:l.length≤32) (hk:ZM kn ka l) {n:Int} (hn:n < 9223372036854775808) (S:zy) :
  ∃ kn' ka',zU zi O zC.id [ZT me nodes kn ka l,.int .i64 n] S=some (.tuple #[ZT me nodes kn' ka' (kQ l n),.bool (kY l n)],S)∧ZM kn' ka' (kQ l n):=by
 obtain ⟨T,hTe⟩:∃ T,T=(ZT me nodes kn ka l::.int .i64 n::zh::zh::zh::zh::zh::zh::zh::zh::zh::zh::zh::zh::zh::zh::zh::zh::zh::zh::zh::zh::zh::zh::zh::zh::zh::zh::zh::zh::zh::zh::zh::zh::zh::zh::zh::zh::zh::zh::zh::zh::zh::zh::zh::zh::zh::zh::zh::zh::zh::zh::zh::zh::zh::zh::[]):=⟨_,rfl⟩
 have hr:zJ zi O false zC.code T zy.empty=zJ zi O false zC.code T zy.empty:=rfl
 have bx:=abr (me:=me) (nodes:=nodes) (kn:=kn) (ka:=ka) (l:=l)
 have al:=adG (me:=me) (nodes:=nodes) (kn:=kn) (ka:=ka) (l:=l)
 obtain ⟨pa,pb,pc,hp⟩:=Xf n
 have c1:=fun S=>zH.v n hn S
 rw [hp] at c1
 have M0:=afn (me:=me) (nodes:=nodes) (kn:=kn) (ka:=ka) (l:=l)
 have M1:=afs (me:=me) (nodes:=nodes) (kn:=kn) (ka:=ka) (l:=l)
 have ld:=xX M0 hk
 have lnm:=Jm M0 hk
 have lsk:=YJ M0 hk
 have len:∀ S,xY zi 29 (iz kn (l.map (·.name))) S=some (goInt l.length,S):=fun S=>by rw [Ji hk.n,List.length_map]
 obtain ⟨S2,p1,p2,p3,p4⟩:=adg (x:=ZT me nodes kn ka l) rfl M1 rfl rfl Zh
 have ldr:=xX p2 hk
 have ca:[ZT me nodes kn ka l,.int .i64 n].all (jc 16)=true:=by simp only [List.all_cons,List.all_nil,kR (d:=10) hk,Bool.and_true];rfl
 have cv:∀ {kn ka l b},ZM kn ka l→jc 16 (.tuple #[ZT me nodes kn ka l,.bool b])=true:=fun {kn ka l b} h=>Wn (l:=[ZT me nodes kn ka l,.bool b]) (d:=15) (by simp only [List.all_cons,List.all_nil,kR (d:=9) h,Bool.and_true];rfl)
 cases hnm:qm n with
 | false =>
  have hb:kY l n=false:=by unfold kY;rw [WZ,hnm,Bool.false_and,Bool.false_and]
  rw [hnm] at c1
  conv at hr =>
   rhs
   rw [hTe]
   simp only [zC.code,zC.rs,zSs,reduceIte,zk,zn,zo,zq,bx,al,c1,jo,ld,p1]
  rw [hTe] at hr
  refine ⟨kn,ka,?_,by unfold kQ;rw [hb];exact hk⟩
  unfold kQ;rw [hb]
  exact zC.runs hr (.inr rfl) ldr rfl rfl ca (cv hk)
 | true =>
  rw [hnm] at c1
  by_cases h32:l.length < 32
  ·
   have d32:¬ (32:Int)≤(l.length:Int):=by omega
   conv at hr =>
    rhs
    rw [hTe]
    simp only [zC.code,zC.rs,zSs,reduceIte,zk,zn,zo,zq,bx,al,c1,jo,lnm,len,goInt,d32]
   generalize hL:wQ (zJ zi O false zC.zY) _ _=r at hr
   obtain ⟨e,T',S',rfl,q1,q2,q3⟩:=zC.round (n:=n) hll hk M0 M1 l [] hL rfl rfl rfl rfl rfl rfl rfl rfl
   cases hany:l.any fun w=>decide (n=w.name) with
   | true =>
    have hb:kY l n=false:=by unfold kY;rw [hany];simp
    rw [hany] at q3
    obtain ⟨rfl,q4,q5⟩:=q3
    conv at hr =>
     rhs
     simp only [zSs,reduceIte,zk,zn,zo,zq]
    rw [hTe] at hr
    have ldr2:=xX q5 hk
    refine ⟨kn,ka,?_,by unfold kQ;rw [hb];exact hk⟩
    unfold kQ;rw [hb]
    have:=zC.runs (S:=S) hr (.inr rfl) (by rw [q2];exact ldr2) rfl (by rw [q4];rfl) ca (by rw [q4];exact cv hk)
    rw [q4] at this
    exact this
   | false =>
    have hb:kY l n=true:=by unfold kY;rw [WZ,hnm,hany,decide_eq_true h32];rfl
    rw [hany] at q3
    obtain ⟨rfl,rfl,q4,q5⟩:=q3
    have hTe':=zC.eta q1
    rw [q2,q4,q5] at hTe'
    have a1:∀ S,yj zi 29 29 (iz 2 []) (iz kn (l.map (·.name))) S=some (iz 2 (l.map (·.name)),S):=fun S=>by
     rw [JL Okl.own (by decide) hk.n (by simp;omega),if_neg (fun h=>by cases h.1)];rfl
    have a2:∀ S,yj zi 29 29 (iz 2 []) (iz ka (l.map (·.asked))) S=some (iz 2 (l.map (·.asked)),S):=fun S=>by
     rw [JL Okl.own (by decide) hk.a (by simp;omega),if_neg (fun h=>by cases h.1)];rfl
    have b1:=fun S=>ZH (S:=S) (x:=n) (Okl.own (l:=l.map (·.name))) (by decide) (by simp;omega)
    have b2:=fun S=>ZH (S:=S) (x:=0) (Okl.own (l:=l.map (·.asked))) (by decide) (by simp;omega)
    have bs0:∀ S,jl zi 29 1 [(0,.int .i64 0)] S=some (sv 2 1 1 [.int .i64 0],S):=fun S=>vG 0 S
    have st1:=wY (P:=zi) (t:=29) (o:=0+2) (x:=iz 1 (l.map (·.name)++[n])) M0 JD (by rw [yO];rfl) (by rw [yO];simp only [List.all_cons,List.all_nil,W9,Bool.and_true]) (by simp)
    generalize hS3:((dm1 me nodes kn ka l).kills []).set 0 _=S3 at st1
    have g3:S3.get 0=some (.cells [.int .i64 me,.int .i64 nodes,iz 1 (l.map (·.name)++[n]),iz ka (l.map (·.asked))] (.own []) 0):=by
     subst hS3;rw [zy.ji,if_pos rfl,yO];rfl
    have g31:S3.get 1=some (.cells [.int .i64 0,.int .i64 0,.slice none 0 0,.slice none 0 0] (.own []) 0):=by
     subst hS3;rw [zy.ji,if_neg (by decide)];exact M1
    have lsk3:zW zi false 29 (.pointer (some ⟨0,0+3,none⟩)) S3=some (iz ka (l.map (·.asked)),S3):=by
     rw [ZJ (o:=0+3) (v:=iz ka (l.map (·.asked))) g3 Xh rfl YW,KA,if_neg hk.a2]
    have st2:=wY (P:=zi) (t:=29) (o:=0+3) (x:=iz 1 (l.map (·.asked)++[0])) g3 JD (by rw [yO];rfl) (by rw [yO];simp only [List.all_cons,List.all_nil,W9,Bool.and_true]) (by simp)
    generalize hS4:(S3.kills []).set 0 _=S4 at st2
    have g4:S4.get 0=some (.cells (Y6 me nodes 1 1 (l++[⟨n,0⟩])) (.own []) 0):=by
     subst hS4;rw [zy.ji,if_pos rfl,yO]
     show _=some (wR.cells [.int .i64 me,.int .i64 nodes,iz 1 ((l++[(⟨n,0⟩:jF)]).map (fun w:jF=>w.name)),iz 1 ((l++[(⟨n,0⟩:jF)]).map (fun w:jF=>w.asked))] (.own []) 0)
     rw [List.map_append,List.map_append];rfl
    have g41:S4.get 1=some (.cells [.int .i64 0,.int .i64 0,.slice none 0 0,.slice none 0 0] (.own []) 0):=by
     subst hS4;rw [zy.ji,if_neg (by decide)];exact g31
    have ld4:=xX g4 ZM.read
    obtain ⟨S5,r1,r2,r3,r4⟩:=adg (x:=ZT me nodes 1 1 (l++[⟨n,0⟩])) rfl g41 rfl rfl Zh
    have ld5:=xX r2 ZM.read
    conv at hr =>
     rhs
     simp only [zSs,reduceIte,zk,zn,zo,zq]
     rw [hTe']
     simp only [zC.code,zC.rs,zSs,reduceIte,zk,zn,zo,zq,bz0,jo,jJ,lnm,a1,vG,b1,st1,lsk3,a2,bs0,b2,st2,ld4,r1]
    rw [hTe] at hr
    refine ⟨1,1,?_,ZM.read⟩
    unfold kQ;rw [hb]
    exact zC.runs hr (.inr rfl) ld5 rfl rfl ca (cv ZM.read)
  ·
   have hb:kY l n=false:=by unfold kY;rw [decide_eq_false h32,Bool.and_false]
   have d32:(32:Int)≤(l.length:Int):=by omega
   conv at hr =>
    rhs
    rw [hTe]
    simp only [zC.code,zC.rs,zSs,reduceIte,zk,zn,zo,zq,bx,al,c1,jo,lnm,len,goInt,d32,ld,p1]
   rw [hTe] at hr
   refine ⟨kn,ka,?_,by unfold kQ;rw [hb];exact hk⟩
   unfold kQ;rw [hb]
   exact zC.runs hr (.inr rfl) ldr rfl rfl ca (cv hk)
end
end Go.Proofs.Ytpjglojnipjgfaa
namespace Go.Proofs.Ytpjglojnipjgfaa
open Go.Abs
section
variable {me nodes:Int} {l:List jF} {kn ka:Nat}
theorem aad (x:jF) (l:List jF) (n:Int):YG (x::l) n=if x.name=n then YG l n else x::YG l n:=by
 unfold YG
 by_cases h:x.name=n
 ·
  rw [if_pos h,List.filter_cons_of_neg (by simp [h])]
 ·
  rw [if_neg h,List.filter_cons_of_pos (by simp [h])]
theorem zF.round {n:Int} (hll:l.length≤32) (hk:ZM kn ka l) {M:zy} (hM0:M.get 0=some (.cells (Y6 me nodes kn ka l) (.own []) 0)):∀ (suf pre kept:List jF) {T:List Value} {r:St},wQ (zJ zi O false zF.zY) T M=r→T.length=40 →
  T.getD 1 zh=.int .i64 n→T.getD 2 zh=.pointer (some ⟨0,0,none⟩)→T.getD 4 zh=.pointer (some ⟨1,0,none⟩)→T.getD 5 zh=iz 2 (kept.map (·.name))→T.getD 6 zh=iz 2 (kept.map (·.asked))→T.getD 12 zh=iz kn (l.map (·.name))→T.getD 13 zh=.int .i64 l.length→T.getD 14 zh=.int .i64 pre.length→l=pre++suf→kept.length≤pre.length →
  ∃ T',r=some (.exit 0,T',M)∧T'.length=40∧T'.getD 2 zh=.pointer (some ⟨0,0,none⟩)∧T'.getD 4 zh=.pointer (some ⟨1,0,none⟩)∧T'.getD 5 zh=iz 2 ((kept++YG suf n).map (·.name))∧T'.getD 6 zh=iz 2 ((kept++YG suf n).map (·.asked)):=by
 intro suf
 induction suf with
 | nil =>
  intro pre kept T r hL hT h1 h2 h4 h5 h6 h12 h13 h14 hl hkl
  have hTe:=zF.eta hT
  rw [h1,h2,h4,h5,h6,h12,h13,h14] at hTe
  have hr:zJ zi O false zF.zY T M=zJ zi O false zF.zY T M:=rfl
  have hd:¬ (pre.length:Int) < (l.length:Int):=by rw [hl];simp
  conv at hr =>
   rhs
   rw [hTe]
   simp only [zF.zY,zF.code,zF.rs,zSs,reduceIte,zk,zn,zo,zq,hd]
  have e0:kept++YG [] n=kept:=List.append_nil _
  rw [e0]
  exact ⟨_,hL.symm.trans (jw hr (by simp)),rfl,rfl,rfl,rfl,rfl⟩
 | cons x suf ih =>
  intro pre kept T r hL hT h1 h2 h4 h5 h6 h12 h13 h14 hl hkl
  have hTe:=zF.eta hT
  rw [h1,h2,h4,h5,h6,h12,h13,h14] at hTe
  have hr:zJ zi O false zF.zY T M=zJ zi O false zF.zY T M:=rfl
  have hd:(pre.length:Int) < (l.length:Int):=by rw [hl];simp;omega
  have e1:∀ S,zO zi 29 (iz kn (l.map (·.name))) (.int .i64 pre.length) S=some (EP [.int .i64 x.name],S):=fun S=>by
   rw [Q5 hk.n (by omega) (by rw [List.length_map];exact hd)]
   simp only [List.getElem_map,Jg hl]
  have wi:IntKind.i64.wrap ((pre.length:Int)+1)=((pre++[x]).length:Int):=by rw [wrap_i64 (by omega) (by omega)];simp
  rw [aad]
  by_cases hx:x.name=n
  ·
   have hx2:(x.name=n)=True:=eq_true hx
   conv at hr =>
    rhs
    rw [hTe]
    simp only [zF.zY,zF.code,zF.rs,zSs,reduceIte,zk,zn,zo,zq,hd,e1,qU,hx2,wi]
   rw [if_pos hx]
   exact ih (pre++[x]) kept ((jK hr).symm.trans hL) rfl rfl rfl rfl rfl rfl rfl rfl rfl (by simp [hl]) (by simp;omega)
  ·
   have hx2:(x.name=n)=False:=eq_false hx
   have e2:∀ S,zO zi 29 (iz ka (l.map (·.asked))) (.int .i64 pre.length) S=some (EP [.int .i64 x.asked],S):=fun S=>by
    rw [Q5 hk.a (by omega) (by rw [List.length_map];exact hd)]
    simp only [List.getElem_map,Jg hl]
   have lsk:=YJ hM0 hk
   have b1:=fun S=>ZH (S:=S) (x:=x.name) (Okl.own (l:=kept.map (·.name))) (by decide) (by simp;omega)
   have b2:=fun S=>ZH (S:=S) (x:=x.asked) (Okl.own (l:=kept.map (·.asked))) (by decide) (by simp;omega)
   conv at hr =>
    rhs
    rw [hTe]
    simp only [zF.zY,zF.code,zF.rs,zSs,reduceIte,zk,zn,zo,zq,hd,e1,qU,hx2,vG,b1,jJ,lsk,e2,b2,wi]
   rw [if_neg hx]
   have hs:=(jK hr).symm.trans hL
   obtain ⟨T',q1,q2,q3,q4,q5,q6⟩:=ih (pre++[x]) (kept++[x]) hs rfl rfl rfl rfl (by rw [List.map_append];rfl) (by rw [List.map_append];rfl) rfl rfl rfl (by simp [hl]) (by simp;omega)
   rw [show kept++x::YG suf n=kept++[x]++YG suf n by simp]
   exact ⟨T',q1,q2,q3,q4,q5,q6⟩
theorem zF.v (hll:l.length≤32) (hk:ZM kn ka l) (n:Int) (S:zy):zU zi O zF.id [ZT me nodes kn ka l,.int .i64 n] S=some (ZT me nodes 1 1 (YG l n),S):=by
 obtain ⟨T,hTe⟩:∃ T,T=(ZT me nodes kn ka l::.int .i64 n::zh::zh::zh::zh::zh::zh::zh::zh::zh::zh::zh::zh::zh::zh::zh::zh::zh::zh::zh::zh::zh::zh::zh::zh::zh::zh::zh::zh::zh::zh::zh::zh::zh::zh::zh::zh::zh::zh::[]):=⟨_,rfl⟩
 have hr:zJ zi O false zF.code T zy.empty=zJ zi O false zF.code T zy.empty:=rfl
 have bx:=abr (me:=me) (nodes:=nodes) (kn:=kn) (ka:=ka) (l:=l)
 have al:=adG (me:=me) (nodes:=nodes) (kn:=kn) (ka:=ka) (l:=l)
 have M0:=afn (me:=me) (nodes:=nodes) (kn:=kn) (ka:=ka) (l:=l)
 have M1:=afs (me:=me) (nodes:=nodes) (kn:=kn) (ka:=ka) (l:=l)
 have lnm:=Jm M0 hk
 have len:∀ S,xY zi 29 (iz kn (l.map (·.name))) S=some (goInt l.length,S):=fun S=>by rw [Ji hk.n,List.length_map]
 have ca:[ZT me nodes kn ka l,.int .i64 n].all (jc 16)=true:=by simp only [List.all_cons,List.all_nil,kR (d:=10) hk,Bool.and_true];rfl
 conv at hr =>
  rhs
  rw [hTe]
  simp only [zF.code,zF.rs,zSs,reduceIte,zk,zn,zo,zq,bx,al,bz0,jo,lnm,len,goInt]
 generalize hL:wQ (zJ zi O false zF.zY) _ _=r at hr
 obtain ⟨T',rfl,q1,q2,q3,q4,q5⟩:=zF.round (n:=n) hll hk M0 l [] [] hL rfl rfl rfl rfl rfl rfl rfl rfl rfl rfl (by simp)
 rw [List.nil_append] at q4 q5
 have hTe':=zF.eta q1
 rw [q2,q3,q4,q5] at hTe'
 generalize hg:YG l n=l2 at *
 have st1:=wY (P:=zi) (t:=29) (o:=0+2) (x:=iz 1 (l2.map (·.name))) M0 JD (by rw [yO];rfl) (by rw [yO];simp only [List.all_cons,List.all_nil,W9,Bool.and_true]) (by simp)
 generalize hS3:((dm1 me nodes kn ka l).kills []).set 0 _=S3 at st1
 have g3:S3.get 0=some (.cells [.int .i64 me,.int .i64 nodes,iz 1 (l2.map (·.name)),iz ka (l.map (·.asked))] (.own []) 0):=by
  subst hS3;rw [zy.ji,if_pos rfl,yO];rfl
 have g31:S3.get 1=some (.cells [.int .i64 0,.int .i64 0,.slice none 0 0,.slice none 0 0] (.own []) 0):=by
  subst hS3;rw [zy.ji,if_neg (by decide)];exact M1
 have st2:=wY (P:=zi) (t:=29) (o:=0+3) (x:=iz 1 (l2.map (·.asked))) g3 JD (by rw [yO];rfl) (by rw [yO];simp only [List.all_cons,List.all_nil,W9,Bool.and_true]) (by simp)
 generalize hS4:(S3.kills []).set 0 _=S4 at st2
 have g4:S4.get 0=some (.cells (Y6 me nodes 1 1 l2) (.own []) 0):=by
  subst hS4;rw [zy.ji,if_pos rfl,yO];rfl
 have g41:S4.get 1=some (.cells [.int .i64 0,.int .i64 0,.slice none 0 0,.slice none 0 0] (.own []) 0):=by
  subst hS4;rw [zy.ji,if_neg (by decide)];exact g31
 have ld4:=xX g4 ZM.read
 obtain ⟨S5,r1,r2,r3,r4⟩:=adg (x:=ZT me nodes 1 1 l2) rfl g41 rfl rfl Zh
 have ld5:=xX r2 ZM.read
 conv at hr =>
  rhs
  simp only [zSs,reduceIte,zk,zn,zo,zq]
  rw [hTe']
  simp only [zF.code,zF.rs,zSs,reduceIte,zk,zn,zo,zq,jo,jJ,st1,st2,ld4,r1]
 rw [hTe] at hr
 exact zF.runs hr (.inr rfl) ld5 ca (kR (d:=10) ZM.read)
abbrev aey (x:Wu):Value:=.agg [Value.int .i64 2,.int .i64 x.frm,.int .i64 0,.int .i64 0,.int .i64 x.val,.int .i64 0,.int .i64 0,.int .i64 0,.int .i64 0,.int .i64 0,.int .i64 0,.int .i64 0,.slice none 0 0].toArray
abbrev blk0:Value:=.agg [Value.int .i64 0,.int .i64 0,.int .i64 0,.int .i64 0,.slice none 0 0].toArray
theorem qc.zero (S:zy):zU zi O qc.id [blk0,blk0] S=some (.bool true,S):=XQ (n:=20) (by kernel_rfl)
end
end Go.Proofs.Ytpjglojnipjgfaa
namespace Go.Proofs.Ytpjglojnipjgfaa
open Go.Abs
theorem kW.v (S:zy):zU zi O 8 [] S=some (.bool true,S):=XQ (n:=20) (by kernel_rfl)
theorem adw {q:Nat} {x:Wu} {S:zy} (h:S.get q=some (.cells [Value.int .i64 2,.int .i64 x.frm,.int .i64 0,.int .i64 0,.int .i64 x.val,.int .i64 0,.int .i64 0,.int .i64 0,.int .i64 0,.int .i64 0,.int .i64 0,.int .i64 0,.slice none 0 0] (.own []) 0)):zW zi false 47 (.pointer (some ⟨q,0+6,none⟩)) S=some (.agg [Value.int .i64 0,.int .i64 0].toArray,S) :=
 (ZE (o:=0+6) h acE ab1 (by simp)).trans (by simp [Go.Abs.qA])
theorem abB {q:Nat} {x:Wu} {S:zy} (h:S.get q=some (.cells [Value.int .i64 2,.int .i64 x.frm,.int .i64 0,.int .i64 0,.int .i64 x.val,.int .i64 0,.int .i64 0,.int .i64 0,.int .i64 0,.int .i64 0,.int .i64 0,.int .i64 0,.slice none 0 0] (.own []) 0)):zW zi false 50 (.pointer (some ⟨q,0+8,none⟩)) S=some (blk0,S) :=
 (ZE (o:=0+8) h KR Xe (by simp)).trans (by simp [Go.Abs.qA])
theorem aeW (S:zy):wB zi .eql 47 (.agg [Value.int .i64 0,.int .i64 0].toArray) (.agg [Value.int .i64 0,.int .i64 0].toArray) S=some (.bool true,S):=by kernel_rfl
theorem zL.ask (x:Wu) (S:zy):zU zi O zL.id [aey x,aey x] S=some (.bool true,S):=by
 obtain ⟨T,hTe⟩:∃ T,T=(aey x::aey x::zh::zh::zh::zh::zh::zh::zh::zh::zh::zh::zh::zh::zh::zh::zh::zh::zh::zh::zh::zh::zh::zh::zh::zh::zh::zh::zh::zh::zh::zh::zh::zh::zh::zh::zh::zh::zh::zh::zh::zh::zh::zh::zh::zh::zh::zh::zh::zh::zh::zh::zh::zh::zh::zh::zh::[]):=⟨_,rfl⟩
 have hr:zJ zi O false zL.code T zy.empty=zJ zi O false zL.code T zy.empty:=rfl
 generalize hc:[Value.int .i64 2,.int .i64 x.frm,.int .i64 0,.int .i64 0,.int .i64 x.val,.int .i64 0,.int .i64 0,.int .i64 0,.int .i64 0,.int .i64 0,.int .i64 0,.int .i64 0,.slice none 0 0]=cs
 have b1:Yp (aey x) zy.empty=some (.pointer (some ⟨0,0,none⟩),zy.empty.push (.cells cs (.own []) 0)):=by subst hc;rfl
 have b2:Yp (aey x) (zy.empty.push (.cells cs (.own []) 0))=some (.pointer (some ⟨1,0,none⟩),(zy.empty.push (.cells cs (.own []) 0)).push (.cells cs (.own []) 0)):=by subst hc;rfl
 generalize hM:(zy.empty.push (.cells cs (.own []) 0)).push (.cells cs (.own []) 0)=M at b2
 have g0:M.get 0=some (.cells cs (.own []) 0):=by subst hM;rw [zy.zZ,zy.zZ];rfl
 have g1:M.get 1=some (.cells cs (.own []) 0):=by subst hM;rw [zy.zZ];exact if_pos rfl
 subst hc
 have k0:=jC (t:=3) (o:=0+0) g0 yV rfl
 have k1:=jC (t:=3) (o:=0+1) g0 yV rfl
 have k2:=jC (t:=3) (o:=0+2) g0 yV rfl
 have k3:=jC (t:=3) (o:=0+3) g0 yV rfl
 have k4:=jC (t:=3) (o:=0+4) g0 yV rfl
 have k5:=jC (t:=3) (o:=0+5) g0 yV rfl
 have j0:=jC (t:=3) (o:=0+0) g1 yV rfl
 have j1:=jC (t:=3) (o:=0+1) g1 yV rfl
 have j2:=jC (t:=3) (o:=0+2) g1 yV rfl
 have j3:=jC (t:=3) (o:=0+3) g1 yV rfl
 have j4:=jC (t:=3) (o:=0+4) g1 yV rfl
 have j5:=jC (t:=3) (o:=0+5) g1 yV rfl
 have tx0:=adw g0
 have tx1:=adw g1
 have bk0:=abB g0
 have bk1:=abB g1
 have sm:=fun S=>qc.zero S
 conv at hr =>
  rhs
  rw [hTe]
  simp only [zL.code,zL.rs,zSs,reduceIte,zk,zn,zo,zq,b1,b2,Qg,Qn,QZ,Ky,Ku,Qr,KJ,Q7,k0,k1,k2,k3,k4,k5,j0,j1,j2,j3,j4,j5,tx0,tx1,bk0,bk1,aeW,sm]
 rw [hTe] at hr
 exact zL.runs hr (.inr rfl) rfl rfl
section
variable {l:List Wu}
theorem zB.round {k j:Nat} (hk:Okl k l) (hj:Okl j l) (k2:k≠2) (j2:j≠2) (hlen:l.length≤1000000) {S:zy}:∀ (suf pre:List Wu) {T:List Value} {r:St},wQ (zJ zi O false zB.zY) T S=r→T.length=42 →
  T.getD 0 zh=az k l→T.getD 1 zh=az j l→T.getD 12 zh=.int .i64 l.length→T.getD 13 zh=.int .i64 pre.length→l=pre++suf→∃ T',r=some (.exit 0,T',S)∧T'.length=42:=by
 intro suf
 induction suf with
 | nil =>
  intro pre T r hL hT h0 h1 h12 h13 hl
  have hTe:=zB.eta hT
  rw [h0,h1,h12,h13] at hTe
  have hr:zJ zi O false zB.zY T S=zJ zi O false zB.zY T S:=rfl
  have hd:¬ (pre.length:Int) < (l.length:Int):=by rw [hl];simp
  conv at hr =>
   rhs
   rw [hTe]
   simp only [zB.zY,zB.code,zB.rs,zSs,reduceIte,zk,zn,zo,zq,hd]
  exact ⟨_,hL.symm.trans (jw hr (by simp)),rfl⟩
 | cons x suf ih =>
  intro pre T r hL hT h0 h1 h12 h13 hl
  have hTe:=zB.eta hT
  rw [h0,h1,h12,h13] at hTe
  have hr:zJ zi O false zB.zY T S=zJ zi O false zB.zY T S:=rfl
  have hd:(pre.length:Int) < (l.length:Int):=by rw [hl];simp;omega
  have ea:∀ {k:Nat},Okl k l→∀ S,zO zi 26 (az k l) (.int .i64 pre.length) S=some (EP [Value.int .i64 x.to,.int .i64 2,.int .i64 x.frm,.int .i64 0,.int .i64 0,.int .i64 x.val,.int .i64 0,.int .i64 0,.int .i64 0,.int .i64 0,.int .i64 0,.int .i64 0,.int .i64 0,.slice none 0 0],S):=fun {k} hk S=>by
   rw [abZ yR JV X5 hk (by omega) hd,Jg hl];rfl
  have e1:=ea hk
  have e2:=ea hj
  have sm:=fun S=>zL.ask x S
  have wi:IntKind.i64.wrap ((pre.length:Int)+1)=((pre++[x]).length:Int):=by rw [wrap_i64 (by omega) (by omega)];simp
  have l1:∀ (n:Int) S,zW zi false 3 (EP [.int .i64 n]) S=some (.int .i64 n,S):=fun n S=>QW yV
  conv at hr =>
   rhs
   rw [hTe]
   simp only [zB.zY,zB.code,zB.rs,zSs,reduceIte,zk,zn,zo,zq,hd,if_neg k2,if_neg j2,e1,e2,Qy,Kw,l1,VH,sm,wi]
  exact ih (pre++[x]) ((jK hr).symm.trans hL) rfl rfl rfl rfl rfl (by simp [hl])
theorem zB.v {k j:Nat} (hk:Okl k l) (hj:Okl j l) (k2:k≠2) (j2:j≠2) (hlen:l.length≤1000000) (S:zy):zU zi O zB.id [az k l,az j l] S=some (.bool true,S):=by
 obtain ⟨T,hTe⟩:∃ T,T=(az k l::az j l::zh::zh::zh::zh::zh::zh::zh::zh::zh::zh::zh::zh::zh::zh::zh::zh::zh::zh::zh::zh::zh::zh::zh::zh::zh::zh::zh::zh::zh::zh::zh::zh::zh::zh::zh::zh::zh::zh::zh::zh::[]):=⟨_,rfl⟩
 have hr:zJ zi O false zB.code T S=zJ zi O false zB.code T S:=rfl
 have n1:=fun S=>Ko (P:=zi) (t:=26) (f:=fA) (e:=14) (S:=S) yR hk
 have n2:=fun S=>Ko (P:=zi) (t:=26) (f:=fA) (e:=14) (S:=S) yR hj
 conv at hr =>
  rhs
  rw [hTe]
  simp only [zB.code,zB.rs,zSs,reduceIte,zk,zn,zo,zq,if_neg k2,if_neg j2,n1,n2,goInt]
 generalize hL:wQ (zJ zi O false zB.zY) _ _=r at hr
 obtain ⟨T',rfl,q1⟩:=zB.round hk hj k2 j2 hlen l [] hL rfl rfl rfl rfl rfl rfl
 have hTe':=zB.eta q1
 conv at hr =>
  rhs
  simp only [zSs,reduceIte,zk,zn,zo,zq]
  rw [hTe']
  simp only [zB.code,zB.rs,zSs,reduceIte,zk,zn,zo,zq]
 rw [hTe] at hr
 exact zB.runs hr (.inr rfl)
end
end Go.Proofs.Ytpjglojnipjgfaa
namespace Go.Proofs.Ytpjglojnipjgfaa
open Go.Abs
abbrev afJ (x:Wu):Value:=.agg [Value.int .i64 x.to,.int .i64 2,.int .i64 x.frm,.int .i64 0,.int .i64 0,.int .i64 x.val,.int .i64 0,.int .i64 0,.int .i64 0,.int .i64 0,.int .i64 0,.int .i64 0,.int .i64 0,.slice none 0 0].toArray
theorem abI {nodes:Int} {l:List jF} {w:jF} (h:w ∈ qB nodes l) {B:Int} (hl:∀ x ∈ l,0≤x.asked∧x.asked≤B):0≤w.asked∧w.asked≤B+1:=by
 unfold qB at h
 split at h
 ·
  have:=hl w h;omega
 ·
  rcases List.mem_append.1 h with h | h
  ·
   rw [List.mem_map] at h
   obtain ⟨x,hx,rfl⟩:=h
   have:=hl x (List.mem_of_mem_take hx)
   show 0≤x.asked+1∧x.asked+1≤B+1
   omega
  ·
   have:=hl w (List.mem_of_mem_drop h);omega
end Go.Proofs.Ytpjglojnipjgfaa
namespace Go.Proofs.Ytpjglojnipjgfaa
open Go.Abs
section
variable {S:zy} {fp:List Nat} {a:Option Addr}
theorem aeb {l:List Int} (h:wU ci 1 S a l fp) (hl:l.length≤1000) (v:Int):∃ x S1 a' S2 fp',jf zi 29 1 [(0,.int .i64 v)] S=some (x,S1)∧jW zi true 29 29 (.slice a l.length l.length) x S1=some (.slice a' (l++[v]).length (l++[v]).length,S2) ∧
  wU ci 1 S2 a' (l++[v]) fp'∧(∀ x ∈ fp',x ∈ fp∨S.next≤x)∧Fr fp S S2:=by
 have x2:Ext S (S.push (.cells [.int .i64 v] (.own []) 1)):=Ext.push _ _
 have g:(S.push (.cells [.int .i64 v] (.own []) 1)).get S.next=some (.cells [.int .i64 v] (.own []) 1):=by rw [zy.zZ,if_pos rfl]
 have src:xZ zi 29 1 (.slice (some ⟨S.next,0,none⟩) 1 1) (S.push (.cells [.int .i64 v] (.own []) 1))=some (([v]:List Int).length,([v]:List Int).flatMap ci) :=
  (JX (o:=0) (m:=1) (e:=1) qY g (by show 1≤1;omega) (by rfl)).trans rfl
 obtain ⟨a',S3,fp',e1,e2,e3,e4⟩:=wU.append (P:=zi) (t:=29) (te:=3) (tx:=29) qY Xp adX rfl aeh (by decide) Wj aa3 (h.ext x2) src (by simp;omega) (by simp;omega)
 exact ⟨_,_,a',S3,fp',(by kernel_rfl),e1,e2,fun x hx=>(e3 x hx).elim .inl fun h=>.inr (Nat.le_trans x2.next h),(Fr.ext x2).trans e4 fun x hx=>.inl hx⟩
theorem adO {l:List Wu} (h:wU fA 14 S a l fp) (hl:l.length≤1000) (v:Wu):∃ x S1 a' S2 fp',jf zi 26 1 [(0,afJ v)] S=some (x,S1)∧jW zi true 26 26 (.slice a l.length l.length) x S1=some (.slice a' (l++[v]).length (l++[v]).length,S2) ∧
  wU fA 14 S2 a' (l++[v]) fp'∧(∀ x ∈ fp',x ∈ fp∨S.next≤x)∧Fr fp S S2:=by
 have x2:Ext S (S.push (.cells (fA v) (.own []) 14)):=Ext.push _ _
 have g:(S.push (.cells (fA v) (.own []) 14)).get S.next=some (.cells (fA v) (.own []) 14):=by rw [zy.zZ,if_pos rfl]
 have src:xZ zi 26 14 (.slice (some ⟨S.next,0,none⟩) 1 1) (S.push (.cells (fA v) (.own []) 14))=some (([v]:List Wu).length,([v]:List Wu).flatMap fA) :=
  (JX (o:=0) (m:=1) (e:=14) yR g (by show 14≤14;omega) (by rfl)).trans rfl
 obtain ⟨a',S3,fp',e1,e2,e3,e4⟩:=wU.append (P:=zi) (t:=26) (te:=54) (tx:=26) yR JV QJ rfl QI (by decide) X5 adv (h.ext x2) src (by simp;omega) (by simp;omega)
 exact ⟨_,_,a',S3,fp',(by kernel_rfl),e1,e2,fun x hx=>(e3 x hx).elim .inl fun h=>.inr (Nat.le_trans x2.next h),(Fr.ext x2).trans e4 fun x hx=>.inl hx⟩
theorem YM {α:Type} (f:α→List Value) {e:Nat} (he:e≠0) (S:zy):wU f e (S.push (.cells [] (.own []) e)) (some ⟨S.next,0,none⟩) [] [S.next]:=by
 refine .inr ⟨S.next,[],[],rfl,rfl,by rw [zy.zZ,if_pos rfl];rfl,fun x hx=>?_⟩
 rw [List.mem_singleton.1 hx]
 refine ⟨by simp,fun cs own=>?_⟩
 rw [zy.zZ,if_pos rfl]
 intro h
 simp only [Option.some.injEq,wR.cells.injEq] at h
 exact he h.2.2
theorem WV:∀ l:List Int,l.flatMap ci=l.map (Value.int .i64 ·)
 | []=>rfl
 | x::l=>by rw [List.flatMap_cons,List.map_cons,WV l];rfl
theorem aaK {r:Nat} {l:List Int} {j:Nat} {v:Int} (h:wU ci 1 S (some ⟨r,0,none⟩) l fp) (hj:l[j]?=some v):zW zi false 3 (.pointer (some ⟨r,0+j * 1,none⟩)) S=some (.int .i64 v,S):=by
 rcases h with ⟨h,_⟩ | ⟨r',anc,rest,ha,hfa,hg,hx⟩
 ·
  cases h
 simp only [Option.some.injEq,Addr.mk.injEq,and_true] at ha
 subst ha
 have hl:(l.flatMap ci)[j]?=some (.int .i64 v):=by
  rw [WV,List.getElem?_map,hj];rfl
 have hb:=(List.getElem?_eq_some_iff.1 hl).1
 exact jC hg yV (by rw [Nat.zero_add,Nat.mul_one,List.getElem?_append_left hb,hl])
theorem adl {r n j:Nat} (hj:j < n) (S:zy):zO zi 29 (.slice (some ⟨r,0,none⟩) n n) (.int .i64 j) S=some (.pointer (some ⟨r,0+j * 1,none⟩),S):=by
 rw [J6 (o:=0) (n:=n) (c:=n) (q:=r) qY Xp (by omega) (by omega),Int.toNat_natCast]
theorem aes {r:Nat} {pre suf:List Int} {x:Int} (y:Int) (h:wU ci 1 S (some ⟨r,0,none⟩) (pre++x::suf) fp):∃ S1,jX zi 3 (.pointer (some ⟨r,0+pre.length * 1,none⟩)) (.int .i64 y) S=some (zh,S1)∧wU ci 1 S1 (some ⟨r,0,none⟩) (pre++y::suf) [r]∧S1.next=S.next∧r ∈ fp∧Fr fp S S1:=by
 rcases h with ⟨h,_⟩ | ⟨r',anc,rest,ha,hfa,hg,hx⟩
 ·
  cases h
 simp only [Option.some.injEq,Addr.mk.injEq,and_true] at ha
 subst ha
 have hlen:(pre.flatMap ci).length=pre.length:=by rw [jD Wj,Nat.mul_one]
 have e0:∀ z:Int,(pre++z::suf).flatMap ci++rest=pre.flatMap ci++([.int .i64 z]++(suf.flatMap ci++rest)):=fun z=>by
  rw [List.flatMap_append,List.flatMap_cons];simp [ci]
 have st:=wY (P:=zi) (t:=3) (o:=0+pre.length * 1) (x:=.int .i64 y) hg Xp rfl rfl (by rw [e0];simp [hlen])
 refine ⟨_,st,.inr ⟨r,[],rest,rfl,rfl,?_,fun k hk=>?_⟩,by simp,by rw [hfa];simp,((Fr.refl _ _).kills (fun k hk=>.inl (by rw [hfa];simp [hk]))).set (.inl (by rw [hfa];simp)) _⟩
 ·
  rw [zy.ji,if_pos rfl]
  show some (wR.cells (splice _ _ [.int .i64 y]) _ _)=_
  rw [e0,e0]
  rw [vw (B:=[Value.int .i64 x]) (C:=[Value.int .i64 y]) (by rw [hlen];omega) (by rfl)]
 ·
  rw [List.mem_singleton.1 hk]
  exact ⟨by simp;exact (hx r (by rw [hfa];simp)).1,ZG (by decide) (vH (hx r (by rw [hfa];simp)).2)⟩
end
def jY (me nodes:Int) (j:Nat):List Int:=(List.range j).map fun i:Nat=>(me+((i:Int)+1)) % nodes
theorem VY (me nodes:Int) (j:Nat):jY me nodes (j+1)=jY me nodes j++[(me+((j:Int)+1)) % nodes]:=by simp [jY,List.range_succ]
theorem ZB (me nodes:Int) (j:Nat):(jY me nodes j).length=j:=by simp [jY]
section
variable {me nodes:Int} {l:List jF} {kn ka:Nat}
abbrev ae0:List Value:=[.int .i64 0,.int .i64 0,.slice none 0 0,.slice none 0 0]
structure Base (me nodes:Int) (kn ka:Nat) (l:List jF) (S:zy):Prop where
 g0:S.get 0=some (.cells (Y6 me nodes kn ka l) (.own []) 0)
 g1:S.get 1=some (.cells ae0 (.own []) 0)
 lt:1 < S.next
theorem Base.fr {S S1:zy} {fp:List Nat} (h:Base me nodes kn ka l S) (k:Fr fp S S1) (hm:∀ x ∈ fp,Many S x):Base me nodes kn ka l S1 :=
 ⟨(k.2 0 (by have:=h.lt;omega) (fun hx=>hm 0 hx _ _ h.g0)).trans h.g0,(k.2 1 h.lt (fun hx=>hm 1 hx _ _ h.g1)).trans h.g1,Nat.lt_of_lt_of_le h.lt k.1⟩
theorem Base.ext {S S1:zy} (h:Base me nodes kn ka l S) (k:Ext S S1):Base me nodes kn ka l S1:=h.fr (fp:=[]) (Fr.ext k) (fun x hx=>by cases hx)
theorem zx.aeQ (hn:0≤me∧me < nodes∧nodes≤7):∀ (d j:Nat) {T:List Value} {r:St} {S:zy} {a:Nat} {fp:List Nat},wQ (zJ zi O true zx.zY) T S=r→T.length=76 →
  T.getD 1 zh=.pointer (some ⟨0,0,none⟩)→T.getD 2 zh=.pointer (some ⟨1,0,none⟩)→T.getD 4 zh=.slice (some ⟨a,0,none⟩) (jY me nodes j).length (jY me nodes j).length→T.getD 5 zh=.int .i64 ((j:Int)+1)→(j:Int)+d+1=nodes→Base me nodes kn ka l S→wU ci 1 S (some ⟨a,0,none⟩) (jY me nodes j) fp →
  ∃ T' S' m a' fp',r=some (.exit 0,T',S')∧T'.length=76∧T'.getD 1 zh=.pointer (some ⟨0,0,none⟩)∧T'.getD 2 zh=.pointer (some ⟨1,0,none⟩)∧((m:Nat):Int)+1=nodes∧T'.getD 4 zh=.slice (some ⟨a',0,none⟩) (jY me nodes m).length (jY me nodes m).length∧Base me nodes kn ka l S'∧wU ci 1 S' (some ⟨a',0,none⟩) (jY me nodes m) fp':=by
 intro d
 induction d with
 | zero =>
  intro j T r S a fp hL hT h1 h2 h4 h5 hj hB hA
  have hTe:=zx.eta hT
  rw [h1,h2,h4,h5] at hTe
  have hr:zJ zi O true zx.zY T S=zJ zi O true zx.zY T S:=rfl
  have ld:=jC (t:=3) (o:=0+1) hB.g0 yV rfl
  have hd:¬ (j:Int)+1 < nodes:=by omega
  conv at hr =>
   rhs
   rw [hTe]
   simp only [zx.zY,zx.code,zx.rs,zSs,reduceIte,zk,zn,zo,zq,yU,ld,hd]
  exact ⟨_,_,j,a,fp,hL.symm.trans (jw hr (by simp)),rfl,rfl,rfl,by omega,rfl,hB,hA⟩
 | succ d ih =>
  intro j T r S a fp hL hT h1 h2 h4 h5 hj hB hA
  have hTe:=zx.eta hT
  rw [h1,h2,h4,h5] at hTe
  have hr:zJ zi O true zx.zY T S=zJ zi O true zx.zY T S:=rfl
  have ld:=jC (t:=3) (o:=0+1) hB.g0 yV rfl
  have ld0:=jC (t:=3) (o:=0+0) hB.g0 yV rfl
  have hd:(j:Int)+1 < nodes:=by omega
  have hne:nodes≠0:=by omega
  have w1:IntKind.i64.wrap (me+((j:Int)+1))=me+((j:Int)+1):=wrap_i64 (by omega) (by omega)
  have tm:(me+((j:Int)+1)).tmod nodes=(me+((j:Int)+1)) % nodes:=xw (by omega)
  have wj:IntKind.i64.wrap ((j:Int)+1+1)=((j+1:Nat):Int)+1:=by rw [wrap_i64 (by omega) (by omega)];omega
  obtain ⟨x,S1,a',S2,fp',b1,b2,b3,b4,b5⟩:=aeb hA (by rw [ZB];omega) ((me+((j:Int)+1)) % nodes)
  rw [← VY] at b2 b3
  obtain ⟨a2,rfl⟩:∃ a2,a'=some ⟨a2,0,none⟩:=by
   rcases b3 with ⟨_,h,_⟩ | ⟨r',anc,rest,ha,_⟩
   ·
    have:=congrArg List.length h;rw [ZB] at this;simp at this
   ·
    exact ⟨r',ha⟩
  conv at hr =>
   rhs
   rw [hTe]
   simp only [zx.zY,zx.code,zx.rs,zSs,reduceIte,zk,zn,zo,zq,yU,yT,ld,ld0,hd,w1,kD _ _ _ hne,tm,b1,b2,wj]
  exact ih (j+1) ((jK hr).symm.trans hL) rfl rfl rfl rfl rfl (by omega) (hB.fr b5 hA.many) b3
theorem zx.acW {aP:Nat} (hll:l.length≤32) (hk:ZM kn ka l) {P:List Int} {S:zy}:∀ (suf pre:List jF) {T:List Value} {r:St},wQ (zJ zi O true zx.xq) T S=r→T.length=76 →
  T.getD 4 zh=.slice (some ⟨aP,0,none⟩) P.length P.length→T.getD 33 zh=iz kn (l.map (·.name))→T.getD 34 zh=.int .i64 l.length→T.getD 35 zh=.int .i64 pre.length→l=pre++suf→(P=[]∨8≤pre.length) →
  ∃ T',r=some (.exit 2,T',S)∧T'.length=76∧T'.getD 1 zh=T.getD 1 zh∧T'.getD 2 zh=T.getD 2 zh∧T'.getD 6 zh=T.getD 6 zh∧T'.getD 7 zh=T.getD 7 zh:=by
 intro suf
 induction suf with
 | nil =>
  intro pre T r hL hT h4 h33 h34 h35 hl hc
  have hTe:=zx.eta hT
  rw [h4,h33,h34,h35] at hTe
  have hr:zJ zi O true zx.xq T S=zJ zi O true zx.xq T S:=rfl
  have hd:¬ (pre.length:Int) < (l.length:Int):=by rw [hl];simp
  conv at hr =>
   rhs
   rw [hTe]
   simp only [zx.xq,zx.code,zx.rs,zSs,reduceIte,zk,zn,zo,zq,hd]
  exact ⟨_,hL.symm.trans (jw hr (by simp)),rfl,rfl,rfl,rfl,rfl⟩
 | cons x suf ih =>
  intro pre T r hL hT h4 h33 h34 h35 hl hc
  have hTe:=zx.eta hT
  rw [h4,h33,h34,h35] at hTe
  have hr:zJ zi O true zx.xq T S=zJ zi O true zx.xq T S:=rfl
  have hd:(pre.length:Int) < (l.length:Int):=by rw [hl];simp;omega
  have e1:∀ S,zO zi 29 (iz kn (l.map (·.name))) (.int .i64 pre.length) S=some (EP [.int .i64 x.name],S):=fun S=>by
   rw [Q5 hk.n (by omega) (by rw [List.length_map];exact hd)]
   simp only [List.getElem_map,Jg hl]
  have wi:IntKind.i64.wrap ((pre.length:Int)+1)=((pre++[x]).length:Int):=by rw [wrap_i64 (by omega) (by omega)];simp
  have ln:=fun S=>Zc qY (some ⟨aP,0,none⟩) P.length P.length S
  by_cases h8:(pre.length:Int) < 8
  ·
   have hP:P=[]:=hc.resolve_right (by omega)
   subst hP
   have d0:¬ ((0:Nat):Int) > 0:=by decide
   have d0:(0 < (([]:List Int).length:Int))=False:=by simp
   conv at hr =>
    rhs
    rw [hTe]
    simp only [zx.xq,zx.code,zx.rs,zSs,reduceIte,zk,zn,zo,zq,hd,e1,qU,h8,ln,goInt,d0,wi]
   obtain ⟨T',p⟩:=ih (pre++[x]) ((jK hr).symm.trans hL) rfl rfl rfl rfl rfl (by simp [hl]) (.inl rfl)
   exact ⟨T',p⟩
  ·
   conv at hr =>
    rhs
    rw [hTe]
    simp only [zx.xq,zx.code,zx.rs,zSs,reduceIte,zk,zn,zo,zq,hd,e1,qU,h8,wi]
   obtain ⟨T',p⟩:=ih (pre++[x]) ((jK hr).symm.trans hL) rfl rfl rfl rfl rfl (by simp [hl]) (.inr (by simp;omega))
   exact ⟨T',p⟩
end
end Go.Proofs.Ytpjglojnipjgfaa
namespace Go.Proofs.Ytpjglojnipjgfaa
open Go.Abs
section
variable {me nodes:Int} {l:List jF} {kn ka:Nat}
theorem abX {m:Nat} {w:Int} (hm:(m:Int)+1=nodes) (h2:2≤nodes) (h0:0≤w):(jY me nodes m)[(w % (m:Int)).toNat]?=some (acw me nodes w):=by
 have hmod:=Int.emod_nonneg w (show (m:Int)≠0 by omega)
 have hmod2:=Int.emod_lt_of_pos w (show 0 < (m:Int) by omega)
 unfold jY
 rw [List.getElem?_map,List.getElem?_range (by omega)]
 simp only [Option.map_some,Option.some.injEq]
 unfold acw
 rw [show nodes - 1=(m:Int) by omega]
 congr 1
 omega
theorem zx.step {m aP aO aA:Nat} (hll:l.length≤32) (hk:ZM kn ka l) (hn:0≤me∧me < nodes∧nodes≤7) (h2:2≤nodes) (hm:(m:Int)+1=nodes) {x:jF} (hx:0≤x.asked∧x.asked < 1099511627776) {suf pre:List jF} {T:List Value} {S:zy} {fP fO fA':List Nat} (hT:T.length=76)
  (h1:T.getD 1 zh=.pointer (some ⟨0,0,none⟩)) (h4:T.getD 4 zh=.slice (some ⟨aP,0,none⟩) (jY me nodes m).length (jY me nodes m).length) (h6:T.getD 6 zh=.slice (some ⟨aO,0,none⟩) (pre.map (qK me nodes)).length (pre.map (qK me nodes)).length)
  (h7:T.getD 7 zh=.slice (some ⟨aA,0,none⟩) l.length l.length) (h33:T.getD 33 zh=iz kn (l.map (·.name))) (h34:T.getD 34 zh=.int .i64 l.length) (h35:T.getD 35 zh=.int .i64 pre.length) (hl:l=pre++x::suf) (h8:pre.length < 8)
  (hB:Base me nodes kn ka l S) (hP:wU ci 1 S (some ⟨aP,0,none⟩) (jY me nodes m) fP) (hO:wU fA 14 S (some ⟨aO,0,none⟩) (pre.map (qK me nodes)) fO) (hA:wU ci 1 S (some ⟨aA,0,none⟩) (pre.map (fun w=>w.asked+1)++x.asked::suf.map (·.asked)) fA')
  (d1:∀ x ∈ fP,x ∉ fO) (d2:∀ x ∈ fP,x ∉ fA') (d3:∀ x ∈ fO,x ∉ fA') :
  ∃ T' S' aO' fO',zJ zi O true zx.xq T S=some (.normal,T',S')∧(T'.length=76∧T'.getD 1 zh=.pointer (some ⟨0,0,none⟩)∧T'.getD 2 zh=T.getD 2 zh∧T'.getD 4 zh=.slice (some ⟨aP,0,none⟩) (jY me nodes m).length (jY me nodes m).length ∧
   T'.getD 6 zh=.slice (some ⟨aO',0,none⟩) ((pre++[x]).map (qK me nodes)).length ((pre++[x]).map (qK me nodes)).length∧T'.getD 7 zh=.slice (some ⟨aA,0,none⟩) l.length l.length∧T'.getD 33 zh=iz kn (l.map (·.name))∧T'.getD 34 zh=.int .i64 l.length∧T'.getD 35 zh=.int .i64 (pre++[x]).length) ∧
   Base me nodes kn ka l S'∧wU ci 1 S' (some ⟨aP,0,none⟩) (jY me nodes m) fP∧wU fA 14 S' (some ⟨aO',0,none⟩) ((pre++[x]).map (qK me nodes)) fO'∧wU ci 1 S' (some ⟨aA,0,none⟩) ((pre++[x]).map (fun w=>w.asked+1)++suf.map (·.asked)) [aA] ∧
   (∀ x ∈ fP,x ∉ fO')∧(∀ x ∈ fP,x ∉ [aA])∧(∀ x ∈ fO',x ∉ [aA]):=by
 have hTe:=zx.eta hT
 rw [h1,h4,h6,h7,h33,h34,h35] at hTe
 have hr:zJ zi O true zx.xq T S=zJ zi O true zx.xq T S:=rfl
 have hlen:l.length=pre.length+1+suf.length:=by rw [hl];simp;omega
 have hd:(pre.length:Int) < (l.length:Int):=by omega
 have h8i:(pre.length:Int) < 8:=by omega
 have e1:∀ S,zO zi 29 (iz kn (l.map (·.name))) (.int .i64 pre.length) S=some (EP [.int .i64 x.name],S):=fun S=>by
  rw [Q5 hk.n (by omega) (by rw [List.length_map];exact hd)]
  simp only [List.getElem_map,Jg hl]
 have wi:IntKind.i64.wrap ((pre.length:Int)+1)=((pre++[x]).length:Int):=by rw [wrap_i64 (by omega) (by omega)];simp
 have lnP:=fun S=>Zc qY (some ⟨aP,0,none⟩) (jY me nodes m).length (jY me nodes m).length S
 have plen:(((jY me nodes m).length:Nat):Int)=(m:Int):=by rw [ZB]
 have dP:((0:Int) < (m:Int))=True:=eq_true (by omega)
 have hne:(m:Int)≠0:=by omega
 have tm:x.asked.tmod (m:Int)=x.asked % (m:Int):=xw hx.1
 have hmod:=Int.emod_nonneg x.asked hne
 have hmod2:=Int.emod_lt_of_pos x.asked (show 0 < (m:Int) by omega)
 obtain ⟨jm,hjm⟩:∃ j:Nat,x.asked % (m:Int)=j:=⟨(x.asked % (m:Int)).toNat,by omega⟩
 have pj:(jY me nodes m)[jm]?=some (acw me nodes x.asked):=by
  have:=abX (me:=me) (w:=x.asked) hm h2 hx.1
  rw [hjm,Int.toNat_natCast] at this
  exact this
 have ixA:∀ S,zO zi 29 (.slice (some ⟨aA,0,none⟩) l.length l.length) (.int .i64 pre.length) S=some (.pointer (some ⟨aA,0+pre.length * 1,none⟩),S):=fun S=>adl (by omega) S
 have ixP:∀ S,zO zi 29 (.slice (some ⟨aP,0,none⟩) (jY me nodes m).length (jY me nodes m).length) (.int .i64 jm) S=some (.pointer (some ⟨aP,0+jm * 1,none⟩),S):=fun S=>adl (by rw [ZB];omega) S
 have ldA:=aaK hA (j:=pre.length) (v:=x.asked) (by rw [List.getElem?_append_right (by simp)];simp)
 have ldP:=aaK hP pj
 have ld0:=jC (t:=3) (o:=0+0) hB.g0 yV rfl
 have bm:=fun S=>xC (y0:=.int .i64 2) (y1:=.int .i64 me) (y4:=.int .i64 x.name) rfl rfl rfl S
 have ba:=fun S=>kH (y0:=.int .i64 (acw me nodes x.asked)) (y1_0:=.int .i64 2) (y1_1:=.int .i64 me) (y1_2:=.int .i64 0) (y1_3:=.int .i64 0) (y1_4:=.int .i64 x.name) (y1_5:=.int .i64 0) (y1_6:=.int .i64 0) (y1_7:=.int .i64 0) (y1_8:=.int .i64 0) (y1_9:=.int .i64 0) (y1_10:=.int .i64 0) (y1_11:=.int .i64 0) (y1_12:=.slice none 0 0) rfl S
 obtain ⟨bx,S1,aO1,S2,fO',b1,b2,b3,b4,b5⟩:=adO hO (by rw [List.length_map];omega) (qK me nodes x)
 have b1:jf zi 26 1 [(0,.agg [Value.int .i64 (acw me nodes x.asked),.int .i64 2,.int .i64 me,.int .i64 0,.int .i64 0,.int .i64 x.name,.int .i64 0,.int .i64 0,.int .i64 0,.int .i64 0,.int .i64 0,.int .i64 0,.int .i64 0,.slice none 0 0].toArray)] S=some (bx,S1):=b1
 have hmap:pre.map (qK me nodes)++[qK me nodes x]=(pre++[x]).map (qK me nodes):=by rw [List.map_append];rfl
 rw [hmap] at b2 b3
 obtain ⟨aO',rfl⟩:∃ a2,aO1=some ⟨a2,0,none⟩:=by
  rcases b3 with ⟨_,h,_⟩ | ⟨r',anc,rest,ha,_⟩
  ·
   simp at h
  ·
   exact ⟨r',ha⟩
 have hA2:wU ci 1 S2 (some ⟨aA,0,none⟩) (pre.map (fun w=>w.asked+1)++x.asked::suf.map (·.asked)) fA':=hA.fr b5 fun y hy hy2=>d3 y hy2 hy
 have ldA2:=aaK hA2 (j:=pre.length) (v:=x.asked) (by rw [List.getElem?_append_right (by simp)];simp)
 have wa:IntKind.i64.wrap (x.asked+1)=x.asked+1:=wrap_i64 (by omega) (by omega)
 obtain ⟨S3,p1,p2,p3,p4,p5⟩:=aes (x.asked+1) hA2
 rw [List.length_map] at p1
 conv at hr =>
  rhs
  rw [hTe]
  simp only [zx.xq,zx.code,zx.rs,zSs,reduceIte,zk,zn,zo,zq,hd,e1,qU,h8i,lnP,goInt,plen,dP,ixA,ldA,kD _ _ _ hne,tm,hjm,ixP,ldP,yT,ld0,bm,ba,b1,b2,ldA2,wa,p1,wi]
 refine ⟨_,_,aO',fO',hr,⟨rfl,rfl,rfl,rfl,rfl,rfl,rfl,rfl,rfl⟩,(hB.fr b5 hO.many).fr p5 hA2.many,(hP.fr b5 d1).fr p5 d2,b3.fr p5 ?_,?_,?_,?_,?_⟩
 ·
  intro y hy hy2
  rcases b4 y hy with h | h
  ·
   exact d3 y h hy2
  ·
   have:=hA.lt y hy2;omega
 ·
  simpa using p2
 ·
  intro y hy hy2
  rcases b4 y hy2 with h | h
  ·
   exact d1 y hy h
  ·
   have:=hP.lt y hy;omega
 ·
  intro y hy hy2
  rw [List.mem_singleton.1 hy2] at hy
  exact d2 aA hy p4
 ·
  intro y hy hy2
  rw [List.mem_singleton.1 hy2] at hy
  rcases b4 aA hy with h | h
  ·
   exact d3 aA h p4
  ·
   have:=hA.lt aA p4;omega
theorem zx.aeL {m aP aA:Nat} (hll:l.length≤32) (hk:ZM kn ka l) (hn:0≤me∧me < nodes∧nodes≤7) (h2:2≤nodes) (hm:(m:Int)+1=nodes) (ha:∀ w ∈ l,0≤w.asked∧w.asked < 1099511627776):∀ (suf pre:List jF) {T:List Value} {r:St} {S:zy} {aO:Nat} {fP fO fA':List Nat},wQ (zJ zi O true zx.xq) T S=r→T.length=76 →
  T.getD 1 zh=.pointer (some ⟨0,0,none⟩)→T.getD 4 zh=.slice (some ⟨aP,0,none⟩) (jY me nodes m).length (jY me nodes m).length→T.getD 6 zh=.slice (some ⟨aO,0,none⟩) (pre.map (qK me nodes)).length (pre.map (qK me nodes)).length →
  T.getD 7 zh=.slice (some ⟨aA,0,none⟩) l.length l.length→T.getD 33 zh=iz kn (l.map (·.name))→T.getD 34 zh=.int .i64 l.length→T.getD 35 zh=.int .i64 pre.length→l=pre++suf→pre.length≤8 →
  Base me nodes kn ka l S→wU ci 1 S (some ⟨aP,0,none⟩) (jY me nodes m) fP→wU fA 14 S (some ⟨aO,0,none⟩) (pre.map (qK me nodes)) fO→wU ci 1 S (some ⟨aA,0,none⟩) (pre.map (fun w=>w.asked+1)++suf.map (·.asked)) fA' →
  (∀ x ∈ fP,x ∉ fO)→(∀ x ∈ fP,x ∉ fA')→(∀ x ∈ fO,x ∉ fA') →
  ∃ T' S' aO' fO' fA2,r=some (.exit 2,T',S')∧T'.length=76∧T'.getD 1 zh=.pointer (some ⟨0,0,none⟩)∧T'.getD 2 zh=T.getD 2 zh∧T'.getD 6 zh=.slice (some ⟨aO',0,none⟩) (wZ me nodes l).length (wZ me nodes l).length∧T'.getD 7 zh=.slice (some ⟨aA,0,none⟩) l.length l.length ∧
   Base me nodes kn ka l S'∧wU fA 14 S' (some ⟨aO',0,none⟩) (wZ me nodes l) fO'∧wU ci 1 S' (some ⟨aA,0,none⟩) ((qB nodes l).map (·.asked)) fA2:=by
 have hmi:∀ q:List jF,(q.map abR).map (·.asked)=q.map fun w=>w.asked+1:=fun q=>by rw [List.map_map];rfl
 have fin:∀ (suf pre:List jF) {T:List Value} {r:St} {S:zy} {aO:Nat} {fP fO fA':List Nat},wQ (zJ zi O true zx.xq) T S=r→T.length=76 →
   T.getD 1 zh=.pointer (some ⟨0,0,none⟩)→T.getD 4 zh=.slice (some ⟨aP,0,none⟩) (jY me nodes m).length (jY me nodes m).length→T.getD 6 zh=.slice (some ⟨aO,0,none⟩) (pre.map (qK me nodes)).length (pre.map (qK me nodes)).length →
   T.getD 7 zh=.slice (some ⟨aA,0,none⟩) l.length l.length→T.getD 33 zh=iz kn (l.map (·.name))→T.getD 34 zh=.int .i64 l.length→T.getD 35 zh=.int .i64 pre.length→l=pre++suf→(suf=[]∨pre.length=8)→pre.length≤8 →
   Base me nodes kn ka l S→wU fA 14 S (some ⟨aO,0,none⟩) (pre.map (qK me nodes)) fO→wU ci 1 S (some ⟨aA,0,none⟩) (pre.map (fun w=>w.asked+1)++suf.map (·.asked)) fA' →
   ∃ T' S' aO' fO' fA2,r=some (.exit 2,T',S')∧T'.length=76∧T'.getD 1 zh=.pointer (some ⟨0,0,none⟩)∧T'.getD 2 zh=T.getD 2 zh∧T'.getD 6 zh=.slice (some ⟨aO',0,none⟩) (wZ me nodes l).length (wZ me nodes l).length∧T'.getD 7 zh=.slice (some ⟨aA,0,none⟩) l.length l.length ∧
    Base me nodes kn ka l S'∧wU fA 14 S' (some ⟨aO',0,none⟩) (wZ me nodes l) fO'∧wU ci 1 S' (some ⟨aA,0,none⟩) ((qB nodes l).map (·.asked)) fA2:=by
  intro suf pre T r S aO fP fO fA' hL hT h1 h4 h6 h7 h33 h34 h35 hl hc h8 hB hO hA
  have et:l.take 8=pre:=by
   rcases hc with h | h
   ·
    rw [hl,h,List.append_nil,List.take_of_length_le h8]
   ·
    rw [hl,← h,List.take_left]
  have ed:l.drop 8=suf:=by
   rcases hc with h | h
   ·
    rw [hl,h,List.append_nil,List.drop_eq_nil_of_le h8]
   ·
    rw [hl,← h,List.drop_left]
  have ta:wZ me nodes l=pre.map (qK me nodes):=by unfold wZ;rw [if_neg (by omega),et]
  have tl:(qB nodes l).map (·.asked)=pre.map (fun w=>w.asked+1)++suf.map (·.asked):=by unfold qB;rw [if_neg (by omega),et,ed,List.map_append,hmi]
  rcases hc with h | h
  ·
   subst h
   have hTe:=zx.eta hT
   rw [h1,h6,h7,h34,h35] at hTe
   have hr:zJ zi O true zx.xq T S=zJ zi O true zx.xq T S:=rfl
   have hd:¬ (pre.length:Int) < (l.length:Int):=by rw [hl];simp
   conv at hr =>
    rhs
    rw [hTe]
    simp only [zx.xq,zx.code,zx.rs,zSs,reduceIte,zk,zn,zo,zq,hd]
   rw [ta,tl]
   exact ⟨_,_,aO,fO,fA',hL.symm.trans (jw hr (by simp)),rfl,rfl,rfl,rfl,rfl,hB,hO,hA⟩
  ·
   obtain ⟨T',p1,p2,p3,p4,p5,p6⟩:=zx.acW hll hk suf pre hL hT h4 h33 h34 h35 hl (.inr (by omega))
   rw [ta,tl]
   exact ⟨T',S,aO,fO,fA',p1,p2,p3.trans h1,p4,p5.trans h6,p6.trans h7,hB,hO,hA⟩
 intro suf
 induction suf with
 | nil =>
  intro pre T r S aO fP fO fA' hL hT h1 h4 h6 h7 h33 h34 h35 hl h8 hB hP hO hA d1 d2 d3
  exact fin [] pre (fP:=fP) hL hT h1 h4 h6 h7 h33 h34 h35 hl (.inl rfl) h8 hB hO hA
 | cons x suf ih =>
  intro pre T r S aO fP fO fA' hL hT h1 h4 h6 h7 h33 h34 h35 hl h8 hB hP hO hA d1 d2 d3
  by_cases h:pre.length=8
  ·
   exact fin (x::suf) pre (fP:=fP) hL hT h1 h4 h6 h7 h33 h34 h35 hl (.inr h) h8 hB hO hA
  ·
   obtain ⟨T1,S1,aO1,fO1,hr,⟨k1,k2,k3,k4,k5,k6,k7,k8,k9⟩,g1,g2,g3,g4,g5,g6,g7⟩:=zx.step hll hk hn h2 hm (ha x (by rw [hl];simp)) hT h1 h4 h6 h7 h33 h34 h35 hl (by omega) hB hP hO hA d1 d2 d3
   obtain ⟨T',S',aO',fO',fA2,q1,q2,q3,q4,q5⟩:=ih (pre++[x]) ((jK hr).symm.trans hL) k1 k2 k4 k5 k6 k7 k8 k9 (by simp [hl]) (by simp;omega) g1 g2 g3 g4 g5 g6 g7
   exact ⟨T',S',aO',fO',fA2,q1,q2,q3,q4.trans k3,q5⟩
theorem aeZ {S:zy} {d k:Nat} {l:List Int}:jB S d (iz k l)=iz k l:=by
 cases d with
 | zero=>rfl
 | succ d=>unfold iz vs sv;split <;> rfl
theorem ac8 {α:Type} {f:α→List Value} {e d r:Nat} {S:zy} {l:List α} {rest:List Value} {own:Own} (hf:∀ x,(f x).length=e) (hg:S.get r=some (.cells (l.flatMap f++rest) own e)):jB S (d+1) (.slice (some ⟨r,0,none⟩) l.length l.length)=vs f e 1 l:=by
 have hl:=jD hf l
 have h1:l.length * e≤(l.flatMap f++rest).length:=by rw [List.length_append,hl];omega
 simp only [jB,hg,h1,and_self,if_true]
 rw [← hl,List.take_left]
 rfl
theorem acz (x:Wu) {d:Nat}:(fA x).all (jc (d+1))=true:=rfl
theorem zx.v (hll:l.length≤32) (hk:ZM kn ka l) (hn:0≤me∧me < nodes∧nodes≤7) (ha:∀ w ∈ l,0≤w.asked∧w.asked < 1099511627776) (S:zy) :
  ∃ kn' ka',zU zi O zx.id [ZT me nodes kn ka l] S=some (.tuple #[ZT me nodes kn' ka' (qB nodes l),az 1 (wZ me nodes l)],S)∧ZM kn' ka' (qB nodes l):=by
 obtain ⟨T,hTe⟩:∃ T,T=(ZT me nodes kn ka l::zh::zh::zh::zh::zh::zh::zh::zh::zh::zh::zh::zh::zh::zh::zh::zh::zh::zh::zh::zh::zh::zh::zh::zh::zh::zh::zh::zh::zh::zh::zh::zh::zh::zh::zh::zh::zh::zh::zh::zh::zh::zh::zh::zh::zh::zh::zh::zh::zh::zh::zh::zh::zh::zh::zh::zh::zh::zh::zh::zh::zh::zh::zh::zh::zh::zh::zh::zh::zh::zh::zh::zh::zh::zh::zh::[]):=⟨_,rfl⟩
 have hr:zJ zi O true zx.code T zy.empty=zJ zi O true zx.code T zy.empty:=rfl
 have bx:=abr (me:=me) (nodes:=nodes) (kn:=kn) (ka:=ka) (l:=l)
 have al:=adG (me:=me) (nodes:=nodes) (kn:=kn) (ka:=ka) (l:=l)
 have B0:Base me nodes kn ka l (dm1 me nodes kn ka l):=⟨afn,afs,by show 1 < 2;omega⟩
 have eS:=fun S=>(by kernel_rfl:jf zi 29 0 [] S=some (.slice (some ⟨S.next,0,none⟩) 0 0,S.push (.cells [] (.own []) 1)))
 have eO:=fun S=>(by kernel_rfl:jf zi 26 0 [] S=some (.slice (some ⟨S.next,0,none⟩) 0 0,S.push (.cells [] (.own []) 14)))
 have P0:=YM ci (e:=1) (by decide) (dm1 me nodes kn ka l)
 have B1:=B0.ext (Ext.push (dm1 me nodes kn ka l) (.cells [] (.own []) 1))
 conv at hr =>
  rhs
  rw [hTe]
  simp only [zx.code,zx.rs,zSs,reduceIte,zk,zn,zo,zq,bx,al,eS]
 generalize hL:wQ (zJ zi O true zx.zY) _ _=r at hr
 obtain ⟨d,hd⟩:∃ d:Nat,(d:Int)+1=nodes:=⟨(nodes - 1).toNat,by omega⟩
 obtain ⟨T2,S2,m,aP,fP,rfl,p2,p3,p4,p5,p6,p7,p8⟩:=zx.aeQ hn d 0 hL rfl rfl rfl rfl rfl (by omega) B1 P0
 have hT2:=zx.eta p2
 rw [p3,p4,p6] at hT2
 have O0:=YM fA (e:=14) (by decide) S2
 have x3:Ext S2 (S2.push (.cells [] (.own []) 14)):=Ext.push _ _
 generalize hS3:S2.push (.cells [] (.own []) 14)=S3 at O0 x3
 have eO2:jf zi 26 0 [] S2=some (.slice (some ⟨S2.next,0,none⟩) 0 0,S3):=by rw [eO,hS3]
 have A0:=YM ci (e:=1) (by decide) S3
 have x4:Ext S3 (S3.push (.cells [] (.own []) 1)):=Ext.push _ _
 have eS3:=eS S3
 generalize hS4:S3.push (.cells [] (.own []) 1)=S4 at A0 x4 eS3
 have B4:=(p7.ext x3).ext x4
 have ld:=YJ B4.g0 hk
 have src:xZ zi 29 1 (iz ka (l.map (·.asked))) S4=some ((l.map (·.asked)).length,(l.map (·.asked)).flatMap ci):=acg qY hk.a.okv (by rw [jD Wj]) (by rw [List.all_flatMap,List.all_eq_true];exact fun x _=>rfl)
 obtain ⟨aA,S5,fA',e1,e2,e3,e4⟩:=wU.KQ (P:=zi) (t:=29) (te:=3) (tx:=29) qY Xp adX rfl aeh (by decide) Wj aa3 A0 src (by simp;omega) (by simp;omega)
 rw [List.nil_append,List.length_map] at e1
 rw [List.nil_append] at e2
 have e1:jW zi true 29 29 (.slice (some ⟨S3.next,0,none⟩) 0 0) (iz ka (l.map (·.asked))) S4=some (.slice (some ⟨aA,0,none⟩) l.length l.length,S5):=e1
 have B5:=B4.fr e4 A0.many
 have lnm:=Jm B5.g0 hk
 have len:∀ S,xY zi 29 (iz kn (l.map (·.name))) S=some (goInt l.length,S):=fun S=>by rw [Ji hk.n,List.length_map]
 conv at hr =>
  rhs
  simp only [zSs,reduceIte,zk,zn,zo,zq]
  rw [hT2]
  simp only [zx.code,zx.rs,zSs,reduceIte,zk,zn,zo,zq,eO2,eS3,jo,jJ,ld,e1,lnm,len,goInt]
 generalize hL:wQ (zJ zi O true zx.xq) _ _=r at hr
 have hS2S5:S2.next≤S5.next:=by have:=x3.next;have:=x4.next;have:=e4.1;omega
 have hm1:m=0∨2≤nodes:=by omega
 have main:∃ T' S' aO' fO' fA2,r=some (.exit 2,T',S')∧T'.length=76∧T'.getD 1 zh=.pointer (some ⟨0,0,none⟩)∧T'.getD 2 zh=.pointer (some ⟨1,0,none⟩)∧T'.getD 6 zh=.slice (some ⟨aO',0,none⟩) (wZ me nodes l).length (wZ me nodes l).length∧T'.getD 7 zh=.slice (some ⟨aA,0,none⟩) l.length l.length ∧
   Base me nodes kn ka l S'∧wU fA 14 S' (some ⟨aO',0,none⟩) (wZ me nodes l) fO'∧wU ci 1 S' (some ⟨aA,0,none⟩) ((qB nodes l).map (·.asked)) fA2:=by
  have O5:wU fA 14 S5 (some ⟨S2.next,0,none⟩) [] [S2.next]:=(O0.ext x4).fr e4 fun x hx hy=>by
   rw [List.mem_singleton.1 hx] at hy
   have:=List.mem_singleton.1 hy
   have:=x3.next
   have hlt:S2.next < S3.next:=by rw [← hS3];simp
   omega
  by_cases hn2:nodes < 2
  ·
   have hm0:m=0:=by omega
   subst hm0
   obtain ⟨T',q1,q2,q3,q4,q5,q6⟩:=zx.acW (aP:=aP) (P:=jY me nodes 0) hll hk l [] hL rfl rfl rfl rfl rfl rfl (.inl rfl)
   refine ⟨T',S5,S2.next,[S2.next],fA',q1,q2,q3,q4,?_,q6,B5,?_,?_⟩
   ·
    unfold wZ;rw [if_pos hn2];exact q5
   ·
    unfold wZ;rw [if_pos hn2];exact O5
   ·
    unfold qB;rw [if_pos hn2];exact e2
  ·
   have P5:wU ci 1 S5 (some ⟨aP,0,none⟩) (jY me nodes m) fP:=((p8.ext x3).ext x4).fr e4 fun x hx hy=>by
    have h1:=p8.lt x hx
    have h2:=List.mem_singleton.1 hy
    have:=x3.next
    omega
   have hfA:∀ x ∈ fA',S3.next≤x:=fun x hx=>by
    rcases e3 x hx with h | h
    ·
     rw [List.mem_singleton.1 h];exact Nat.le_refl _
    ·
     have:=x4.next;omega
   have hlt3:S2.next < S3.next:=by rw [← hS3];simp
   obtain ⟨T',S',aO',fO',fA2,q1,q2,q3,q4,q5,q6,q7,q8,q9⟩:=zx.aeL (m:=m) (aP:=aP) (aA:=aA) hll hk hn (by omega) p5 ha l [] (aO:=S2.next) (fP:=fP) (fO:=[S2.next]) (fA':=fA') hL rfl rfl rfl rfl rfl rfl rfl rfl rfl (by simp) B5 P5 O5 (by simpa using e2)
    (fun x hx hy=>by have h1:=p8.lt x hx;have h2:=List.mem_singleton.1 hy;omega) (fun x hx hy=>by have h1:=p8.lt x hx;have h2:=hfA x hy;omega) (fun x hx hy=>by have h1:=List.mem_singleton.1 hx;have h2:=hfA x hy;omega)
   exact ⟨T',S',aO',fO',fA2,q1,q2,q3,q4,q5,q6,q7,q8,q9⟩
 obtain ⟨T3,S6,aO',fO',fA2,rfl,q2,q3,q4,q5,q6,B6,O6,A6⟩:=main
 have hT3:=zx.eta q2
 rw [q3,q4,q5,q6] at hT3
 have hlA:((qB nodes l).map (·.asked)).length=l.length:=by
  rw [List.length_map]
  have:=congrArg List.length (Zb nodes l)
  simpa using this
 have st1:=wY (P:=zi) (t:=29) (o:=0+3) (x:=.slice (some ⟨aA,0,none⟩) l.length l.length) B6.g0 JD rfl rfl (by simp)
 generalize hS7:(S6.kills []).set 0 _=S7 at st1
 have g7:S7.get 0=some (.cells [.int .i64 me,.int .i64 nodes,iz kn (l.map (·.name)),.slice (some ⟨aA,0,none⟩) l.length l.length] (.own []) 0):=by
  subst hS7;rw [zy.ji,if_pos rfl];rfl
 have g71:S7.get 1=some (.cells ae0 (.own []) 0):=by
  subst hS7;rw [zy.ji,if_neg (by decide)];exact B6.g1
 have ld7:zW zi false 31 (.pointer (some ⟨0,0,none⟩)) S7=some (.agg [Value.int .i64 me,.int .i64 nodes,iz kn (l.map (·.name)),.slice (some ⟨aA,0,none⟩) l.length l.length].toArray,S7):=by
  rw [yh g7,YI hk.n2];rfl
 obtain ⟨S8,r1,r2,r3,r4⟩:=adg (x:=.agg [Value.int .i64 me,.int .i64 nodes,iz kn (l.map (·.name)),.slice (some ⟨aA,0,none⟩) l.length l.length].toArray) (xs:=[Value.int .i64 me,.int .i64 nodes,iz kn (l.map (·.name)),.slice (some ⟨aA,0,none⟩) l.length l.length]) rfl g71 rfl rfl (by simp only [List.all_cons,List.all_nil,W9,Bool.and_true];rfl)
 have ld8:zW zi false 31 (.pointer (some ⟨1,0,none⟩)) S8=some (.agg [Value.int .i64 me,.int .i64 nodes,iz kn (l.map (·.name)),.slice (some ⟨aA,0,none⟩) l.length l.length].toArray,S8):=by
  rw [yh r2,YI hk.n2];rfl
 have keep:∀ x cs own e,e≠0→S6.get x=some (.cells cs own e)→S8.get x=some (.cells cs own e):=fun x cs own e he hg=>by
  have h1:x≠1:=fun h=>by subst h;rw [B6.g1] at hg;cases hg;exact he rfl
  have h0:x≠0:=fun h=>by subst h;rw [B6.g0] at hg;cases hg;exact he rfl
  rw [r4 x h1,← hS7,zy.ji,if_neg h0];exact hg
 have hn8:S6.next≤S8.next:=by rw [r3,← hS7];exact Nat.le_refl _
 have up:∀ {α:Type} {f:α→List Value} {e r:Nat} {q:List α} {fp:List Nat},e≠0→wU f e S6 (some ⟨r,0,none⟩) q fp→∃ rest own,S8.get r=some (.cells (q.flatMap f++rest) own e):=fun {α f e r q fp} he h=>by
  rcases h with ⟨h,_⟩ | ⟨r',anc,rest,hq,hfa,hg,hx⟩
  ·
   cases h
  simp only [Option.some.injEq,Addr.mk.injEq,and_true] at hq
  subst hq
  exact ⟨rest,_,keep r _ _ e he hg⟩
 obtain ⟨rO,oO,gO⟩:=up (by decide) O6
 obtain ⟨rA,oA,gA⟩:=up (by decide) A6
 conv at hr =>
  rhs
  simp only [zSs,reduceIte,zk,zn,zo,zq]
  rw [hT3]
  simp only [zx.code,zx.rs,zSs,reduceIte,zk,zn,zo,zq,jJ,st1,ld7,r1]
 rw [hTe] at hr
 have lowA:∀ d,jB S8 (d+1) (.slice (some ⟨aA,0,none⟩) l.length l.length)=iz 1 ((qB nodes l).map (·.asked)):=fun d=>by
  rw [← hlA];exact ac8 Wj gA
 have lowO:∀ d,jB S8 (d+1) (.slice (some ⟨aO',0,none⟩) (wZ me nodes l).length (wZ me nodes l).length)=az 1 (wZ me nodes l):=fun d=>ac8 X5 gO
 have low:jB S8 16 (.tuple #[.agg [Value.int .i64 me,.int .i64 nodes,iz kn (l.map (·.name)),.slice (some ⟨aA,0,none⟩) l.length l.length].toArray,.slice (some ⟨aO',0,none⟩) (wZ me nodes l).length (wZ me nodes l).length])=.tuple #[ZT me nodes kn 1 (qB nodes l),az 1 (wZ me nodes l)]:=by
  show Value.tuple (#[Value.agg [Value.int .i64 me,.int .i64 nodes,iz kn (l.map (·.name)),.slice (some ⟨aA,0,none⟩) l.length l.length].toArray,.slice (some ⟨aO',0,none⟩) (wZ me nodes l).length (wZ me nodes l).length].map (jB S8 15))=_
  rw [List.map_toArray,List.map_cons,List.map_cons,List.map_nil,lowO]
  show Value.tuple [Value.agg (#[Value.int .i64 me,.int .i64 nodes,iz kn (l.map (·.name)),.slice (some ⟨aA,0,none⟩) l.length l.length].map (jB S8 14)),az 1 (wZ me nodes l)].toArray=_
  rw [List.map_toArray,List.map_cons,List.map_cons,List.map_cons,List.map_cons,List.map_nil,lowA,aeZ,← Zb nodes l]
  rfl
 have K:ZM kn 1 (qB nodes l):=⟨by rw [Zb];exact hk.n,Okl.read,hk.n2,by decide⟩
 have ca:[ZT me nodes kn ka l].all (jc 16)=true:=by simp only [List.all_cons,List.all_nil,kR (d:=10) hk,Bool.and_true]
 have cv:jc 16 (.tuple #[ZT me nodes kn 1 (qB nodes l),az 1 (wZ me nodes l)])=true:=Wn (l:=[ZT me nodes kn 1 (qB nodes l),az 1 (wZ me nodes l)]) (d:=15) (by
  simp only [List.all_cons,List.all_nil,kR (d:=9) K,Bool.true_and,Bool.and_true]
  exact XM (d:=11) (by decide) fun x _=>acz x)
 have hrun:=zx.runs (S:=S) hr (.inr rfl) ld8 rfl rfl ca (by
  show jc 16 (jB S8 16 (.tuple #[.agg [Value.int .i64 me,.int .i64 nodes,iz kn (l.map (·.name)),.slice (some ⟨aA,0,none⟩) l.length l.length].toArray,.slice (some ⟨aO',0,none⟩) (wZ me nodes l).length (wZ me nodes l).length]))=true
  rw [low];exact cv)
 refine ⟨kn,1,?_,K⟩
 rw [← low]
 exact hrun
end
end Go.Proofs.Ytpjglojnipjgfaa
namespace Go.Proofs.Ytpjglojnipjgfaa
open Go.Abs
structure DoV where
 kind:Int
 name:Int
def fD (x:DoV):List Value:=[.int .i64 x.kind,.int .i64 x.name]
theorem ac7 (x:DoV):(fD x).length=2:=rfl
abbrev dv (x:DoV):Value:=.agg [Value.int .i64 x.kind,.int .i64 x.name].toArray
abbrev tDo:Ty:=.pair (.int .i64) (.pair (.int .i64) .unit)
theorem afo (x:tDo.Val) (hg:tDo.Good x):∃ y:DoV,tDo.Jq x=fD y∧y.name < 9223372036854775808:=by
 obtain ⟨a,b,u⟩:=x
 obtain ⟨h1,h2,_⟩:=hg
 exact ⟨⟨a,b⟩,rfl,(aeT h2).2⟩
theorem adV (x:(Ty.slc 16 tDo).Val) (hg:(Ty.slc 16 tDo).Good x):∃ k l,Okl k l∧k≠2∧(Ty.slc 16 tDo).Jq x=[vs fD 2 k l]∧l.length * 16≤140737488351232∧∀ y ∈ l,DoV.name y < 9223372036854775808:=ae1 fD (fun y=>y.name < 9223372036854775808) afo ac7 x hg
section
variable {k:Nat} {l pre suf:List DoV} {x:DoV}
theorem aft (hk:Okl k l) (hl:l=pre++x::suf) (S:zy):zO zi 28 (vs fD 2 k l) (.int .i64 pre.length) S=some (EP [.int .i64 x.kind,.int .i64 x.name],S):=by
 rw [abZ qE yQ ac7 hk (by omega) (by rw [hl];simp;omega),Jg hl];rfl
theorem ae6 (hk:Okl k l) (S:zy):xY zi 28 (vs fD 2 k l) S=some (goInt l.length,S):=Ko (P:=zi) (t:=28) (f:=fD) (e:=2) (S:=S) qE hk
end
theorem afv (S:zy):ql zi 33 S=some (.pointer (some ⟨S.next,0,none⟩),S.push (.cells [.int .i64 0,.int .i64 0] (.own []) 0)):=by kernel_rfl
theorem ae5 (x:DoV) (S:zy):∃ S2,jX zi 33 (.pointer (some ⟨S.next,0,none⟩)) (dv x) (S.push (.cells [.int .i64 0,.int .i64 0] (.own []) 0))=some (zh,S2)∧S2.get S.next=some (.cells (fD x) (.own []) 0)∧Ext S S2∧S.next < S2.next :=
 Zl (P:=zi) (t:=33) (z:=[.int .i64 0,.int .i64 0]) (xs:=fD x) (x:=dv x) S rfl yQ rfl rfl
theorem aej {q:Nat} {x:DoV} {S:zy} (h:S.get q=some (.cells (fD x) (.own []) 0)):zW zi false 3 (.pointer (some ⟨q,0+0,none⟩)) S=some (.int .i64 x.kind,S):=jC (o:=0+0) h yV rfl
theorem KZ {q:Nat} {x:DoV} {S:zy} (h:S.get q=some (.cells (fD x) (.own []) 0)):zW zi false 3 (.pointer (some ⟨q,0+1,none⟩)) S=some (.int .i64 x.name,S):=jC (o:=0+1) h yV rfl
theorem VD {l:List jF} {n B:Int} (hB:0≤B) (hl:∀ x ∈ l,0≤x.asked∧x.asked≤B):∀ x ∈ kQ l n,0≤x.asked∧x.asked≤B:=by
 intro x hx
 unfold kQ at hx
 split at hx
 ·
  rcases List.mem_append.1 hx with h | h
  ·
   exact hl x h
  ·
   rw [List.mem_singleton.1 h];exact ⟨Int.le_refl _,hB⟩
 ·
  exact hl x hx
theorem aaV {l:List jF} {n B:Int} (hl:∀ x ∈ l,0≤x.asked∧x.asked≤B):∀ x ∈ YG l n,0≤x.asked∧x.asked≤B:=fun x hx=>hl x (List.mem_filter.1 hx).1
end Go.Proofs.Ytpjglojnipjgfaa
namespace Go.Proofs.Ytpjglojnipjgfaa
open Go.Abs
section
variable {me nodes:Int} {q pw:Nat}
theorem Ft.other {S S3:zy} {l:List jF} {fp:List Nat} {cs:List Value} {own:Own} (h:Ft S q me nodes l fp) (hg:S.get pw=some (.cells cs own 0)) (hpq:pw≠q) (hn:S3.next=S.next) (hs:∀ k,k≠pw→S3.get k=S.get k):Ft S3 q me nodes l fp:=by
 obtain ⟨a,k1,k2⟩:=h.cell
 exact ⟨by rw [hn];exact h.lt,h.len,a,by rw [hs q (fun h=>hpq h.symm)];exact k1,k2.keep (Nat.le_of_eq hn.symm) fun y hy=>hs y (fun e=>k2.many y hy cs own (by rw [e];exact hg))⟩
end
namespace fetchRuns
def codes:List (Bool×Ty):=[(false,.int .i64),(false,.int .i64),(false,.slc 16 tDo)]
theorem coded:Yc zi 9 [3,3,28]=some codes:=by kernel_rfl
noncomputable def tail:Code:=.seq (.region 22 (reg Try.f4 22) true) (.cond (.tmp 101) (.seq (.region 23 (reg Try.f4 23) false) .ret) .skip)
theorem Js:zu.zY=.seq (.region 8 (reg Try.f4 8) false) (.seq (.cond (.tmp 46) .skip (.exit 0)) (.seq (.block 1 (.seq (.region 9 (reg Try.f4 9) false) (.seq (.region 10 (reg Try.f4 10) false) (.seq (.region 11 (reg Try.f4 11) false) (.seq (.seq (.region 12 (reg Try.f4 12) false) (.block 2 (.seq (.region 13 (reg Try.f4 13) false) (.cond (.tmp 53) (.seq (.region 14 (reg Try.f4 14) false) (.region 15 (reg Try.f4 15) false)) (.seq (.region 16 (reg Try.f4 16) false) (.cond (.tmp 66) (.seq (.region 17 (reg Try.f4 17) false) (.region 18 (reg Try.f4 18) false)) (.seq (.region 19 (reg Try.f4 19) false) (.cond (.tmp 76) (.seq (.region 20 (reg Try.f4 20) false) (.region 21 (reg Try.f4 21) false)) .skip)))))))) tail))))) (.region 24 (reg Try.f4 24) false))):=rfl
theorem az0 (S:zy):jl zi 26 0 [] S=some (az 2 [],S):=by rw [WA];rfl
section
variable {me nodes:Int} {q pw:Nat}
theorem round {k:Nat} {A:List DoV} (hk:Okl k A) (hA:A.length≤200) (hn:∀ y ∈ A,DoV.name y < 9223372036854775808) (hm0:0≤me∧me < nodes) (hn0:nodes≤7) (hpq:pw≠q):∀ (suf pre:List DoV) {T:List Value} {r:St} {S:zy} {l:List jF} {fp:List Nat} {kn ka:Nat},wQ (zJ zi O false zu.zY) T S=r→T.length=103 →
  T.getD 7 zh=.pointer (some ⟨q,0,none⟩)→T.getD 8 zh=.pointer (some ⟨pw,0,none⟩)→T.getD 43 zh=vs fD 2 k A→T.getD 44 zh=.int .i64 A.length→T.getD 45 zh=.int .i64 pre.length→A=pre++suf→Ft S q me nodes l fp→S.get pw=some (.cells (Y6 me nodes kn ka l) (.own []) 0)→pw < S.next→ZM kn ka l→(∀ w ∈ l,0≤w.asked∧w.asked≤pre.length) →
  ∃ T' S',r=some (.exit 0,T',S')∧T'.length=103:=by
 intro suf
 induction suf with
 | nil =>
  intro pre T r S l fp kn ka hL hT h7 h8 h43 h44 h45 hl hF hW hpw hD hw
  have hTe:=zu.eta hT
  rw [h7,h8,h43,h44,h45] at hTe
  have hr:zJ zi O false zu.zY T S=zJ zi O false zu.zY T S:=rfl
  have hd:¬ (pre.length:Int) < (A.length:Int):=by rw [hl];simp
  conv at hr =>
   rhs
   rw [hTe]
   simp only [zu.zY,zu.code,zu.rs,zSs,reduceIte,zk,zn,zo,zq,hd]
  exact ⟨_,_,hL.symm.trans (jw hr (by simp)),rfl⟩
 | cons x suf ih =>
  intro pre T r S l fp kn ka hL hT h7 h8 h43 h44 h45 hl hF hW hpw hD hw
  have hTe:=zu.eta hT
  rw [h7,h8,h43,h44,h45] at hTe
  have hr:zJ zi O false zu.zY T S=zJ zi O false zu.zY T S:=rfl
  have hlen:A.length=pre.length+1+suf.length:=by rw [hl];simp;omega
  have hd:(pre.length:Int) < (A.length:Int):=by omega
  have hnx:x.name < 9223372036854775808:=hn x (by rw [hl];simp)
  have e1:=aft hk hl
  have al:=afv S
  obtain ⟨S1,n1,n2,n3,n4⟩:=ae5 x S
  have lk:=aej n2
  have lnm:=KZ n2
  have F1:=hF.ext n3
  have W1:S1.get pw=some (.cells (Y6 me nodes kn ka l) (.own []) 0):=(n3.get _ hpw).trans hW
  have hpw1:=Nat.lt_of_lt_of_le hpw n3.next
  have wi:IntKind.i64.wrap ((pre.length:Int)+1)=((pre++[x]).length:Int):=by rw [wrap_i64 (by omega) (by omega)];simp
  have hqne:S.next≠q:=by have:=hF.lt;omega
  have hpne:S.next≠pw:=by omega
  have rest:∀ (l3:List jF) (S3:zy) (fp3:List Nat) (kn3 ka3 k1 k2:Nat) (L:List Wu) (b:Bool) (T3:List Value),zJ zi O false zu.zY T S=ac5 (Jd 1 (zJ zi O false tail T3 S3)) (zJ zi O false (.region 24 (reg Try.f4 24) false)) →
    Ft S3 q me nodes l3 fp3→S3.get pw=some (.cells (Y6 me nodes kn3 ka3 l3) (.own []) 0)→pw < S3.next→ZM kn3 ka3 l3→(∀ w ∈ l3,0≤w.asked∧w.asked≤(pre++[x]).length)→Okl k1 L→Okl k2 L→L.length≤1000→T3.length=103 →
    T3.getD 7 zh=.pointer (some ⟨q,0,none⟩)→T3.getD 8 zh=.pointer (some ⟨pw,0,none⟩)→T3.getD 11 zh=az k1 L→T3.getD 12 zh=az k2 L→T3.getD 13 zh=.bool b→T3.getD 14 zh=.bool b→T3.getD 43 zh=vs fD 2 k A→T3.getD 44 zh=.int .i64 A.length→T3.getD 45 zh=.int .i64 pre.length →
    ∃ T' S',r=some (.exit 0,T',S')∧T'.length=103:=by
   intro l3 S3 fp3 kn3 ka3 k1 k2 L b T3 hcode F3 W3 hpw3 D3 hw3 o1 o2 hLl hT3 t7 t8 t11 t12 t13 t14 t43 t44 t45
   have hTe3:=zu.eta hT3
   rw [t7,t8,t11,t12,t13,t14,t43,t44,t45] at hTe3
   have bb:∀ S,wB zi .neq 4 (.bool b) (.bool b) S=some (.bool false,S):=fun S=>by cases b <;> rfl
   have sm:=fun S=>zB.v o1.dem o2.dem (YA _) (YA _) (by omega) S
   obtain ⟨k4,S4,y1,y2,y3,y4⟩:=zG.v F3
   have W4:S4.get pw=some (.cells (Y6 me nodes kn3 ka3 l3) (.own []) 0):=(y4.get _ hpw3).trans W3
   have ld:=Jm W4 D3
   have si:=fun S=>zA.v y2.dem D3.n (YA _) D3.n2 (by rw [List.length_map];have:=F3.len;omega) S
   have eqt:decide (l3.map (·.name)=l3.map (·.name))=true:=decide_eq_true rfl
   have sq:kM (.pointer (some ⟨pw,0+2,none⟩)) S3 S4=true:=Vr W3 hpw3 y4
   have hr:ac5 (Jd 1 (zJ zi O false tail T3 S3)) (zJ zi O false (.region 24 (reg Try.f4 24) false))=ac5 (Jd 1 (zJ zi O false tail T3 S3)) (zJ zi O false (.region 24 (reg Try.f4 24) false)):=rfl
   conv at hr =>
    rhs
    rw [hTe3]
    simp only [tail,zu.code,zu.rs,zSs,reduceIte,zk,zn,zo,zq,bb,afL,sm,y1,jo,ld,if_neg D3.n2,si,eqt,sq,wi]
   exact ih (pre++[x]) ((jK (hcode.trans hr)).symm.trans hL) rfl rfl rfl rfl rfl rfl (by simp [hl]) (F3.ext y4) W4 (Nat.lt_of_lt_of_le hpw3 y4.next) D3 hw3
  have hw1:∀ w ∈ l,0≤w.asked∧w.asked≤(pre++[x]).length:=fun w h=>by have:=hw w h;simp;omega
  by_cases hk0:x.kind=0
  ·
   obtain ⟨S2,fp2,c1,c2,c3,c4⟩:=zK.v F1 x.name
   have st:=F1.stay c4
   have W2:=(st.2 pw _ _ hpq hpw1 W1).trans W1
   have n22:S2.get S.next=some (.cells (fD x) (.own []) 0):=(st.2 _ _ _ hqne n4 n2).trans n2
   have lnm2:=KZ n22
   have ldd:=xX W2 hD
   obtain ⟨kn2,ka2,d1,d2⟩:=zC.v (me:=me) (nodes:=nodes) F1.len hD hnx S2
   obtain ⟨S3,p1,p2,p3,p4⟩:=adg (x:=ZT me nodes kn2 ka2 (kQ l x.name)) rfl W2 rfl rfl Zh
   have F3:Ft S3 q me nodes (kQ l x.name) fp2:=c2.other W2 hpq p3 p4
   conv at hr =>
    rhs
    rw [hTe]
    simp only [Js,zu.code,zu.rs,zSs,reduceIte,zk,zn,zo,zq,hd,e1,wM,al,n1,az0,wu,qh,lk,decide_eq_true hk0,lnm,c1,ldd,lnm2,d1,p1]
   exact rest _ S3 fp2 kn2 ka2 2 2 [] (kY l x.name) _ hr F3 p2 (by rw [p3];exact Nat.lt_of_lt_of_le hpw1 st.1) d2 (VD (by omega) hw1) Okl.own Okl.own (by simp) rfl rfl rfl rfl rfl rfl rfl rfl rfl rfl
  by_cases hk1:x.kind=1
  ·
   obtain ⟨v,S2,fp2,c1,c2,c3,c4⟩:=zV.v F1 x.name
   have st:=F1.stay c4
   have W2:=(st.2 pw _ _ hpq hpw1 W1).trans W1
   have n22:S2.get S.next=some (.cells (fD x) (.own []) 0):=(st.2 _ _ _ hqne n4 n2).trans n2
   have lnm2:=KZ n22
   have ldd:=xX W2 hD
   have d1:=zF.v (me:=me) (nodes:=nodes) F1.len hD x.name S2
   obtain ⟨S3,p1,p2,p3,p4⟩:=adg (x:=ZT me nodes 1 1 (YG l x.name)) rfl W2 rfl rfl Zh
   have F3:Ft S3 q me nodes (YG l x.name) fp2:=c2.other W2 hpq p3 p4
   conv at hr =>
    rhs
    rw [hTe]
    simp only [Js,zu.code,zu.rs,zSs,reduceIte,zk,zn,zo,zq,hd,e1,wM,al,n1,az0,wu,qh,lk,decide_eq_false hk0,decide_eq_true hk1,lnm,c1,ldd,lnm2,d1,p1]
   exact rest _ S3 fp2 1 1 2 2 [] false _ hr F3 p2 (by rw [p3];exact Nat.lt_of_lt_of_le hpw1 st.1) ZM.read (aaV hw1) Okl.own Okl.own (by simp) rfl rfl rfl rfl rfl rfl rfl rfl rfl rfl
  by_cases hk2:x.kind=2
  ·
   have hb:∀ w ∈ l,0≤w.asked∧w.asked < 1099511627776:=fun w h=>by have:=hw w h;omega
   obtain ⟨k1,S2,fp2,c1,c2,c3,c4,c5,c6⟩:=zD.v F1 hm0 hn0 hb
   have st:=F1.stay (c6.more fun x hx=>.inl (by simp [hx]))
   have W2:=(st.2 pw _ _ hpq hpw1 W1).trans W1
   have ldd:=xX W2 hD
   obtain ⟨kn2,ka2,d1,d2⟩:=zx.v (me:=me) (nodes:=nodes) F1.len hD ⟨hm0.1,hm0.2,hn0⟩ hb S2
   obtain ⟨S3,p1,p2,p3,p4⟩:=adg (x:=ZT me nodes kn2 ka2 (qB nodes l)) rfl W2 rfl rfl Zh
   have F3:Ft S3 q me nodes (qB nodes l) fp2:=c4.other W2 hpq p3 p4
   have hAl:(wZ me nodes l).length≤1000:=by
    unfold wZ
    split
    ·
     simp
    ·
     simp;omega
   conv at hr =>
    rhs
    rw [hTe]
    simp only [Js,zu.code,zu.rs,zSs,reduceIte,zk,zn,zo,zq,hd,e1,wM,al,n1,az0,wu,lk,decide_eq_false hk0,decide_eq_false hk1,decide_eq_true hk2,c1,ldd,d1,p1]
   exact rest _ S3 fp2 kn2 ka2 k1 1 (wZ me nodes l) false _ hr F3 p2 (by rw [p3];exact Nat.lt_of_lt_of_le hpw1 st.1) d2 (fun w h=>by
    have:=abI h hw
    simp;omega) c2 Okl.read hAl rfl rfl rfl rfl rfl rfl rfl rfl rfl rfl
  ·
   conv at hr =>
    rhs
    rw [hTe]
    simp only [Js,zu.code,zu.rs,zSs,reduceIte,zk,zn,zo,zq,hd,e1,wM,al,n1,az0,wu,lk,decide_eq_false hk0,decide_eq_false hk1,decide_eq_false hk2]
   exact rest l S1 fp kn ka 2 2 [] false _ hr F1 W1 hpw1 hD hw1 Okl.own Okl.own (by simp) rfl rfl rfl rfl rfl rfl rfl rfl rfl rfl
end
theorem run {me nodes:Int} {k:Nat} {A:List DoV} (hk:Okl k A) (k2:k≠2) (hAl:A.length * 16≤140737488351232) (hn:∀ y ∈ A,DoV.name y < 9223372036854775808) (S:zy):∃ S',zU zi O 4 [.int .i64 me,.int .i64 nodes,vs fD 2 k A] S=some (.bool true,S'):=by
 obtain ⟨T,hTe⟩:∃ T,T=(.int .i64 me::.int .i64 nodes::vs fD 2 k A::zh::zh::zh::zh::zh::zh::zh::zh::zh::zh::zh::zh::zh::zh::zh::zh::zh::zh::zh::zh::zh::zh::zh::zh::zh::zh::zh::zh::zh::zh::zh::zh::zh::zh::zh::zh::zh::zh::zh::zh::zh::zh::zh::zh::zh::zh::zh::zh::zh::zh::zh::zh::zh::zh::zh::zh::zh::zh::zh::zh::zh::zh::zh::zh::zh::zh::zh::zh::zh::zh::zh::zh::zh::zh::zh::zh::zh::zh::zh::zh::zh::zh::zh::zh::zh::zh::zh::zh::zh::zh::zh::zh::zh::zh::zh::zh::zh::zh::zh::zh::[]):=⟨_,rfl⟩
 have hr:zJ zi O false zu.code T S=zJ zi O false zu.code T S:=rfl
 have al:=fun S=>kW.v S
 have ln:=ae6 hk
 by_cases h1:nodes < 1
 ·
  conv at hr =>
   rhs
   rw [hTe]
   simp only [zu.code,zu.rs,zSs,reduceIte,zk,zn,zo,zq,al,h1]
  rw [hTe] at hr
  exact ⟨_,(zu.runs hr (.inr rfl))⟩
 by_cases h2:7 < nodes
 ·
  conv at hr =>
   rhs
   rw [hTe]
   simp only [zu.code,zu.rs,zSs,reduceIte,zk,zn,zo,zq,al,h1,h2]
  rw [hTe] at hr
  exact ⟨_,(zu.runs hr (.inr rfl))⟩
 by_cases h3:me < 0
 ·
  conv at hr =>
   rhs
   rw [hTe]
   simp only [zu.code,zu.rs,zSs,reduceIte,zk,zn,zo,zq,al,h1,h2,h3]
  rw [hTe] at hr
  exact ⟨_,(zu.runs hr (.inr rfl))⟩
 by_cases h4:nodes≤me
 ·
  conv at hr =>
   rhs
   rw [hTe]
   simp only [zu.code,zu.rs,zSs,reduceIte,zk,zn,zo,zq,al,h1,h2,h3,h4]
  rw [hTe] at hr
  exact ⟨_,(zu.runs hr (.inr rfl))⟩
 by_cases h5:200 < (A.length:Int)
 ·
  conv at hr =>
   rhs
   rw [hTe]
   simp only [zu.code,zu.rs,zSs,reduceIte,zk,zn,zo,zq,al,h1,h2,h3,h4,if_neg k2,ln,goInt,h5]
  rw [hTe] at hr
  exact ⟨_,(zu.runs hr (.inr rfl))⟩
 obtain ⟨S1,c1,c2,c3⟩:=jI.v me nodes S
 have bd:=fun S=>ku (y0:=.int .i64 me) (y1:=.int .i64 nodes) rfl rfl S
 have aw:ql zi 31 S1=some (.pointer (some ⟨S1.next,0,none⟩),S1.push (.cells [.int .i64 0,.int .i64 0,.slice none 0 0,.slice none 0 0] (.own []) 0)):=by kernel_rfl
 obtain ⟨S2,b1,b2,b3,b4⟩:=Zl (P:=zi) (t:=31) (z:=[.int .i64 0,.int .i64 0,.slice none 0 0,.slice none 0 0]) (xs:=Y6 me nodes 0 0 []) (x:=.agg [Value.int .i64 me,.int .i64 nodes,.slice none 0 0,.slice none 0 0].toArray) S1 rfl yE rfl rfl
 conv at hr =>
  rhs
  rw [hTe]
  simp only [zu.code,zu.rs,zSs,reduceIte,zk,zn,zo,zq,al,h1,h2,h3,h4,h5,if_neg k2,ln,goInt,c1,bd,aw,b1]
 generalize hL:wQ (zJ zi O false zu.zY) _ _=r at hr
 obtain ⟨T2,S3,rfl,p2⟩:=round (q:=S.next) (pw:=S1.next) (me:=me) (nodes:=nodes) hk (by omega) hn ⟨by omega,by omega⟩ (by omega) (by have:=c2.lt;omega) A [] (kn:=0) (ka:=0) hL rfl rfl rfl rfl rfl rfl rfl (c2.ext b3) b2 b4 ⟨Okl.none,Okl.none,by decide,by decide⟩ (fun w h=>by cases h)
 have hT2:=zu.eta p2
 conv at hr =>
  rhs
  simp only [zSs,reduceIte,zk,zn,zo,zq]
  rw [hT2]
  simp only [zu.code,zu.rs,zSs,reduceIte,zk,zn,zo,zq]
 rw [hTe] at hr
 exact ⟨_,zu.runs hr (.inr rfl)⟩
theorem law (x:Args codes) (h:Args.Good codes x):∃ k,(kL zi k 4 (Args.place codes x zy.empty).1 (Args.place codes x zy.empty).2).map (·.1)=some (.bool true):=by
 obtain ⟨a,b,c,u⟩:=x
 obtain ⟨h1,h2,h3,_⟩:=h
 obtain ⟨k,l,p1,p2,p3,p4,p5⟩:=adV c h3
 obtain ⟨S',e⟩:=run (me:=a) (nodes:=b) p1 p2 p4 p5 zy.empty
 refine Xq ae3 (S':=S') ?_
 have e2:Args.Jq codes (a,b,c,u)=[.int .i64 a,.int .i64 b,vs fD 2 k l]:=by
  show [xJ false ((Ty.int .i64).Jq a),xJ false ((Ty.int .i64).Jq b),xJ false ((Ty.slc 16 tDo).Jq c)]=_
  rw [p3];rfl
 rw [e2]
 exact e
end fetchRuns
end Go.Proofs.Ytpjglojnipjgfaa
namespace Go.Proofs.Ytpjglojnipjgfaa.fetchRuns
open Go.ChangeShapes Go.WideShapes Go.ChangeAt Go.RowKit Go.Abs
theorem own:ownKnob zi.godebug=none:=by kernel_rfl
theorem laidOut:laidOutB zi=true:=by kernel_rfl
theorem mixes:zi.follows .mixedOrders=true:=by kernel_rfl
set_option maxRecDepth 100000 in
theorem lifted (os:Os) (started:os.Started) (H:Type) (enc:TypeId×Value→H) :
  ReturnsInHanded {} Try.checked os 4 .any (Rows.fetchRunsSpec.pre6 enc zi Try.f4 Rows.fetchRunsRow.domain false) (Rows.fetchRunsSpec.post enc zi Try.f4 false true false false):=by
 refine returnsInHanded_of_change_sized (C:=Try.checked) own started (by kernel_rfl) Try.func4
  (ChangeSpec.witness6 (enc:=enc) (C:=Try.checked) false ⟨#[],#[.int .i64 0,.int .i64 0,.slice none 0 0],[]⟩ 8 (by kernel_rfl) (by kernel_rfl) (by kernel_rfl) (by kernel_rfl)) ?_
 intro W base args ds gs before hval0 hW hcnd hsz0 _
 have hW':=hW
 obtain ⟨p,q,hA0,hV,rfl,hfz,hnd⟩:=hW
 obtain ⟨rfl,rfl⟩:=trodVars_none hV
 have hsz1:(DataW.weightsEach zi (Try.f4.params.toList++Rows.fetchRunsSpec.plain.varTypes zi) (ds++[])).all (·≤reachBytes)=true:=hsz0
 have hval:∀ (j:Nat) t v,Try.f4.params[j]?=some t→args[j]?=some v→Value.okWide zi W .any base t v:=hval0
 have hA1:DataW.TrodAll enc zi W 0 (fun _=>true) true Try.f4.params.toList args.toList ds p:=hA0
 rw [Try.params4] at hA1 hsz1 hval
 have hA:DataW.TrodAll enc zi W 0 (fun _=>true) true [3,3,28] args.toList ds p:=hA1
 have hsz:(DataW.weightsEach zi [3,3,28] ds).all (·≤reachBytes)=true:=by rw [List.append_nil ds] at hsz1;exact hsz1
 clear hA0 hA1 hval0 hsz0 hsz1
 have r:=hA
 obtain ⟨v0,vs0,d0,ds0,p0,q0,hargs0,rfl,hp0,h0,r0⟩:=trodAll_cons r
 obtain ⟨v1,vs1,d1,ds1,p1,q1,hargs1,rfl,hp1,h1,r1⟩:=trodAll_cons r0
 obtain ⟨v2,vs2,d2,ds2,p2,q2,hargs2,rfl,hp2,h2,r2⟩:=trodAll_cons r1
 obtain ⟨_,rfl,_⟩:=trodAll_nil r2
 refine (aaq mixes coded law hA (fun j t v h1 h2=>hval j t v (by rw [List.getElem?_toArray];exact h1) h2) hsz).mono fun e W' ⟨he,bel⟩=>?_
 subst he
 exact ⟨_,rfl,_,_,_,[],_,[],hW',trodAll_mk1 (shut_bool (by kernel_rfl) _),acv laidOut bel _ _ _ _ (by kernel_rfl) hA,rfl,bel.frame _,fun h=>by cases h⟩
theorem over:Rows.fetchRunsRow.holds Try.pinned (OpenSpec.ofChange Rows.fetchRunsSpec) :=
 OpenClaim.holds_of_wide 4 Try.f4 rfl rfl rfl rfl rfl rfl rfl ⟨rfl,rfl,rfl,rfl,rfl⟩ rfl rfl rfl rfl rfl (by kernel_rfl) Try.func4 (by kernel_rfl)
  (of_decide_eq_true (by kernel_rfl)) (by unfold Func.isWrapper;first | (rw [if_pos (by decide +kernel)];kernel_rfl) | (rw [if_neg (by decide +kernel)];exact ⟨rfl,rfl⟩))
  (fun os started H enc _=>lifted os started H enc)
theorem proved:Rows.FetchRunsSaid:=over
end Go.Proofs.Ytpjglojnipjgfaa.fetchRuns
namespace Go.Proofs.Ytpjglojnipjgfaa
theorem fetchRuns_holds:Rows.FetchRunsSaid:=fetchRuns.proved
#print axioms fetchRuns_holds
end Go.Proofs.Ytpjglojnipjgfaa
