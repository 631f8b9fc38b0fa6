/-
The law MsgApart returns true for every input, and leaves it as it was; no condition. Part 4 of 5 of the texts (put together by a program: own names are short, what isn't needed is left out).
-/
import Derived.Test.YtbgcphbbchndkaaZMsgApart3
import Derived.Test.YtbgcphbbchndkaaChecked
import Derived.KernelRfl
set_option linter.unusedVariables false
set_option linter.unusedSimpArgs false
set_option maxRecDepth 100000
open Go renaming undef → zh
open Go.Proofs.Try renaming prog → zi
open Nat renaming reduceEqDiff → zk
open Int renaming reduceEq → zn
open Int renaming reduceLT → zo
open Int renaming reduceLE → zq
namespace Go.Proofs.Ytbgcphbbchndkaa
open Go.Abs
abbrev zO.id:FuncId:=66
noncomputable def zO.jS:Code:=(.seq (.region 3 (reg Try.f66 3) false) (.seq (.cond (.tmp 10) Code.skip (.exit 0)) (.seq (.block 1 (.seq (.region 4 (reg Try.f66 4) false) (.seq (.seq (.region 5 (reg Try.f66 5) false) (.cond (.tmp 16) (.seq (.region 6 (reg Try.f66 6) false) Code.ret) Code.skip)) (.region 7 (reg Try.f66 7) false)))) (.region 8 (reg Try.f66 8) false))))
noncomputable def zO.code:Code:=(.seq (.region 0 (reg Try.f66 0) false) (.seq (.region 1 (reg Try.f66 1) false) (.seq (.seq (.region 2 (reg Try.f66 2) false) (.block 0 (.loop zO.jS))) (.seq (.region 9 (reg Try.f66 9) false) Code.ret))))
theorem zO.body:Try.f66.body=some zO.code:=by kernel_rfl
theorem zO.eta {T:List Value} (h:T.length=24):T=[T.getD 0 zh,T.getD 1 zh,T.getD 2 zh,T.getD 3 zh,T.getD 4 zh,T.getD 5 zh,T.getD 6 zh,T.getD 7 zh,T.getD 8 zh,T.getD 9 zh,T.getD 10 zh,T.getD 11 zh,T.getD 12 zh,T.getD 13 zh,T.getD 14 zh,T.getD 15 zh,T.getD 16 zh,T.getD 17 zh,T.getD 18 zh,T.getD 19 zh,T.getD 20 zh,T.getD 21 zh,T.getD 22 zh,T.getD 23 zh]:=(kK T 24 h).trans (by kernel_rfl)
variable (r v B s w t z x y u b c d f g i j k l m n o p q:Value) (S:zu)
theorem zO.r0 :jI zi ⟨false,false,false⟩ (jc zi O) (reg Try.f66 0) (reg Try.f66 0).toList ([r,v,B,s,w,t,z,x,y,u,b,c,d,f,g,i,j,k,l,m,n,o,p,q]) S =
  ( some ([r,v,Value.bool false,s,w,t,z,x,y,u,b,c,d,f,g,i,j,k,l,m,n,o,p,q],S)):=by
 kernel_rfl
theorem zO.r1 :jI zi ⟨false,false,false⟩ (jc zi O) (reg Try.f66 1) (reg Try.f66 1).toList ([r,v,B,s,w,t,z,x,y,u,b,c,d,f,g,i,j,k,l,m,n,o,p,q]) S =
  (zN (kT zi 100 none S) (fun E A=>some ([r,v,B,E,w,t,dem E,x,y,u,b,c,d,f,g,i,j,k,l,m,n,o,p,q],A)) ()):=by
 kernel_rfl
theorem zO.r2 :jI zi ⟨false,false,false⟩ (jc zi O) (reg Try.f66 2) (reg Try.f66 2).toList ([r,v,B,s,w,t,z,x,y,u,b,c,d,f,g,i,j,k,l,m,n,o,p,q]) S =
  (zN (ZO zi 26 (dem r) S) (fun C A=>some ([r,v,B,s,w,t,z,dem r,C,.int .i64 0,b,c,d,f,g,i,j,k,l,m,n,o,p,q],A)) ()):=by
 kernel_rfl
theorem zO.r3 :jI zi ⟨false,false,false⟩ (jc zi O) (reg Try.f66 3) (reg Try.f66 3).toList ([r,v,B,s,w,t,z,x,y,u,b,c,d,f,g,i,j,k,l,m,n,o,p,q]) S =
  (zN (jY zi BinOp.lss 3 u y S) (fun E A=>some ([r,v,B,s,w,t,z,x,y,u,E,c,d,f,g,i,j,k,l,m,n,o,p,q],A)) ()):=by
 kernel_rfl
theorem zO.r4 :jI zi ⟨false,false,false⟩ (jc zi O) (reg Try.f66 4) (reg Try.f66 4).toList ([r,v,B,s,w,t,z,x,y,u,b,c,d,f,g,i,j,k,l,m,n,o,p,q]) S =
  (zN (jw zi 26 x u S) (fun E A=>zN (zQ zi false 25 E A) (fun C F=>zN (yc zi 25 F) (fun D G=>zN (wo zi 25 D (dem C) G) (fun H I=>some ([r,v,B,s,w,D,z,x,y,u,b,E,C,f,g,i,j,k,l,m,n,o,p,q],I)) ()) ()) ()) ()):=by
 kernel_rfl
theorem zO.r5 :jI zi ⟨false,false,false⟩ (jc zi O) (reg Try.f66 5) (reg Try.f66 5).toList ([r,v,B,s,w,t,z,x,y,u,b,c,d,f,g,i,j,k,l,m,n,o,p,q]) S =
  (zN (zA zi 25 t 0 S) (fun C A=>zN (zQ zi false 3 C A) (fun D F=>zN (xP zi false 100 (dem s) D false F) (fun H G=>some ([r,v,B,s,w,t,z,x,y,u,b,c,d,dem s,C,D,H,k,l,m,n,o,p,q],G)) ()) ()) ()):=by
 kernel_rfl
theorem zO.r6 :jI zi ⟨false,false,false⟩ (jc zi O) (reg Try.f66 6) (reg Try.f66 6).toList ([r,v,B,s,w,t,z,x,y,u,b,c,d,f,g,i,j,k,l,m,n,o,p,q]) S =
  ( some ([r,v,Value.bool false,s,w,t,z,x,y,u,b,c,d,f,g,i,j,k,l,m,n,o,p,q],S)):=by
 kernel_rfl
theorem zO.r7 :jI zi ⟨false,false,false⟩ (jc zi O) (reg Try.f66 7) (reg Try.f66 7).toList ([r,v,B,s,w,t,z,x,y,u,b,c,d,f,g,i,j,k,l,m,n,o,p,q]) S =
  (zN (zA zi 25 t 0 S) (fun C A=>zN (zQ zi false 3 C A) (fun D F=>zN (wS zi 100 (dem s) D (Value.bool true) F) (fun H G=>some ([r,v,B,s,w,t,z,x,y,u,b,c,d,f,g,i,j,dem s,C,D,n,o,p,q],G)) ()) ()) ()):=by
 kernel_rfl
theorem zO.r8 :jI zi ⟨false,false,false⟩ (jc zi O) (reg Try.f66 8) (reg Try.f66 8).toList ([r,v,B,s,w,t,z,x,y,u,b,c,d,f,g,i,j,k,l,m,n,o,p,q]) S =
  (zN (jY zi BinOp.add 3 u (.int .i64 1) S) (fun E A=>some ([r,v,B,s,w,t,z,x,y,dem E,b,c,d,f,g,i,j,k,l,m,E,o,p,q],A)) ()):=by
 kernel_rfl
theorem zO.r9 :jI zi ⟨false,false,false⟩ (jc zi O) (reg Try.f66 9) (reg Try.f66 9).toList ([r,v,B,s,w,t,z,x,y,u,b,c,d,f,g,i,j,k,l,m,n,o,p,q]) S =
  (zN (ZO zi 26 (dem r) S) (fun C A=>zN (jY zi BinOp.leq 3 C (.int .i64 3) A) (fun D F=>some ([r,v,D,s,w,t,z,x,y,u,b,c,d,f,g,i,j,k,l,m,n,dem r,C,dem D],F)) ()) ()):=by
 kernel_rfl
theorem zO.rs:type_of% (aiJ @zO.r0 (aiJ @zO.r1 (aiJ @zO.r2 (aiJ @zO.r3 (aiJ @zO.r4 (aiJ @zO.r5 (aiJ @zO.r6 (aiJ @zO.r7 (aiJ @zO.r8 (@zO.r9)))))))))):=aiJ @zO.r0 (aiJ @zO.r1 (aiJ @zO.r2 (aiJ @zO.r3 (aiJ @zO.r4 (aiJ @zO.r5 (aiJ @zO.r6 (aiJ @zO.r7 (aiJ @zO.r8 (@zO.r9)))))))))
theorem zO.runs {r:Value} {S A:zu} {e:AEx} {T:List Value} (h:zD zi O false zO.code ([r,zh,zh,zh,zh,zh,zh,zh,zh,zh,zh,zh,zh,zh,zh,zh,zh,zh,zh,zh,zh,zh,zh,zh]) zu.empty=some (e,T,A)) (he:e=.normal∨e=.ret) (hca:[r].all (jg 16)=true) (hcv:jg 16 (T.getD 2 zh)=true):jc zi O 66 [r] S=some (T.getD 2 zh,S) :=
 yC rfl rfl Try.func66 (by decide) zO.body (by exact h) he (wJ (a:=T.getD 2 zh) ((show zL zi T A Try.f66.results.toList=zL zi T A [(ResultVar.tmp 2)] from by kernel_rfl).trans (by simp only [zL])) (by kernel_rfl)) hca hcv
end Go.Proofs.Ytbgcphbbchndkaa
namespace Go.Proofs.Ytbgcphbbchndkaa
open Go.Abs
abbrev zX.id:FuncId:=56
noncomputable def zX.jS:Code:=(.seq (.region 5 (reg Try.f56 5) false) (.seq (.cond (.tmp 23) Code.skip (.exit 0)) (.seq (.block 1 (.seq (.region 6 (reg Try.f56 6) false) (.seq (.region 7 (reg Try.f56 7) false) (.seq (.seq (.region 8 (reg Try.f56 8) false) (.cond (.tmp 32) (.seq (.region 9 (reg Try.f56 9) false) Code.ret) Code.skip)) (.region 10 (reg Try.f56 10) false))))) (.region 11 (reg Try.f56 11) false))))
noncomputable def zX.code:Code:=(.seq (.region 0 (reg Try.f56 0) false) (.seq (.seq (.region 1 (reg Try.f56 1) false) (.cond (.tmp 12) (.seq (.region 2 (reg Try.f56 2) false) Code.ret) Code.skip)) (.seq (.region 3 (reg Try.f56 3) false) (.seq (.seq (.region 4 (reg Try.f56 4) false) (.block 0 (.loop zX.jS))) (.seq (.region 12 (reg Try.f56 12) false) Code.ret)))))
theorem zX.body:Try.f56.body=some zX.code:=by kernel_rfl
theorem zX.eta {T:List Value} (h:T.length=39):T=[T.getD 0 zh,T.getD 1 zh,T.getD 2 zh,T.getD 3 zh,T.getD 4 zh,T.getD 5 zh,T.getD 6 zh,T.getD 7 zh,T.getD 8 zh,T.getD 9 zh,T.getD 10 zh,T.getD 11 zh,T.getD 12 zh,T.getD 13 zh,T.getD 14 zh,T.getD 15 zh,T.getD 16 zh,T.getD 17 zh,T.getD 18 zh,T.getD 19 zh,T.getD 20 zh,T.getD 21 zh,T.getD 22 zh,T.getD 23 zh,T.getD 24 zh,T.getD 25 zh,T.getD 26 zh,T.getD 27 zh,T.getD 28 zh,T.getD 29 zh,T.getD 30 zh,T.getD 31 zh,T.getD 32 zh,T.getD 33 zh,T.getD 34 zh,T.getD 35 zh,T.getD 36 zh,T.getD 37 zh,T.getD 38 zh]:=(kK T 39 h).trans (by kernel_rfl)
variable (F J N P H M K L I G d f g i j k l m n o b c a p q r s t u v w x y z A B C D E:Value) (S:zu)
theorem zX.r0 :jI zi ⟨false,false,false⟩ (jc zi O) (reg Try.f56 0) (reg Try.f56 0).toList ([F,J,N,P,H,M,K,L,I,G,d,f,g,i,j,k,l,m,n,o,b,c,a,p,q,r,s,t,u,v,w,x,y,z,A,B,C,D,E]) S =
  ( some ([F,J,Value.slice none 0 0,.int .i64 0,H,M,K,L,I,G,d,f,g,i,j,k,l,m,n,o,b,c,a,p,q,r,s,t,u,v,w,x,y,z,A,B,C,D,E],S)):=by
 kernel_rfl
theorem zX.r1 :jI zi ⟨false,false,false⟩ (jc zi O) (reg Try.f56 1) (reg Try.f56 1).toList ([F,J,N,P,H,M,K,L,I,G,d,f,g,i,j,k,l,m,n,o,b,c,a,p,q,r,s,t,u,v,w,x,y,z,A,B,C,D,E]) S =
  (zN ((jc zi O) 66 [(dem (dem F))] S) (fun R Q=>zN (aUn zi UnOp.not R Q) (fun U X=>some ([F,J,N,P,H,M,K,L,I,G,dem F,R,U,i,j,k,l,m,n,o,b,c,a,p,q,r,s,t,u,v,w,x,y,z,A,B,C,D,E],X)) ()) ()):=by
 kernel_rfl
theorem zX.r2 :jI zi ⟨false,false,false⟩ (jc zi O) (reg Try.f56 2) (reg Try.f56 2).toList ([F,J,N,P,H,M,K,L,I,G,d,f,g,i,j,k,l,m,n,o,b,c,a,p,q,r,s,t,u,v,w,x,y,z,A,B,C,D,E]) S =
  ( some ([F,J,Value.slice none 0 0,.int .i64 61,H,M,K,L,I,G,d,f,g,i,j,k,l,m,n,o,b,c,a,p,q,r,s,t,u,v,w,x,y,z,A,B,C,D,E],S)):=by
 kernel_rfl
theorem zX.r3 :jI zi ⟨false,false,false⟩ (jc zi O) (reg Try.f56 3) (reg Try.f56 3).toList ([F,J,N,P,H,M,K,L,I,G,d,f,g,i,j,k,l,m,n,o,b,c,a,p,q,r,s,t,u,v,w,x,y,z,A,B,C,D,E]) S =
  (zN (ZO zi 26 (dem F) S) (fun R Q=>zN (jT zi 57 1 [(0,R)] Q) (fun U X=>zN ((jc zi O) 32 [(dem U)] X) (fun W Y=>zN (zS W 0 Y) (fun v5 Z=>zN (zS (jD 0 W) 1 Z) (fun v6 S5=>some ([F,J,N,P,v5,v6,K,L,I,G,d,f,g,jD 1 (jD 0 W),dem F,R,U,dem W,dem v5,dem v6,b,c,a,p,q,r,s,t,u,v,w,x,y,z,A,B,C,D,E],S5)) ()) ()) ()) ()) ()):=by
 kernel_rfl
theorem zX.r4 :jI zi ⟨false,false,false⟩ (jc zi O) (reg Try.f56 4) (reg Try.f56 4).toList ([F,J,N,P,H,M,K,L,I,G,d,f,g,i,j,k,l,m,n,o,b,c,a,p,q,r,s,t,u,v,w,x,y,z,A,B,C,D,E]) S =
  (zN (ZO zi 26 (dem F) S) (fun R Q=>some ([F,J,N,P,H,M,K,L,I,G,d,f,g,i,j,k,l,m,n,o,dem F,R,.int .i64 0,p,q,r,s,t,u,v,w,x,y,z,A,B,C,D,E],Q)) ()):=by
 kernel_rfl
theorem zX.r5 :jI zi ⟨false,false,false⟩ (jc zi O) (reg Try.f56 5) (reg Try.f56 5).toList ([F,J,N,P,H,M,K,L,I,G,d,f,g,i,j,k,l,m,n,o,b,c,a,p,q,r,s,t,u,v,w,x,y,z,A,B,C,D,E]) S =
  (zN (jY zi BinOp.lss 3 a c S) (fun V Q=>some ([F,J,N,P,H,M,K,L,I,G,d,f,g,i,j,k,l,m,n,o,b,c,a,V,q,r,s,t,u,v,w,x,y,z,A,B,C,D,E],Q)) ()):=by
 kernel_rfl
theorem zX.r6 :jI zi ⟨false,false,false⟩ (jc zi O) (reg Try.f56 6) (reg Try.f56 6).toList ([F,J,N,P,H,M,K,L,I,G,d,f,g,i,j,k,l,m,n,o,b,c,a,p,q,r,s,t,u,v,w,x,y,z,A,B,C,D,E]) S =
  (zN (jw zi 26 b a S) (fun V Q=>zN (zQ zi false 25 V Q) (fun R X=>zN (yc zi 25 X) (fun U Y=>zN (wo zi 25 U (dem R) Y) (fun W Z=>some ([F,J,N,P,H,M,K,U,I,G,d,f,g,i,j,k,l,m,n,o,b,c,a,p,V,R,s,t,u,v,w,x,y,z,A,B,C,D,E],Z)) ()) ()) ()) ()):=by
 kernel_rfl
theorem zX.r7 :jI zi ⟨false,false,false⟩ (jc zi O) (reg Try.f56 7) (reg Try.f56 7).toList ([F,J,N,P,H,M,K,L,I,G,d,f,g,i,j,k,l,m,n,o,b,c,a,p,q,r,s,t,u,v,w,x,y,z,A,B,C,D,E]) S =
  (zN (zQ zi false 25 L S) (fun V Q=>zN ((jc zi O) 33 [(dem V)] Q) (fun R X=>zN (zS R 0 X) (fun W Y=>zN (zS (jD 0 R) 1 Y) (fun v4 Z=>some ([F,J,N,P,H,M,K,L,W,v4,d,f,g,i,j,k,l,m,n,o,b,c,a,p,q,r,jD 1 (jD 0 R),V,dem R,dem W,dem v4,x,y,z,A,B,C,D,E],Z)) ()) ()) ()) ()):=by
 kernel_rfl
theorem zX.r8 :jI zi ⟨false,false,false⟩ (jc zi O) (reg Try.f56 8) (reg Try.f56 8).toList ([F,J,N,P,H,M,K,L,I,G,d,f,g,i,j,k,l,m,n,o,b,c,a,p,q,r,s,t,u,v,w,x,y,z,A,B,C,D,E]) S =
  (zN (jY zi BinOp.neq 31 (dem G) (.int .i64 0) S) (fun R Q=>some ([F,J,N,P,H,M,K,L,I,G,d,f,g,i,j,k,l,m,n,o,b,c,a,p,q,r,s,t,u,v,w,dem G,R,z,A,B,C,D,E],Q)) ()):=by
 kernel_rfl
theorem zX.r9 :jI zi ⟨false,false,false⟩ (jc zi O) (reg Try.f56 9) (reg Try.f56 9).toList ([F,J,N,P,H,M,K,L,I,G,d,f,g,i,j,k,l,m,n,o,b,c,a,p,q,r,s,t,u,v,w,x,y,z,A,B,C,D,E]) S =
  ( some ([F,J,Value.slice none 0 0,G,H,M,K,L,I,dem G,d,f,g,i,j,k,l,m,n,o,b,c,a,p,q,r,s,t,u,v,w,x,y,dem G,A,B,C,D,E],S)):=by
 kernel_rfl
theorem zX.r10 :jI zi ⟨false,false,false⟩ (jc zi O) (reg Try.f56 10) (reg Try.f56 10).toList ([F,J,N,P,H,M,K,L,I,G,d,f,g,i,j,k,l,m,n,o,b,c,a,p,q,r,s,t,u,v,w,x,y,z,A,B,C,D,E]) S =
  (zN (yw zi 23 23 H (dem I) S) (fun U Q=>some ([F,J,N,P,U,M,K,L,I,G,d,f,g,i,j,k,l,m,n,o,b,c,a,p,q,r,s,t,u,v,w,x,y,z,dem H,dem I,dem U,D,E],Q)) ()):=by
 kernel_rfl
theorem zX.r11 :jI zi ⟨false,false,false⟩ (jc zi O) (reg Try.f56 11) (reg Try.f56 11).toList ([F,J,N,P,H,M,K,L,I,G,d,f,g,i,j,k,l,m,n,o,b,c,a,p,q,r,s,t,u,v,w,x,y,z,A,B,C,D,E]) S =
  (zN (jY zi BinOp.add 3 a (.int .i64 1) S) (fun V Q=>some ([F,J,N,P,H,M,K,L,I,G,d,f,g,i,j,k,l,m,n,o,b,c,dem V,p,q,r,s,t,u,v,w,x,y,z,A,B,C,V,E],Q)) ()):=by
 kernel_rfl
theorem zX.r12 :jI zi ⟨false,false,false⟩ (jc zi O) (reg Try.f56 12) (reg Try.f56 12).toList ([F,J,N,P,H,M,K,L,I,G,d,f,g,i,j,k,l,m,n,o,b,c,a,p,q,r,s,t,u,v,w,x,y,z,A,B,C,D,E]) S =
  ( some ([F,J,H,.int .i64 0,dem H,M,K,L,I,G,d,f,g,i,j,k,l,m,n,o,b,c,a,p,q,r,s,t,u,v,w,x,y,z,A,B,C,D,dem H],S)):=by
 kernel_rfl
theorem zX.rs:type_of% (aiJ @zX.r0 (aiJ @zX.r1 (aiJ @zX.r2 (aiJ @zX.r3 (aiJ @zX.r4 (aiJ @zX.r5 (aiJ @zX.r6 (aiJ @zX.r7 (aiJ @zX.r8 (aiJ @zX.r9 (aiJ @zX.r10 (aiJ @zX.r11 (@zX.r12))))))))))))):=aiJ @zX.r0 (aiJ @zX.r1 (aiJ @zX.r2 (aiJ @zX.r3 (aiJ @zX.r4 (aiJ @zX.r5 (aiJ @zX.r6 (aiJ @zX.r7 (aiJ @zX.r8 (aiJ @zX.r9 (aiJ @zX.r10 (aiJ @zX.r11 (@zX.r12))))))))))))
theorem zX.runs {F:Value} {S Q:zu} {e:AEx} {T:List Value} (h:zD zi O false zX.code ([F,zh,zh,zh,zh,zh,zh,zh,zh,zh,zh,zh,zh,zh,zh,zh,zh,zh,zh,zh,zh,zh,zh,zh,zh,zh,zh,zh,zh,zh,zh,zh,zh,zh,zh,zh,zh,zh,zh]) zu.empty=some (e,T,Q)) (he:e=.normal∨e=.ret)  (h0:wU (T.getD 2 zh)=true) (h1:wU (T.getD 3 zh)=true) (hca:[F].all (jg 16)=true) (hcv:jg 16 (Value.tuple #[T.getD 2 zh,T.getD 3 zh])=true):jc zi O 56 [F] S=some (Value.tuple #[T.getD 2 zh,T.getD 3 zh],S) :=
 yC rfl rfl Try.func56 (by decide) zX.body (by exact h) he ((Zv ((show zL zi T Q Try.f56.results.toList=zL zi T Q [(ResultVar.tmp 2),(ResultVar.tmp 3)] from by kernel_rfl).trans (by simp only [zL])) (by kernel_rfl) (by simp only [List.all_cons,List.all_nil,h0,h1,Bool.and_true])).trans rfl) hca hcv
end Go.Proofs.Ytbgcphbbchndkaa
namespace Go.Proofs.Ytbgcphbbchndkaa
open Go.Abs
abbrev jP.id:FuncId:=33
noncomputable def jP.code:Code:=(.seq (.region 0 (reg Try.f33 0) false) (.seq (.seq (.region 1 (reg Try.f33 1) false) (.cond (.tmp 8) (.seq (.region 2 (reg Try.f33 2) false) Code.ret) Code.skip)) (.seq (.region 3 (reg Try.f33 3) false) (.seq (.region 4 (reg Try.f33 4) false) Code.ret))))
theorem jP.body:Try.f33.body=some jP.code:=by kernel_rfl
variable (a m u v n o p q r s b c d f g i j k l:Value) (S:zu)
theorem jP.r0 :jI zi ⟨false,false,false⟩ (jc zi O) (reg Try.f33 0) (reg Try.f33 0).toList ([a,m,u,v,n,o,p,q,r,s,b,c,d,f,g,i,j,k,l]) S =
  (zN (Zk (dem a) S) (fun w t=>some ([a,w,Value.slice none 0 0,.int .i64 0,n,o,p,q,r,s,b,c,d,f,g,i,j,k,l],t)) ()):=by
 kernel_rfl
theorem jP.r1 :jI zi ⟨false,false,false⟩ (jc zi O) (reg Try.f33 1) (reg Try.f33 1).toList ([a,m,u,v,n,o,p,q,r,s,b,c,d,f,g,i,j,k,l]) S =
  (zN (zQ zi false 25 m S) (fun w t=>zN ((jc zi O) 38 [(dem w)] t) (fun x A=>zN (aUn zi UnOp.not x A) (fun y B=>some ([a,m,u,v,n,o,w,x,y,s,b,c,d,f,g,i,j,k,l],B)) ()) ()) ()):=by
 kernel_rfl
theorem jP.r2 :jI zi ⟨false,false,false⟩ (jc zi O) (reg Try.f33 2) (reg Try.f33 2).toList ([a,m,u,v,n,o,p,q,r,s,b,c,d,f,g,i,j,k,l]) S =
  ( some ([a,m,Value.slice none 0 0,.int .i64 61,n,o,p,q,r,s,b,c,d,f,g,i,j,k,l],S)):=by
 kernel_rfl
theorem jP.r3 :jI zi ⟨false,false,false⟩ (jc zi O) (reg Try.f33 3) (reg Try.f33 3).toList ([a,m,u,v,n,o,p,q,r,s,b,c,d,f,g,i,j,k,l]) S =
  (zN (zA zi 25 m 0 S) (fun w t=>zN (zQ zi false 3 w t) (fun x A=>zN (zA zi 25 m 1 A) (fun y B=>zN (zQ zi false 3 y B) (fun C G=>zN (jT zi 57 2 [(0,x),(1,C)] G) (fun D H=>zN ((jc zi O) 32 [(dem D)] H) (fun z I=>zN (zS z 0 I) (fun E J=>zN (zS (jD 0 z) 1 J) (fun F K=>some ([a,m,u,v,E,F,p,q,r,jD 1 (jD 0 z),w,x,y,C,D,dem z,dem E,dem F,l],K)) ()) ()) ()) ()) ()) ()) ()) ()):=by
 kernel_rfl
theorem jP.r4 :jI zi ⟨false,false,false⟩ (jc zi O) (reg Try.f33 4) (reg Try.f33 4).toList ([a,m,u,v,n,o,p,q,r,s,b,c,d,f,g,i,j,k,l]) S =
  ( some ([a,m,n,.int .i64 0,dem n,o,p,q,r,s,b,c,d,f,g,i,j,k,dem n],S)):=by
 kernel_rfl
theorem jP.rs:type_of% (aiJ @jP.r0 (aiJ @jP.r1 (aiJ @jP.r2 (aiJ @jP.r3 (@jP.r4))))):=aiJ @jP.r0 (aiJ @jP.r1 (aiJ @jP.r2 (aiJ @jP.r3 (@jP.r4))))
theorem jP.runs {a:Value} {S t:zu} {e:AEx} {T:List Value} (h:zD zi O false jP.code ([a,zh,zh,zh,zh,zh,zh,zh,zh,zh,zh,zh,zh,zh,zh,zh,zh,zh,zh]) zu.empty=some (e,T,t)) (he:e=.normal∨e=.ret)  (h0:wU (T.getD 2 zh)=true) (h1:wU (T.getD 3 zh)=true) (hca:[a].all (jg 16)=true) (hcv:jg 16 (Value.tuple #[T.getD 2 zh,T.getD 3 zh])=true):jc zi O 33 [a] S=some (Value.tuple #[T.getD 2 zh,T.getD 3 zh],S) :=
 yC rfl rfl Try.func33 (by decide) jP.body (by exact h) he ((Zv ((show zL zi T t Try.f33.results.toList=zL zi T t [(ResultVar.tmp 2),(ResultVar.tmp 3)] from by kernel_rfl).trans (by simp only [zL])) (by kernel_rfl) (by simp only [List.all_cons,List.all_nil,h0,h1,Bool.and_true])).trans rfl) hca hcv
end Go.Proofs.Ytbgcphbbchndkaa
namespace Go.Proofs.Ytbgcphbbchndkaa
open Go.Abs
abbrev wH.id:FuncId:=38
noncomputable def wH.code:Code:=(.seq (.region 0 (reg Try.f38 0) false) (.seq (.region 1 (reg Try.f38 1) false) Code.ret))
theorem wH.body:Try.f38.body=some wH.code:=by kernel_rfl
variable (c i Y J K L M N P Q l m n o p q r s t u w:Value) (S:zu)
theorem wH.r0 :jI zi ⟨false,false,false⟩ (jc zi O) (reg Try.f38 0) (reg Try.f38 0).toList ([c,i,Y,J,K,L,M,N,P,Q,l,m,n,o,p,q,r,s,t,u,w]) S =
  (zN (Zk (dem c) S) (fun x d=>some ([c,x,Value.bool false,J,K,L,M,N,P,Q,l,m,n,o,p,q,r,s,t,u,w],d)) ()):=by
 kernel_rfl
theorem wH.r1 :jI zi ⟨false,false,false⟩ (jc zi O) (reg Try.f38 1) (reg Try.f38 1).toList ([c,i,Y,J,K,L,M,N,P,Q,l,m,n,o,p,q,r,s,t,u,w]) S =
  (zN (zA zi 25 i 0 S) (fun x d=>zN (zQ zi false 3 x d) (fun R Z=>zN (jY zi BinOp.geq 3 R (.int .i64 1) Z) (fun f S3=>gdK (dem f) true (zA zi 25 i 0) S3 (fun U S4=>gdK (dem f) true (zQ zi false 3 U) S4 (fun V S5=>gdK (dem f) true (jY zi BinOp.leq 3 V (.int .i64 1000000)) S5 (fun W S6=>zN (yj (dem f) W (Value.bool false) S6) (fun g S7=>gdK (dem g) true (zA zi 25 i 1) S7 (fun X S8=>gdK (dem g) true (zQ zi false 3 X) S8 (fun y S9=>gdK (dem g) true (jY zi BinOp.geq 3 y (.int .i64 0)) S9 (fun z D=>zN (yj (dem g) z (Value.bool false) D) (fun b E=>gdK (dem b) true (zA zi 25 i 1) E (fun A F=>gdK (dem b) true (zQ zi false 3 A) F (fun B G=>gdK (dem b) true (jY zi BinOp.leq 3 B (.int .i64 1000)) G (fun C H=>zN (yj (dem b) C (Value.bool false) H) (fun k I=>some ([c,i,k,x,R,f,dem f,U,V,W,g,dem g,X,y,z,b,dem b,A,B,C,dem k],I)) ()) ()) ()) ()) ()) ()) ()) ()) ()) ()) ()) ()) ()) ()) ()):=by
 refine sD Try.f38 1 0 (fun x d=>?_)
 refine sD Try.f38 1 1 (fun R Z=>?_)
 refine sD Try.f38 1 2 (fun f S3=>?_)
 refine sP Try.f38 1 3 (v:=f) ?_
 refine sG Try.f38 1 4 (j:=3) (fun U S4=>?_)
 refine sG Try.f38 1 5 (j:=3) (fun V S5=>?_)
 refine sG Try.f38 1 6 (j:=3) (fun W S6=>?_)
 refine sD Try.f38 1 7 (fun g S7=>?_)
 refine sP Try.f38 1 8 (v:=g) ?_
 refine sG Try.f38 1 9 (j:=8) (fun X S8=>?_)
 refine sG Try.f38 1 10 (j:=8) (fun y S9=>?_)
 refine sG Try.f38 1 11 (j:=8) (fun z D=>?_)
 refine sD Try.f38 1 12 (fun b E=>?_)
 refine sP Try.f38 1 13 (v:=b) ?_
 refine sG Try.f38 1 14 (j:=13) (fun A F=>?_)
 refine sG Try.f38 1 15 (j:=13) (fun B G=>?_)
 refine sG Try.f38 1 16 (j:=13) (fun C H=>?_)
 refine sD Try.f38 1 17 (fun k I=>?_)
 refine sP Try.f38 1 18 (v:=k) ?_
 kernel_rfl
theorem wH.rs:type_of% (aiJ @wH.r0 (@wH.r1)):=aiJ @wH.r0 (@wH.r1)
theorem wH.runs {c:Value} {S d:zu} {e:AEx} {T:List Value} (h:zD zi O false wH.code ([c,zh,zh,zh,zh,zh,zh,zh,zh,zh,zh,zh,zh,zh,zh,zh,zh,zh,zh,zh,zh]) zu.empty=some (e,T,d)) (he:e=.normal∨e=.ret) (hca:[c].all (jg 16)=true) (hcv:jg 16 (T.getD 2 zh)=true):jc zi O 38 [c] S=some (T.getD 2 zh,S) :=
 yC rfl rfl Try.func38 (by decide) wH.body (by exact h) he (wJ (a:=T.getD 2 zh) ((show zL zi T d Try.f38.results.toList=zL zi T d [(ResultVar.tmp 2)] from by kernel_rfl).trans (by simp only [zL])) (by kernel_rfl)) hca hcv
end Go.Proofs.Ytbgcphbbchndkaa
namespace Go.Proofs.Ytbgcphbbchndkaa
open Go.Abs
theorem ahV {t:TypeId} {a b:List UInt8} {S:zu}:Za zi .eql t (.string ⟨a.toArray⟩) (.string ⟨b.toArray⟩) S=some (.bool (decide (a=b)),S):=by rw [aaC]
end Go.Proofs.Ytbgcphbbchndkaa
namespace Go.Proofs.Ytbgcphbbchndkaa
open Go.Abs
structure TxV where
 id:Int
 fee:Int
 deriving DecidableEq
def fT (t:TxV):List Value:=[.int .i64 t.id,.int .i64 t.fee]
abbrev tv (t:TxV):Value:=.agg [Value.int .i64 t.id,.int .i64 t.fee].toArray
structure TxV.Ok (t:TxV):Prop where
 id:-9223372036854775808≤t.id∧t.id < 9223372036854775808
 fee:-9223372036854775808≤t.fee∧t.fee < 9223372036854775808
abbrev tTx:Ty:=.pair (.int .i64) (.pair (.int .i64) .unit)
def qp (t:TxV):Bool:=decide (1≤t.id) && decide (t.id≤1000000) && decide (0≤t.fee) && decide (t.fee≤1000)
theorem vG {t:TxV}:qp t=true ↔ 1≤t.id∧t.id≤1000000∧0≤t.fee∧t.fee≤1000:=by
 simp [qp,and_assoc]
abbrev mem1 (t:TxV):zu:=zu.empty.push (.cells [Value.int .i64 t.id,.int .i64 t.fee] (.own []) 0)
theorem box1 (t:TxV):Zk (tv t) zu.empty=some (.pointer (some ⟨0,0,none⟩),mem1 t):=rfl
theorem Jy (t:TxV):(mem1 t).get 0=some (.cells [Value.int .i64 t.id,.int .i64 t.fee] (.own []) 0):=rfl
theorem wH.v (t:TxV) (S:zu):jc zi O wH.id [tv t] S=some (.bool (qp t),S):=by
 obtain ⟨T,hTe⟩:∃ T,T=(tv t::zh::zh::zh::zh::zh::zh::zh::zh::zh::zh::zh::zh::zh::zh::zh::zh::zh::zh::zh::zh::[]):=⟨_,rfl⟩
 have hr:zD zi O false wH.code T zu.empty=zD zi O false wH.code T zu.empty:=rfl
 have l0:=yT (t:=3) (o:=0+0) (Jy t) Zt rfl
 have l1:=yT (t:=3) (o:=0+1) (Jy t) Zt rfl
 by_cases h1:1≤t.id <;> by_cases h2:t.id≤1000000 <;> by_cases h3:0≤t.fee <;> by_cases h4:t.fee≤1000
 all_goals
  conv at hr =>
   rhs
   rw [hTe]
   simp only [wH.code,wH.rs,zSs,reduceIte,zk,zn,zo,zq,box1,vV,ZV,l0,l1,h1,h2,h3,h4]
  rw [hTe] at hr
  simp only [qp,h1,h2,h3,h4,decide_true,decide_false,Bool.and_true,Bool.and_false,Bool.false_and]
  exact wH.runs hr (.inr rfl) rfl rfl
theorem ahE (x:tTx.Val) (hg:tTx.Good x):∃ t:TxV,tTx.JI x=fT t∧t.Ok:=by
 obtain ⟨a,b,u⟩:=x
 obtain ⟨h1,h2,_⟩:=hg
 exact ⟨⟨a,b⟩,rfl,Jq h1,Jq h2⟩
end Go.Proofs.Ytbgcphbbchndkaa
namespace Go.Proofs.Ytbgcphbbchndkaa
open Go.Abs
abbrev zG.id:FuncId:=32
noncomputable def zG.jS:Code:=(.seq (.region 5 (reg Try.f32 5) false) (.seq (.cond (.tmp 13) Code.skip (.exit 0)) (.seq (.block 1 (.seq (.region 6 (reg Try.f32 6) false) (.seq (.seq (.region 7 (reg Try.f32 7) false) (.cond (.tmp 17) (.seq (.region 8 (reg Try.f32 8) false) Code.ret) Code.skip)) (.region 9 (reg Try.f32 9) false)))) (.region 10 (reg Try.f32 10) false))))
noncomputable def zG.code:Code:=(.seq (.region 0 (reg Try.f32 0) false) (.seq (.seq (.region 1 (reg Try.f32 1) false) (.cond (.tmp 9) (.seq (.region 2 (reg Try.f32 2) false) Code.ret) Code.skip)) (.seq (.region 3 (reg Try.f32 3) false) (.seq (.seq (.region 4 (reg Try.f32 4) false) (.block 0 (.loop zG.jS))) (.seq (.region 11 (reg Try.f32 11) false) Code.ret)))))
theorem zG.body:Try.f32.body=some zG.code:=by kernel_rfl
theorem zG.eta {T:List Value} (h:T.length=26):T=[T.getD 0 zh,T.getD 1 zh,T.getD 2 zh,T.getD 3 zh,T.getD 4 zh,T.getD 5 zh,T.getD 6 zh,T.getD 7 zh,T.getD 8 zh,T.getD 9 zh,T.getD 10 zh,T.getD 11 zh,T.getD 12 zh,T.getD 13 zh,T.getD 14 zh,T.getD 15 zh,T.getD 16 zh,T.getD 17 zh,T.getD 18 zh,T.getD 19 zh,T.getD 20 zh,T.getD 21 zh,T.getD 22 zh,T.getD 23 zh,T.getD 24 zh,T.getD 25 zh]:=(kK T 26 h).trans (by kernel_rfl)
variable (s v A B u w t x y z b c a d f g i j k l m n o p q r:Value) (S:zu)
theorem zG.r0 :jI zi ⟨false,false,false⟩ (jc zi O) (reg Try.f32 0) (reg Try.f32 0).toList ([s,v,A,B,u,w,t,x,y,z,b,c,a,d,f,g,i,j,k,l,m,n,o,p,q,r]) S =
  ( some ([s,v,Value.slice none 0 0,.int .i64 0,u,w,t,x,y,z,b,c,a,d,f,g,i,j,k,l,m,n,o,p,q,r],S)):=by
 kernel_rfl
theorem zG.r1 :jI zi ⟨false,false,false⟩ (jc zi O) (reg Try.f32 1) (reg Try.f32 1).toList ([s,v,A,B,u,w,t,x,y,z,b,c,a,d,f,g,i,j,k,l,m,n,o,p,q,r]) S =
  (zN (ZO zi 57 (dem s) S) (fun D C=>zN (jY zi BinOp.gtr 3 D (.int .i64 64) C) (fun G F=>some ([s,v,A,B,u,w,t,dem s,D,G,b,c,a,d,f,g,i,j,k,l,m,n,o,p,q,r],F)) ()) ()):=by
 kernel_rfl
theorem zG.r2 :jI zi ⟨false,false,false⟩ (jc zi O) (reg Try.f32 2) (reg Try.f32 2).toList ([s,v,A,B,u,w,t,x,y,z,b,c,a,d,f,g,i,j,k,l,m,n,o,p,q,r]) S =
  ( some ([s,v,Value.slice none 0 0,.int .i64 11,u,w,t,x,y,z,b,c,a,d,f,g,i,j,k,l,m,n,o,p,q,r],S)):=by
 kernel_rfl
theorem zG.r3 :jI zi ⟨false,false,false⟩ (jc zi O) (reg Try.f32 3) (reg Try.f32 3).toList ([s,v,A,B,u,w,t,x,y,z,b,c,a,d,f,g,i,j,k,l,m,n,o,p,q,r]) S =
  ( some ([s,v,A,B,Value.slice none 0 0,w,t,x,y,z,b,c,a,d,f,g,i,j,k,l,m,n,o,p,q,r],S)):=by
 kernel_rfl
theorem zG.r4 :jI zi ⟨false,false,false⟩ (jc zi O) (reg Try.f32 4) (reg Try.f32 4).toList ([s,v,A,B,u,w,t,x,y,z,b,c,a,d,f,g,i,j,k,l,m,n,o,p,q,r]) S =
  (zN (ZO zi 57 (dem s) S) (fun D C=>some ([s,v,A,B,u,w,t,x,y,z,dem s,D,.int .i64 0,d,f,g,i,j,k,l,m,n,o,p,q,r],C)) ()):=by
 kernel_rfl
theorem zG.r5 :jI zi ⟨false,false,false⟩ (jc zi O) (reg Try.f32 5) (reg Try.f32 5).toList ([s,v,A,B,u,w,t,x,y,z,b,c,a,d,f,g,i,j,k,l,m,n,o,p,q,r]) S =
  (zN (jY zi BinOp.lss 3 a c S) (fun E C=>some ([s,v,A,B,u,w,t,x,y,z,b,c,a,E,f,g,i,j,k,l,m,n,o,p,q,r],C)) ()):=by
 kernel_rfl
theorem zG.r6 :jI zi ⟨false,false,false⟩ (jc zi O) (reg Try.f32 6) (reg Try.f32 6).toList ([s,v,A,B,u,w,t,x,y,z,b,c,a,d,f,g,i,j,k,l,m,n,o,p,q,r]) S =
  (zN (jw zi 57 b a S) (fun E C=>zN (zQ zi false 3 E C) (fun D F=>some ([s,v,A,B,u,w,D,x,y,z,b,c,a,d,E,dem D,i,j,k,l,m,n,o,p,q,r],F)) ()) ()):=by
 kernel_rfl
theorem zG.r7 :jI zi ⟨false,false,false⟩ (jc zi O) (reg Try.f32 7) (reg Try.f32 7).toList ([s,v,A,B,u,w,t,x,y,z,b,c,a,d,f,g,i,j,k,l,m,n,o,p,q,r]) S =
  (zN (jY zi BinOp.lss 3 (dem t) (.int .i64 (-1)) S) (fun D C=>some ([s,v,A,B,u,w,t,x,y,z,b,c,a,d,f,g,dem t,D,k,l,m,n,o,p,q,r],C)) ()):=by
 kernel_rfl
theorem zG.r8 :jI zi ⟨false,false,false⟩ (jc zi O) (reg Try.f32 8) (reg Try.f32 8).toList ([s,v,A,B,u,w,t,x,y,z,b,c,a,d,f,g,i,j,k,l,m,n,o,p,q,r]) S =
  ( some ([s,v,Value.slice none 0 0,.int .i64 11,u,w,t,x,y,z,b,c,a,d,f,g,i,j,k,l,m,n,o,p,q,r],S)):=by
 kernel_rfl
theorem zG.r9 :jI zi ⟨false,false,false⟩ (jc zi O) (reg Try.f32 9) (reg Try.f32 9).toList ([s,v,A,B,u,w,t,x,y,z,b,c,a,d,f,g,i,j,k,l,m,n,o,p,q,r]) S =
  (zN (qG zi false false 3 42 (dem t) S) (fun G C=>zN (jY zi BinOp.add 42 G (Value.int IntKind.u64 1) C) (fun H F=>zN ((jc zi O) 35 [(dem H)] F) (fun I K=>zN (yw zi 23 23 u I K) (fun J L=>some ([s,v,A,B,J,w,t,x,y,z,b,c,a,d,f,g,i,j,dem u,dem t,G,H,I,dem J,q,r],L)) ()) ()) ()) ()):=by
 kernel_rfl
theorem zG.r10 :jI zi ⟨false,false,false⟩ (jc zi O) (reg Try.f32 10) (reg Try.f32 10).toList ([s,v,A,B,u,w,t,x,y,z,b,c,a,d,f,g,i,j,k,l,m,n,o,p,q,r]) S =
  (zN (jY zi BinOp.add 3 a (.int .i64 1) S) (fun E C=>some ([s,v,A,B,u,w,t,x,y,z,b,c,dem E,d,f,g,i,j,k,l,m,n,o,p,E,r],C)) ()):=by
 kernel_rfl
theorem zG.r11 :jI zi ⟨false,false,false⟩ (jc zi O) (reg Try.f32 11) (reg Try.f32 11).toList ([s,v,A,B,u,w,t,x,y,z,b,c,a,d,f,g,i,j,k,l,m,n,o,p,q,r]) S =
  ( some ([s,v,u,.int .i64 0,dem u,w,t,x,y,z,b,c,a,d,f,g,i,j,k,l,m,n,o,p,q,dem u],S)):=by
 kernel_rfl
theorem zG.rs:type_of% (aiJ @zG.r0 (aiJ @zG.r1 (aiJ @zG.r2 (aiJ @zG.r3 (aiJ @zG.r4 (aiJ @zG.r5 (aiJ @zG.r6 (aiJ @zG.r7 (aiJ @zG.r8 (aiJ @zG.r9 (aiJ @zG.r10 (@zG.r11)))))))))))):=aiJ @zG.r0 (aiJ @zG.r1 (aiJ @zG.r2 (aiJ @zG.r3 (aiJ @zG.r4 (aiJ @zG.r5 (aiJ @zG.r6 (aiJ @zG.r7 (aiJ @zG.r8 (aiJ @zG.r9 (aiJ @zG.r10 (@zG.r11)))))))))))
theorem zG.runs {s:Value} {S C:zu} {e:AEx} {T:List Value} (h:zD zi O false zG.code ([s,zh,zh,zh,zh,zh,zh,zh,zh,zh,zh,zh,zh,zh,zh,zh,zh,zh,zh,zh,zh,zh,zh,zh,zh,zh]) S=some (e,T,C)) (he:e=.normal∨e=.ret)  (h0:wU (T.getD 2 zh)=true) (h1:wU (T.getD 3 zh)=true):jc zi O 32 [s] S=some (Value.tuple #[T.getD 2 zh,T.getD 3 zh],C) :=
 yU rfl rfl Try.func32 (by decide) zG.body (by exact h) he ((Zv ((show zL zi T C Try.f32.results.toList=zL zi T C [(ResultVar.tmp 2),(ResultVar.tmp 3)] from by kernel_rfl).trans (by simp only [zL])) (by kernel_rfl) (by simp only [List.all_cons,List.all_nil,h0,h1,Bool.and_true])).trans rfl)
end Go.Proofs.Ytbgcphbbchndkaa
namespace Go.Proofs.Ytbgcphbbchndkaa
open Go.Abs
abbrev jH.id:FuncId:=35
noncomputable def jH.jS:Code:=(.seq (.seq (.region 2 (reg Try.f35 2) false) (.cond (.tmp 5) Code.skip (.exit 0))) (.block 1 (.seq (.region 3 (reg Try.f35 3) false) (.region 4 (reg Try.f35 4) false))))
noncomputable def jH.code:Code:=(.seq (.region 0 (reg Try.f35 0) false) (.seq (.region 1 (reg Try.f35 1) false) (.seq (.block 0 (.loop jH.jS)) (.seq (.region 5 (reg Try.f35 5) false) Code.ret))))
theorem jH.body:Try.f35.body=some jH.code:=by kernel_rfl
theorem jH.eta {T:List Value} (h:T.length=19):T=[T.getD 0 zh,T.getD 1 zh,T.getD 2 zh,T.getD 3 zh,T.getD 4 zh,T.getD 5 zh,T.getD 6 zh,T.getD 7 zh,T.getD 8 zh,T.getD 9 zh,T.getD 10 zh,T.getD 11 zh,T.getD 12 zh,T.getD 13 zh,T.getD 14 zh,T.getD 15 zh,T.getD 16 zh,T.getD 17 zh,T.getD 18 zh]:=(kK T 19 h).trans (by kernel_rfl)
theorem jH.list {T:List Value} (h:T.length=19):∃ b o v n p q r s t u c d f g i j k l m,T=[b,o,v,n,p,q,r,s,t,u,c,d,f,g,i,j,k,l,m]:=⟨_,_,_,_,_,_,_,_,_,_,_,_,_,_,_,_,_,_,_,jH.eta h⟩
variable (b o v n p q r s t u c d f g i j k l m:Value) (S:zu)
theorem jH.r0 :jI zi ⟨false,false,false⟩ (jc zi O) (reg Try.f35 0) (reg Try.f35 0).toList ([b,o,v,n,p,q,r,s,t,u,c,d,f,g,i,j,k,l,m]) S =
  ( some ([b,o,Value.slice none 0 0,n,p,q,r,s,t,u,c,d,f,g,i,j,k,l,m],S)):=by
 kernel_rfl
theorem jH.r1 :jI zi ⟨false,false,false⟩ (jc zi O) (reg Try.f35 1) (reg Try.f35 1).toList ([b,o,v,n,p,q,r,s,t,u,c,d,f,g,i,j,k,l,m]) S =
  ( some ([b,o,v,Value.slice none 0 0,p,q,r,s,t,u,c,d,f,g,i,j,k,l,m],S)):=by
 kernel_rfl
theorem jH.r2 :jI zi ⟨false,false,false⟩ (jc zi O) (reg Try.f35 2) (reg Try.f35 2).toList ([b,o,v,n,p,q,r,s,t,u,c,d,f,g,i,j,k,l,m]) S =
  (zN (jY zi BinOp.geq 42 (dem b) (Value.int IntKind.u64 128) S) (fun A w=>some ([b,o,v,n,dem b,A,r,s,t,u,c,d,f,g,i,j,k,l,m],w)) ()):=by
 kernel_rfl
theorem jH.r3 :jI zi ⟨false,false,false⟩ (jc zi O) (reg Try.f35 3) (reg Try.f35 3).toList ([b,o,v,n,p,q,r,s,t,u,c,d,f,g,i,j,k,l,m]) S =
  (zN (qG zi false false 42 5 (dem b) S) (fun x w=>zN (jY zi BinOp.or 5 x (Value.int IntKind.u8 128) w) (fun y B=>zN (jT zi 23 1 [(0,y)] B) (fun z C=>zN (yw zi 23 23 n z C) (fun D E=>some ([b,o,v,D,p,q,dem n,dem b,x,y,z,dem D,f,g,i,j,k,l,m],E)) ()) ()) ()) ()):=by
 kernel_rfl
theorem jH.r4 :jI zi ⟨false,false,false⟩ (jc zi O) (reg Try.f35 4) (reg Try.f35 4).toList ([b,o,v,n,p,q,r,s,t,u,c,d,f,g,i,j,k,l,m]) S =
  (zN (jY zi BinOp.shr 42 (dem b) (Value.int IntKind.u64 7) S) (fun A w=>some ([A,o,v,n,p,q,r,s,t,u,c,d,dem b,dem A,i,j,k,l,m],w)) ()):=by
 kernel_rfl
theorem jH.r5 :jI zi ⟨false,false,false⟩ (jc zi O) (reg Try.f35 5) (reg Try.f35 5).toList ([b,o,v,n,p,q,r,s,t,u,c,d,f,g,i,j,k,l,m]) S =
  (zN (qG zi false false 42 5 (dem b) S) (fun x w=>zN (jT zi 23 1 [(0,x)] w) (fun y B=>zN (yw zi 23 23 n y B) (fun z C=>some ([b,o,z,dem n,p,q,r,s,t,u,c,d,f,g,dem n,dem b,x,y,dem z],C)) ()) ()) ()):=by
 kernel_rfl
theorem jH.runs {b:Value} {S w:zu} {e:AEx} {T:List Value} (h:zD zi O false jH.code ([b,zh,zh,zh,zh,zh,zh,zh,zh,zh,zh,zh,zh,zh,zh,zh,zh,zh,zh]) S=some (e,T,w)) (he:e=.normal∨e=.ret):jc zi O 35 [b] S=some (T.getD 2 zh,w) :=
 yU rfl rfl Try.func35 (by decide) jH.body (by exact h) he (wJ (a:=T.getD 2 zh) ((show zL zi T w Try.f35.results.toList=zL zi T w [(ResultVar.tmp 2)] from by kernel_rfl).trans (by simp only [zL])) (by kernel_rfl))
end Go.Proofs.Ytbgcphbbchndkaa
namespace Go.Proofs.Ytbgcphbbchndkaa
open Go.Abs
def enc (n:Nat):List UInt8:=if n < 128 then [UInt8.ofNat n] else UInt8.ofNat (n % 128+128)::enc (n / 128)
termination_by n
decreasing_by omega
theorem vg {n:Nat} (h:n < 128):enc n=[UInt8.ofNat n]:=by rw [enc,if_pos h]
theorem Yz {n:Nat} (h:¬ n < 128):enc n=UInt8.ofNat (n % 128+128)::enc (n / 128):=by rw [enc,if_neg h]
theorem wrap_u8 (n:Nat):IntKind.u8.wrap (n:Int)=((n % 256:Nat):Int):=by
 simp [IntKind.wrap,IntKind.bits,IntKind.signed]
theorem wrap_u64 (n:Nat):IntKind.u64.wrap (n:Int)=((n % 2 ^ 64:Nat):Int):=by
 simp [IntKind.wrap,IntKind.bits,IntKind.signed]
theorem aia:∀ m:Fin 256,orI .u8 (m.val:Int) 128=((m.val % 128+128:Nat):Int):=by decide +kernel
theorem agr (n:Nat):orI .u8 (IntKind.u8.wrap (n:Int)) 128=((UInt8.ofNat (n % 128+128)).toNat:Int):=by
 rw [wrap_u8,aia ⟨n % 256,by omega⟩]
 simp only [UInt8.toNat_ofNat']
 omega
theorem agC {n:Nat}:IntKind.u8.wrap (n:Int)=((UInt8.ofNat n).toNat:Int):=by
 rw [wrap_u8]
 simp
theorem aiE (n:Nat):(n:Int).fdiv (2 ^ min (Int.toNat 7) (IntKind.bits .u64))=((n / 128:Nat):Int):=by
 have:(2:Int) ^ min (Int.toNat 7) (IntKind.bits .u64)=128:=by decide
 rw [this,Int.fdiv_eq_ediv_of_nonneg _ (by omega)]
 omega
theorem agz (k:Nat):∀ n,n < 128 ^ (k+1)→(enc n).length≤k+1:=by
 induction k with
 | zero=>intro n h;rw [vg (by omega)];simp
 | succ k ih =>
  intro n h
  by_cases hn:n < 128
  ·
   rw [vg hn];simp
  ·
   rw [Yz hn]
   have:=ih (n / 128) (by rw [Nat.div_lt_iff_lt_mul (by omega)];exact h)
   simp only [List.length_cons];omega
theorem Zn {n:Nat} (h:n < 2 ^ 64):(enc n).length≤10:=agz 9 n (Nat.lt_of_lt_of_le h (by decide))
theorem aip:sv 2 1 0 []=by_ 2 []:=rfl
theorem ah0 (x:UInt8):sv 2 1 1 [.int .u8 x.toNat]=by_ 2 [x]:=rfl
theorem abU {k:Nat} {l:List UInt8} {x:UInt8} {S:zu} (h:Okl k l) (hk:k≠1) (hl:l.length≤140737488355000):yw zi 23 23 (by_ k l) (by_ 2 [x]) S=some (by_ 2 (l++[x]),S):=by
 rw [xB h hk Okl.own (by simp;omega),if_neg (fun h=>by have:=h.2;simp at this)]
theorem jH.round:∀ (n:Nat) (l:List UInt8) (k:Nat) {T:List Value} {S:zu} {r:St},qB (zD zi O false jH.jS) T S=r→T.length=19→T.getD 0 zh=.int .u64 n→T.getD 3 zh=by_ k l →
  Okl k l→k≠1→n * 2 ^ l.length < 2 ^ 64→∃ T' l' k' n',r=some (.exit 0,T',S)∧T'.length=19∧T'.getD 0 zh=.int .u64 (n':Nat)∧T'.getD 3 zh=by_ k' l' ∧
   Okl k' l'∧k'≠1∧n' < 128∧l'++[UInt8.ofNat n']=l++enc n:=by
 intro n
 induction n using Nat.strongRecOn with
 | _ n ih =>
  intro l k T S r hL hT h0 h3 hs hk hl
  obtain ⟨x0,x1,x2,x3,x4,x5,x6,x7,x8,x9,x10,x11,x12,x13,x14,x15,x16,x17,x18,hTe⟩:=jH.list hT
  rw [hTe] at h0 h3
  simp only [List.getD_cons_succ,List.getD_cons_zero] at h0 h3
  subst h0 h3
  have hr:zD zi O false jH.jS T S=zD zi O false jH.jS T S:=rfl
  by_cases hlt:n < 128
  ·
   have hd:decide ((128:Int)≤(n:Int))=false:=by simp;omega
   conv at hr =>
    rhs
    rw [hTe]
    simp only [jH.jS,zSs,reduceIte,zk,zn,zo,zq,jH.r2,hd]
   exact ⟨_,l,k,n,hL.symm.trans (wR hr (by simp)),rfl,rfl,rfl,hs,hk,hlt,by rw [vg hlt]⟩
  ·
   have hd:decide ((128:Int)≤(n:Int))=true:=by simp;omega
   have hll:l.length < 64:=by
    have:2 ^ l.length < 2 ^ 64:=Nat.lt_of_le_of_lt (Nat.le_mul_of_pos_left _ (by omega)) hl
    exact (Nat.pow_lt_pow_iff_right (by omega)).1 this
   have e1:∀ x S,yw zi 23 23 (by_ k l) (by_ 2 [x]) S=some (by_ 2 (l++[x]),S):=fun x S=>abU hs hk (by omega)
   conv at hr =>
    rhs
    rw [hTe]
    simp only [jH.jS,zSs,reduceIte,zk,zn,zo,zq,jH.r2,hd,jH.r3,Zm,agA,agr,J5,ah0,e1,jH.r4,V7 _ _ _ _ (show (0:Int)≤7 by omega),aiE]
   have hmul:n / 128 * 2 ^ (l.length+1) < 2 ^ 64:=by
    refine Nat.lt_of_le_of_lt ?_ hl
    rw [Nat.pow_succ,Nat.mul_comm (2 ^ l.length) 2,← Nat.mul_assoc]
    exact Nat.mul_le_mul_right _ (by omega)
   obtain ⟨T',l',k',n',g1,g2,g3,g4,g5,g6,g7,g8⟩:=ih (n / 128) (by omega) _ 2 ((y9 hr).symm.trans hL) rfl rfl rfl Okl.own (by decide) (by simpa using hmul)
   refine ⟨T',l',k',n',g1,g2,g3,g4,g5,g6,g7,?_⟩
   rw [g8,Yz hlt,List.append_assoc];rfl
theorem jH.v (n:Nat) (hn:n < 2 ^ 64) (S:zu):jc zi O jH.id [.int .u64 n] S=some (by_ 2 (enc n),S):=by
 obtain ⟨T,hTe⟩:∃ T,T=(.int .u64 n::zh::zh::zh::zh::zh::zh::zh::zh::zh::zh::zh::zh::zh::zh::zh::zh::zh::zh::[]):=⟨_,rfl⟩
 have hr:zD zi O false jH.code T S=zD zi O false jH.code T S:=rfl
 conv at hr =>
  rhs
  rw [hTe]
  simp only [jH.code,zSs,reduceIte,zk,zn,zo,zq,jH.r0,jH.r1]
 generalize hL:qB (zD zi O false jH.jS) _ _=r at hr
 obtain ⟨T',l',k',n',rfl,g2,g3,g4,g5,g6,g7,g8⟩:=jH.round n [] 0 hL rfl rfl rfl Okl.none (by decide) (by simpa using hn)
 obtain ⟨x0,x1,x2,x3,x4,x5,x6,x7,x8,x9,x10,x11,x12,x13,x14,x15,x16,x17,x18,hT'⟩:=jH.list g2
 rw [hT'] at g3 g4
 simp only [List.getD_cons_succ,List.getD_cons_zero] at g3 g4
 subst g3 g4
 have hlen:l'.length+1=(enc n).length:=by simpa using congrArg List.length g8
 have h10:=Zn hn
 have e1:∀ x S,yw zi 23 23 (by_ k' l') (by_ 2 [x]) S=some (by_ 2 (l'++[x]),S):=fun x S=>abU g5 g6 (by omega)
 conv at hr =>
  rhs
  rw [hT']
  simp only [zSs,reduceIte,zk,zn,zo,zq,jH.r5,Zm,agC,J5,ah0,e1]
 rw [hTe] at hr
 have:=jH.runs hr (.inr rfl)
 rw [List.nil_append] at g8
 rw [← g8]
 exact this
end Go.Proofs.Ytbgcphbbchndkaa
namespace Go.Proofs.Ytbgcphbbchndkaa
open Go.Abs
def scan:Nat→Nat→List UInt8→Option (Nat×List UInt8)
 | _,_,[]=>none
 | i,acc,x::r=>if (i=9∧1 < x.toNat)∨(0 < i∧x.toNat=0) then none else if x.toNat < 128 then some (acc+x.toNat * 128 ^ i,r) else scan (i+1) (acc+(x.toNat - 128) * 128 ^ i) r
theorem acV {n:Nat} (h:n < 2 ^ 64):IntKind.u64.wrap (n:Int)=(n:Int):=by
 rw [wrap_u64,Nat.mod_eq_of_lt h]
theorem agm:∀ (suf:List UInt8) (i acc:Nat),acc < 128 ^ i→i≤9→∀ m rest,scan i acc suf=some (m,rest)→m < 2 ^ 64∧rest.length < suf.length:=by
 intro suf
 induction suf with
 | nil=>intro i acc _ _ m rest h;cases h
 | cons x suf ih =>
  intro i acc hacc hi m rest h
  rw [scan] at h
  have hx256:=x.toNat_lt
  split at h
  ·
   cases h
  ·
   rename_i hs
   split at h
   ·
    rename_i hx
    cases h
    refine ⟨?_,by simp⟩
    by_cases h9:i=9
    ·
     subst h9
     have:x.toNat≤1:=by omega
     have h1:x.toNat * 128 ^ 9≤1 * 128 ^ 9:=Nat.mul_le_mul_right _ this
     have h2:(128:Nat) ^ 9+1 * 128 ^ 9=2 ^ 64:=by decide
     omega
    ·
     have h8:128 ^ (i+1)≤128 ^ 9:=Nat.pow_le_pow_right (by omega) (by omega)
     have h3:acc+x.toNat * 128 ^ i < 128 ^ (i+1):=by
      rw [Nat.pow_succ]
      have:x.toNat * 128 ^ i≤127 * 128 ^ i:=Nat.mul_le_mul_right _ (by omega)
      omega
     exact Nat.lt_of_lt_of_le h3 (Nat.le_trans h8 (by decide))
   ·
    rename_i hx
    have h9:i≠9:=by omega
    have hadd:acc+(x.toNat - 128) * 128 ^ i < 128 ^ (i+1):=by
     rw [Nat.pow_succ]
     have:(x.toNat - 128) * 128 ^ i≤127 * 128 ^ i:=Nat.mul_le_mul_right _ (by omega)
     omega
    obtain ⟨h1,h2⟩:=ih (i+1) _ hadd (by omega) m rest h
    exact ⟨h1,by simp;omega⟩
end Go.Proofs.Ytbgcphbbchndkaa
namespace Go.Proofs.Ytbgcphbbchndkaa
open Go.Abs
theorem af2 (n:Nat):0 < (enc n).length:=by
 by_cases h:n < 128
 ·
  rw [vg h];simp
 ·
  rw [Yz h];simp
section
variable {k:Nat} {l:List UInt8} {S:zu}
end
end Go.Proofs.Ytbgcphbbchndkaa
namespace Go.Proofs.Ytbgcphbbchndkaa
open Go.Abs
theorem YB {n:Nat} (h:n < 256):(UInt8.ofNat n).toNat=n:=by rw [UInt8.toNat_ofNat'];omega
theorem VA:∀ (n i acc:Nat) (r:List UInt8),i≤9→(0 < i→0 < n)→n * 128 ^ i < 2 ^ 64→scan i acc (enc n++r)=some (acc+n * 128 ^ i,r):=by
 intro n
 induction n using Nat.strongRecOn with
 | _ n ih =>
  intro i acc r hi hn hlt
  have h9:i=9→n≤1:=by
   intro h;subst h
   have:(128:Nat) ^ 9=2 ^ 63:=by decide
   omega
  by_cases hs:n < 128
  ·
   rw [vg hs,List.singleton_append,scan,YB (by omega),if_neg (by rintro (⟨h1,h2⟩ | ⟨h1,h2⟩);exact absurd (h9 h1) (by omega);exact absurd (hn h1) (by omega)),if_pos hs]
  ·
   rw [Yz hs,List.cons_append,scan,YB (by omega)]
   have hi9:i≠9:=fun h=>by have:=h9 h;omega
   rw [if_neg (by rintro (⟨h1,h2⟩ | ⟨h1,h2⟩);exact hi9 h1;omega),if_neg (by omega)]
   have hmul:n / 128 * 128 ^ (i+1)≤n * 128 ^ i:=by
    rw [Nat.pow_succ,← Nat.mul_assoc,Nat.mul_right_comm]
    exact Nat.mul_le_mul_right _ (by omega)
   rw [ih (n / 128) (by omega) (i+1) _ r (by omega) (fun _=>by omega) (Nat.lt_of_le_of_lt hmul hlt)]
   congr 2
   have:n=n % 128+n / 128 * 128:=by omega
   have e1:(n % 128+128 - 128) * 128 ^ i+n / 128 * 128 ^ (i+1)=n * 128 ^ i:=by
    rw [Nat.pow_succ]
    conv=>rhs;rw [this,Nat.add_mul]
    rw [Nat.add_sub_cancel,Nat.mul_comm (128 ^ i) 128,← Nat.mul_assoc]
   omega
theorem QW {n:Nat} (h:n < 2 ^ 64) (r:List UInt8):scan 0 0 (enc n++r)=some (n,r):=by
 rw [VA n 0 0 r (by omega) (by omega) (by simpa using h)];simp
theorem XH:∀ (l:List UInt8) (i acc m:Nat) (r:List UInt8),scan i acc l=some (m,r)→∃ n,l=enc n++r∧m=acc+n * 128 ^ i∧(0 < i→0 < n):=by
 intro l
 induction l with
 | nil=>intro i acc m r h;cases h
 | cons x l ih =>
  intro i acc m r h
  rw [scan] at h
  have hx:=x.toNat_lt
  split at h
  ·
   cases h
  ·
   rename_i hs
   split at h
   ·
    rename_i hx2
    cases h
    refine ⟨x.toNat,?_,rfl,fun hi=>by omega⟩
    rw [vg hx2];simp
   ·
    rename_i hx2
    obtain ⟨n,h1,h2,h3⟩:=ih _ _ _ _ h
    refine ⟨x.toNat - 128+n * 128,?_,?_,fun _=>?_⟩
    ·
     have hn:=h3 (by omega)
     rw [Yz (by omega),show (x.toNat - 128+n * 128) / 128=n by omega,show (x.toNat - 128+n * 128) % 128+128=x.toNat by omega,h1]
     simp
    ·
     rw [h2,Nat.pow_succ,Nat.add_mul]
     rw [Nat.mul_comm (128 ^ i) 128,← Nat.mul_assoc];omega
    ·
     have:=h3 (by omega);omega
theorem acP {l r:List UInt8} {m:Nat} (h:scan 0 0 l=some (m,r)):l=enc m++r∧m < 2 ^ 64:=by
 obtain ⟨n,h1,h2,_⟩:=XH l 0 0 m r h
 have:m=n:=by simpa using h2
 subst this
 exact ⟨h1,(agm l 0 0 (by decide) (by omega) m r h).1⟩
theorem afZ {a b:Nat} (ha:a < 2 ^ 64) (hb:b < 2 ^ 64) {r s:List UInt8} (h:enc a++r=enc b++s):a=b∧r=s:=by
 have h1:=QW ha r
 rw [h,QW hb s] at h1
 simp only [Option.some.injEq,Prod.mk.injEq] at h1
 exact ⟨h1.1.symm,h1.2.symm⟩
end Go.Proofs.Ytbgcphbbchndkaa
namespace Go.Proofs.Ytbgcphbbchndkaa
open Go.Abs
structure Tb where
 k:Nat
 b:List UInt8
structure Tb.Ok (t:Tb):Prop where
 okl:Okl t.k t.b
 ne:t.k≠2
 le:t.b.length≤140737488351232
end Go.Proofs.Ytbgcphbbchndkaa
namespace Go.Proofs.Ytbgcphbbchndkaa
open Go.Abs
def encs (l:List Int):List UInt8:=l.flatMap fun n=>enc (n+1).toNat
def aeK (k:Nat) (l:List Int):Value:=if 64 < l.length∨∃ n ∈ l,n < -1 then .tuple #[.slice none 0 0,.int .i64 11] else .tuple #[by_ (if l=[] then k else 2) (encs l),.int .i64 0]
theorem abf {n:Int} (h:-1≤n) (h2:n < 9223372036854775808):IntKind.u64.wrap (IntKind.u64.wrap n+1)=((n+1).toNat:Int):=by
 simp [IntKind.wrap,IntKind.bits,IntKind.signed]
 omega
theorem Z4 (a b:List Int):encs (a++b)=encs a++encs b:=by simp [encs]
theorem aep (n:Int):encs [n]=enc (n+1).toNat:=by simp [encs]
theorem vN {l:List Int} (h:∀ n ∈ l,n < 9223372036854775808):(encs l).length≤l.length * 10:=by
 induction l with
 | nil=>simp [encs]
 | cons n l ih =>
  have h1:=ih fun m hm=>h m (by simp [hm])
  have h2:(enc (n+1).toNat).length≤10:=Zn (by have:=h n (by simp);omega)
  simp only [encs,List.flatMap_cons,List.length_append,List.length_cons] at *
  omega
theorem zG.round {k:Nat} {l:List Int} (hv:Okl k l) (hk:k≠2) (h64:l.length≤64) (hb:∀ n ∈ l,n < 9223372036854775808) {S:zu}:∀ (suf pre:List Int) {T:List Value} {r:St},qB (zD zi O false zG.jS) T S=r→T.length=26 →
  T.getD 10 zh=iz k l→T.getD 11 zh=.int .i64 l.length→T.getD 12 zh=.int .i64 pre.length→T.getD 4 zh=by_ (if pre=[] then 0 else 2) (encs pre)→l=pre++suf →
  ∃ e T',r=some (e,T',S)∧if (∃ n ∈ suf,n < -1) then e=.ret∧T'.getD 2 zh=.slice none 0 0∧T'.getD 3 zh=.int .i64 11 else e=.exit 0∧T'.length=26∧T'.getD 4 zh=by_ (if l=[] then 0 else 2) (encs l):=by
 intro suf
 induction suf with
 | nil =>
  intro pre T r hL hT ha hb hc h4 hl
  have hTe:=zG.eta hT
  rw [ha,hb,hc,h4] at hTe
  have hr:zD zi O false zG.jS T S=zD zi O false zG.jS T S:=rfl
  have hd:¬ (pre.length:Int) < (l.length:Int):=by rw [hl];simp
  conv at hr =>
   rhs
   rw [hTe]
   simp only [zG.jS,zG.code,zG.rs,zSs,reduceIte,zk,zn,zo,zq,hd]
  refine ⟨_,_,hL.symm.trans (wR hr (by simp)),?_⟩
  rw [if_neg (by simp)]
  simp only [List.append_nil] at hl
  subst hl
  exact ⟨rfl,rfl,rfl⟩
 | cons n suf ih =>
  intro pre T r hL hT ha hbb hc h4 hl
  have hTe:=zG.eta hT
  rw [ha,hbb,hc,h4] at hTe
  have hr:zD zi O false zG.jS T S=zD zi O false zG.jS T S:=rfl
  have hll:l.length=pre.length+(suf.length+1):=by rw [hl];simp
  have hlt:(pre.length:Int) < (l.length:Int):=by omega
  have e1:∀ S,jw zi 57 (iz k l) (.int .i64 pre.length) S=some (EP [.int .i64 n],S):=fun S=>by
   rw [ais hv (by omega) hlt];rw [abI hl]
  have hn:=hb n (by rw [hl];simp)
  by_cases h1:n < -1
  ·
   conv at hr =>
    rhs
    rw [hTe]
    simp only [zG.jS,zG.code,zG.rs,zSs,reduceIte,zk,zn,zo,zq,hlt,e1,acg,h1]
   refine ⟨_,_,hL.symm.trans (wR hr (by simp)),?_⟩
   rw [if_pos ⟨n,by simp,h1⟩]
   exact ⟨rfl,rfl,rfl⟩
  ·
   have w1:=abf (n:=n) (by omega) (by omega)
   have hpb:(encs pre).length≤pre.length * 10:=vN fun m hm=>hb m (by rw [hl];simp [hm])
   have hp10:(enc (n+1).toNat).length≤10:=Zn (by omega)
   have hpp:=af2 (n+1).toNat
   have g1:=fun S=>jH.v (n+1).toNat (by omega) S
   have e2:∀ S,yw zi 23 23 (by_ (if pre=[] then 0 else 2) (encs pre)) (by_ 2 (enc (n+1).toNat)) S=some (by_ 2 (encs (pre++[n])),S):=fun S=>by
    have ok:Okl (if pre=[] then 0 else 2) (encs pre):=⟨by split <;> omega,fun h=>by split at h <;> first | (rename_i hp;subst hp;rfl) | omega⟩
    rw [xB ok (by split <;> omega) Okl.own (by omega),if_neg (fun h=>by have:=h.2;omega),Z4,aep]
   have wi:IntKind.i64.wrap ((pre.length:Int)+1)=((pre++[n]).length:Int):=by rw [wrap_i64 (by omega) (by omega)];simp
   conv at hr =>
    rhs
    rw [hTe]
    simp only [zG.jS,zG.code,zG.rs,zSs,reduceIte,zk,zn,zo,zq,hlt,e1,acg,h1,Jf,w1,g1,e2,wi]
   obtain ⟨e,T',g1,g2⟩:=ih (pre++[n]) ((y9 hr).symm.trans hL) rfl rfl rfl rfl (by rw [if_neg (show ¬ pre++[n]=[] by simp)];rfl) (by simp [hl])
   refine ⟨e,T',g1,?_⟩
   by_cases h2:∃ m ∈ suf,m < -1
   ·
    rw [if_pos h2] at g2
    obtain ⟨m,hm,hm2⟩:=h2
    rw [if_pos ⟨m,by simp [hm],hm2⟩]
    exact g2
   ·
    rw [if_neg h2] at g2
    rw [if_neg (by rintro ⟨m,hm,hm2⟩;rcases List.mem_cons.1 hm with rfl | hm;exact h1 hm2;exact h2 ⟨m,hm,hm2⟩)]
    exact g2
theorem zG.v {k:Nat} {l:List Int} (hv:Okl k l) (hk:k≠2) (hb:∀ n ∈ l,n < 9223372036854775808) (S:zu):jc zi O zG.id [iz k l] S=some (aeK 0 l,S):=by
 obtain ⟨T,hTe⟩:∃ T,T=(iz k l::zh::zh::zh::zh::zh::zh::zh::zh::zh::zh::zh::zh::zh::zh::zh::zh::zh::zh::zh::zh::zh::zh::zh::zh::zh::[]):=⟨_,rfl⟩
 have hr:zD zi O false zG.code T S=zD zi O false zG.code T S:=rfl
 unfold aeK
 by_cases h1:64 < l.length
 ·
  have d1:(64:Int) < (l.length:Int):=by omega
  conv at hr =>
   rhs
   rw [hTe]
   simp only [zG.code,zG.rs,zSs,reduceIte,zk,zn,zo,zq,if_neg hk,afp hv,goInt,d1]
  rw [hTe] at hr
  rw [if_pos (.inl h1)]
  exact zG.runs hr (.inr rfl) (by simp only [List.getD_cons_succ,List.getD_cons_zero,yP,yx,wF,wW,yA]) (by simp only [List.getD_cons_succ,List.getD_cons_zero,yP,yx,wF,wW,yA])
 ·
  have d1:¬ (64:Int) < (l.length:Int):=by omega
  conv at hr =>
   rhs
   rw [hTe]
   simp only [zG.code,zG.rs,zSs,reduceIte,zk,zn,zo,zq,if_neg hk,afp hv,goInt,d1,Xn,aip]
  generalize hL:qB (zD zi O false zG.jS) _ _=r at hr
  obtain ⟨e,T',rfl,g⟩:=zG.round hv hk (by omega) hb l [] hL rfl rfl rfl rfl rfl rfl
  by_cases h2:∃ n ∈ l,n < -1
  ·
   rw [if_pos h2] at g
   obtain ⟨rfl,g2,g3⟩:=g
   conv at hr =>
    rhs
    simp only [zSs,reduceIte,zk,zn,zo,zq]
   rw [hTe] at hr
   rw [if_pos (.inr h2)]
   have hrun:=zG.runs hr (.inr rfl) (by rw [g2];rfl) (by rw [g3];rfl)
   rw [g2,g3] at hrun
   exact hrun
  ·
   rw [if_neg h2] at g
   obtain ⟨rfl,g2,g3⟩:=g
   have hTe':=zG.eta g2
   rw [g3] at hTe'
   conv at hr =>
    rhs
    rw [hTe']
    simp only [zG.code,zG.rs,zSs,reduceIte,zk,zn,zo,zq]
   rw [hTe] at hr
   rw [if_neg (by rintro (h | h);exact h1 h;exact h2 h)]
   exact zG.runs hr (.inr rfl) (by simp only [List.getD_cons_succ,List.getD_cons_zero,yP,yx,wF,wW,yA]) (by simp only [List.getD_cons_succ,List.getD_cons_zero,yP,yx,wF,wW,yA])
end Go.Proofs.Ytbgcphbbchndkaa
namespace Go.Proofs.Ytbgcphbbchndkaa
open Go.Abs
def XD:Nat→List UInt8→Option (List Int×List UInt8)
 | 0,l=>some ([],l)
 | m+1,l=>match scan 0 0 l with
  | some (n,r)=>if n≤4611686018427387905 then (match XD m r with
   | some (a,b)=>some (((n:Int) - 1)::a,b)
   | none=>none) else none
  | none=>none
end Go.Proofs.Ytbgcphbbchndkaa
namespace Go.Proofs.Ytbgcphbbchndkaa
open Go.Abs
def Few (n:Int):Prop:=-1≤n∧n≤4611686018427387904
theorem JV:∀ (m:Nat) (l:List UInt8) (a:List Int) (b:List UInt8),XD m l=some (a,b) ↔ a.length=m∧l=encs a++b∧∀ n ∈ a,Few n:=by
 intro m
 induction m with
 | zero =>
  intro l a b
  constructor
  ·
   intro h;cases h;exact ⟨rfl,rfl,fun n h=>by cases h⟩
  ·
   rintro ⟨h1,h2,_⟩
   have:a=[]:=List.length_eq_zero_iff.mp h1
   subst this
   rw [h2];rfl
 | succ m ih =>
  intro l a b
  rw [XD]
  constructor
  ·
   intro h
   cases hsc:scan 0 0 l with
   | none=>rw [hsc] at h;cases h
   | some nr =>
    obtain ⟨n,r⟩:=nr
    rw [hsc] at h
    dsimp only at h
    split at h
    ·
     rename_i hn
     cases hr:XD m r with
     | none=>rw [hr] at h;cases h
     | some ab =>
      obtain ⟨a',b'⟩:=ab
      rw [hr] at h
      obtain ⟨h1,h2,h3⟩:=(ih r a' b').mp hr
      cases h
      obtain ⟨f1,f2⟩:=acP hsc
      refine ⟨by simp [h1],?_,fun x hx=>?_⟩
      ·
       rw [f1,h2]
       have:((n:Int) - 1+1).toNat=n:=by omega
       simp [encs,this]
      ·
       rcases List.mem_cons.1 hx with rfl | hx
       ·
        unfold Few;omega
       ·
        exact h3 x hx
    ·
     cases h
  ·
   rintro ⟨h1,h2,h3⟩
   cases a with
   | nil=>simp at h1
   | cons x a =>
    have hx:Few x:=h3 x (by simp)
    unfold Few at hx
    have he:encs (x::a)++b=enc (x+1).toNat++(encs a++b):=by simp [encs]
    rw [h2,he,QW (by omega)]
    dsimp only
    rw [if_pos (by omega),(ih (encs a++b) a b).mpr ⟨by simpa using h1,rfl,fun n hn=>h3 n (by simp [hn])⟩]
    have:((x+1).toNat:Int) - 1=x:=by omega
    simp only [this]
theorem WL {a c:List Int} {b d:List UInt8} (h:a.length=c.length) (ha:∀ n ∈ a,Few n) (hc:∀ n ∈ c,Few n) (he:encs a++b=encs c++d):a=c∧b=d:=by
 have h1:=(JV a.length (encs a++b) a b).mpr ⟨rfl,rfl,ha⟩
 have h2:=(JV a.length (encs a++b) c d).mpr ⟨h.symm,he,hc⟩
 rw [h1] at h2
 simpa using h2
theorem WH {k:Nat} {l:List Int} (h:l.length≤64) (h1:∀ n ∈ l,-1≤n) (h0:l≠[]):aeK k l=.tuple #[by_ 2 (encs l),.int .i64 0]:=by
 unfold aeK
 rw [if_neg (by rintro (h2 | ⟨n,h2,h3⟩);{ omega };{ have:=h1 n h2;omega }),if_neg h0]
end Go.Proofs.Ytbgcphbbchndkaa
namespace Go.Proofs.Ytbgcphbbchndkaa
open Go.Abs
def txB (t:TxV):List UInt8:=encs [t.id,t.fee]
def ahF (t:TxV):Value:=if qp t then .tuple #[by_ 2 (txB t),.int .i64 0] else .tuple #[.slice none 0 0,.int .i64 61]
theorem VI {t:TxV} (h:qp t=true):(txB t).length≤20:=by
 obtain ⟨h1,h2,h3,h4⟩:=vG.mp h
 have:=vN (l:=[t.id,t.fee]) (by intro n hn;simp at hn;rcases hn with rfl | rfl <;> omega)
 exact this
theorem agH (x y:Int):sv 2 1 2 [.int .i64 x,.int .i64 y]=iz 2 [x,y]:=rfl
theorem jP.v (t:TxV) (S:zu):jc zi O jP.id [tv t] S=some (ahF t,S):=by
 obtain ⟨T,hTe⟩:∃ T,T=(tv t::zh::zh::zh::zh::zh::zh::zh::zh::zh::zh::zh::zh::zh::zh::zh::zh::zh::zh::[]):=⟨_,rfl⟩
 have hr:zD zi O false jP.code T zu.empty=zD zi O false jP.code T zu.empty:=rfl
 have l0:=yT (t:=3) (o:=0+0) (Jy t) Zt rfl
 have l1:=yT (t:=3) (o:=0+1) (Jy t) Zt rfl
 have lt:=Xj (Jy t)
 unfold ahF
 by_cases h:qp t=true
 ·
  have hh:=vG.mp h
  have c1:=fun S=>zG.v (l:=[t.id,t.fee]) Okl.read (by decide) (by simp;omega) S
  conv at hr =>
   rhs
   rw [hTe]
   simp only [jP.code,jP.rs,zSs,reduceIte,zk,zn,zo,zq,box1,lt,kS,wH.v,h,vV,ZV,l0,l1,aby,agH,c1,WH (l:=[t.id,t.fee]) (by simp) (by simp;omega) (by simp)]
  rw [hTe] at hr
  rw [if_pos h]
  exact jP.runs hr (.inr rfl) (by simp only [List.getD_cons_succ,List.getD_cons_zero,yP,yx,wF,wW,yA]) rfl rfl (vP (all2 (WI (k:=2) (Nat.le_refl 2)) rfl))
 ·
  rw [Bool.not_eq_true] at h
  conv at hr =>
   rhs
   rw [hTe]
   simp only [jP.code,jP.rs,zSs,reduceIte,zk,zn,zo,zq,box1,lt,kS,wH.v,h]
  rw [hTe] at hr
  rw [if_neg (by rw [h];decide)]
  exact jP.runs hr (.inr rfl) rfl rfl rfl rfl
theorem adU (S:zu):yc zi 25 S=some (.pointer (some ⟨S.next,0,none⟩),S.push (.cells (fT ⟨0,0⟩) (.own []) 0)):=by kernel_rfl
theorem ahO (S:zu) (t:TxV):∃ S2,wo zi 25 (.pointer (some ⟨S.next,0,none⟩)) (tv t) (S.push (.cells (fT ⟨0,0⟩) (.own []) 0))=some (zh,S2)∧S2.get S.next=some (.cells (fT t) (.own []) 0)∧Ext S S2∧S.next < S2.next :=
 YH S (by rw [yV,List.toList_toArray];rfl) kR rfl rfl
theorem ahH {S:zu} {q:Nat} {t:TxV} (h:S.get q=some (.cells (fT t) (.own []) 0)):zQ zi false 25 (.pointer (some ⟨q,0,none⟩)) S=some (tv t,S):=Xj h
theorem afb {S:zu} {q:Nat} {t:TxV} (h:S.get q=some (.cells (fT t) (.own []) 0)):zQ zi false 3 (.pointer (some ⟨q,0+0,none⟩)) S=some (.int .i64 t.id,S):=yT (t:=3) (o:=0+0) h Zt rfl
theorem agM {a b:TxV} {r s:List UInt8} (ha:qp a=true) (hb:qp b=true) (h:txB a++r=txB b++s):a=b∧r=s:=by
 obtain ⟨a1,a2,a3,a4⟩:=vG.mp ha
 obtain ⟨b1,b2,b3,b4⟩:=vG.mp hb
 obtain ⟨h1,h2⟩:=WL (a:=[a.id,a.fee]) (c:=[b.id,b.fee]) rfl (by simp [Few];omega) (by simp [Few];omega) h
 refine ⟨?_,h2⟩
 cases a;cases b
 simp at h1
 rw [h1.1,h1.2]
end Go.Proofs.Ytbgcphbbchndkaa
namespace Go.Abs
variable {K:Type}
def MapAt (enc:K→Value) (S:zu) (q:Nat) (m:List (K×Value)):Prop :=
 ∃ es c,S.get q=some (.map es c)∧es.map (fun e=>(e.key,e.val))=m.map fun p=>(enc p.1,p.2)
theorem agB {P:Program} {t:TypeId} (enc:K→Value) (S:zu):∃ S2,kT P t none S=some (.map (some S.next),S2)∧MapAt enc S2 S.next []∧S2.next=S.next+1∧(∀ j,j < S.next→S2.get j=S.get j)∧Ext S S2 :=
 ⟨_,rfl,⟨[],0,by rw [zu.jE,if_pos rfl],rfl⟩,by simp,fun j hj=>by rw [zu.jE,if_neg (by omega)],Ext.push _ _⟩
theorem MapAt.keep {enc:K→Value} {S:zu} {q:Nat} {m:List (K×Value)} {S2:zu} (h:MapAt enc S q m) (hg:S2.get q=S.get q):MapAt enc S2 q m:=by
 obtain ⟨es,c,h1,h2⟩:=h
 exact ⟨es,c,hg.trans h1,h2⟩
variable [DecidableEq K]
def aa2:List (K×Value)→K→Option Value
 | [],_=>none
 | (a,v)::m,k=>if a=k then some v else aa2 m k
def midx:List (K×Value)→K→Nat
 | [],_=>0
 | (a,_)::m,k=>if a=k then 0 else midx m k+1
def aha:List (K×Value)→K→Value→List (K×Value)
 | [],k,x=>[(k,x)]
 | (a,v)::m,k,x=>if a=k then (k,x)::m else (a,v)::aha m k x
theorem aao {m:List (K×Value)} {k:K} {x:Value} (h:aa2 m k=none):aha m k x=m++[(k,x)]:=by
 induction m with
 | nil=>rfl
 | cons p m ih =>
  obtain ⟨a,v⟩:=p
  unfold aa2 at h
  split at h
  ·
   cases h
  ·
   rename_i hn
   simp only [aha,if_neg hn,ih h,List.cons_append]
structure ad3 (enc:K→Value) (kd:TypeDesc):Prop where
 kind:∀ k,Z5 kd (enc k)=true
 same:∀ a b,Instr.sameNow kd (enc a) (enc b)=some (decide (a=b))
theorem abH:ad3 (fun n:Int=>Value.int .i64 n) (.int .i64):=⟨fun _=>rfl,fun a b=>by
 show (if IntKind.i64=IntKind.i64 then some (a == b) else none)=_
 rw [if_pos rfl];by_cases h:a=b <;> simp [h]⟩
theorem Yi {enc:K→Value} {kd:TypeDesc} (hK:ad3 enc kd) (k:K):∀ (es:List MapEntry) (m:List (K×Value)) (i:Nat),es.map (fun e=>(e.key,e.val))=m.map (fun p=>(enc p.1,p.2)) →
  Instr.findNow kd (enc k) es i=some ((aa2 m k).map fun v=>(i+midx m k,v)):=by
 intro es
 induction es with
 | nil =>
  intro m i h
  cases m with
  | nil=>rfl
  | cons p m=>simp at h
 | cons e es ih =>
  intro m i h
  cases m with
  | nil=>simp at h
  | cons p m =>
   obtain ⟨a,v⟩:=p
   simp only [List.map_cons,List.cons.injEq,Prod.mk.injEq] at h
   obtain ⟨⟨h1,h2⟩,h3⟩:=h
   simp only [Instr.findNow,h1,hK.same,aa2,midx]
   by_cases hk:k=a
   ·
    simp [hk,h2]
   ·
    rw [decide_eq_false hk,if_neg (fun h=>hk h.symm),if_neg (fun h=>hk h.symm)]
    simp only []
    rw [ih m (i+1) h3]
    congr 2
    funext x
    congr 1
    omega
theorem adI {enc:K→Value} {k:K} {x:Value}:∀ (es:List MapEntry) (m:List (K×Value)),es.map (fun e=>(e.key,e.val))=m.map (fun p=>(enc p.1,p.2))→aa2 m k≠none →
  (es.modify (midx m k) fun e=>{ e with key:=enc k,val:=x }).map (fun e=>(e.key,e.val))=(aha m k x).map fun p=>(enc p.1,p.2):=by
 intro es
 induction es with
 | nil =>
  intro m h hn
  cases m with
  | nil=>exact absurd rfl hn
  | cons p m=>simp at h
 | cons e es ih =>
  intro m h hn
  cases m with
  | nil=>simp at h
  | cons p m =>
   obtain ⟨a,v⟩:=p
   simp only [List.map_cons,List.cons.injEq,Prod.mk.injEq] at h
   obtain ⟨⟨h1,h2⟩,h3⟩:=h
   simp only [midx,aha]
   by_cases hk:a=k
   ·
    simp [hk,h3]
   ·
    rw [if_neg hk,if_neg hk,List.modify_succ_cons]
    have hn':aa2 m k≠none:=by unfold aa2 at hn;rwa [if_neg hk] at hn
    simp only [List.map_cons,ih m h3 hn',h1,h2]
variable {P:Program} {t kt et:TypeId} {kd:TypeDesc} {z:Value} {enc:K→Value} {S S0:zu} {q:Nat} {m:List (K×Value)}
theorem agL (hK:ad3 enc kd) (hm:MapAt enc S q m) (ht:P.underlying t=some (.map kt et)) (hk:P.underlying kt=some kd) (hz:zeroOf P et=some z) (hg:ground z=true) (k:K) :
  xP P false t (.map (some q)) (enc k) false S=some ((aa2 m k).getD z,S):=by
 obtain ⟨es,c,h1,h2⟩:=hm
 unfold xP wP
 simp only [Bool.false_eq_true,if_false,ht,hk,hK.kind,if_true,h1,Yi hK k es m 0 h2]
 cases aa2 m k with
 | none=>simp [hz,hg]
 | some v=>simp
theorem agG (hK:ad3 enc kd) (hm:MapAt enc S q m) (ht:P.underlying t=some (.map kt et)) (hk:P.underlying kt=some kd) (k:K) (x:Value) :
  ∃ S2,wS P t (.map (some q)) (enc k) x S=some (zh,S2)∧MapAt enc S2 q (aha m k x)∧S2.next=S.next∧(∀ j,j≠q→S2.get j=S.get j)∧(∀ S0,Ext S0 S→S0.next≤q→Ext S0 S2):=by
 obtain ⟨es,c,h1,h2⟩:=hm
 unfold wS
 simp only [ht,hk,hK.kind,if_true,h1,Yi hK k es m 0 h2]
 cases hg:aa2 m k with
 | none =>
  refine ⟨_,rfl,⟨es++[{ key:=enc k,val:=x,born:=c }],c+1,by rw [zu.jU,if_pos rfl],?_⟩,by simp,fun j hj=>by rw [zu.jU,if_neg hj],fun S0 hE hq=>hE.set hq _⟩
  rw [aao hg]
  simp [h2]
 | some v =>
  refine ⟨_,rfl,⟨_,c,by simp only [Option.map_some,Nat.zero_add,zu.jU,if_true],adI es m h2 (by rw [hg];simp)⟩,by simp,fun j hj=>by rw [zu.jU,if_neg hj],fun S0 hE hq=>hE.set hq _⟩
end Go.Abs
namespace Go.Proofs.Ytbgcphbbchndkaa
open Go.Abs
abbrev tl (k:Nat) (l:List TxV):Value:=vs fT 2 k l
theorem acR (t:TxV):(fT t).length=2:=rfl
theorem ahj (t:TxV):(fT t).all (·.oneCell')=true:=rfl
theorem Zu {k:Nat} {l:List TxV} {S:zu} (h:Okl k l):ZO zi 26 (tl k l) S=some (.int .i64 l.length,S):=acv qA h
theorem Qa {k:Nat} {l pre suf:List TxV} {t:TxV} {S:zu} (h:Okl k l) (hl:l=pre++t::suf):jw zi 26 (tl k l) (.int .i64 pre.length) S=some (EP [.int .i64 t.id,.int .i64 t.fee],S):=by
 have h1:(pre.length:Int) < (l.length:Int):=by rw [hl];simp;omega
 rw [agX qA kR acR h (by omega) h1,afJ hl];rfl
theorem aax {α:Type} (g:α→Int) (v:Value) (l:List α) (k:Int):aa2 (l.map fun t=>(g t,v)) k=if k ∈ l.map g then some v else none:=by
 induction l with
 | nil=>rfl
 | cons t l ih =>
  simp only [List.map_cons,aa2,ih,List.mem_cons]
  by_cases h:g t=k
  ·
   simp [h]
  ·
   have h':¬ k=g t:=fun e=>h e.symm
   simp [h,h']
abbrev kI:Int→Value:=fun n=>.int .i64 n
def unl (l:List TxV):Bool:=decide ((l.map TxV.id).Nodup) && decide (l.length≤3)
theorem zO.round {k:Nat} {l:List TxV} (hk:Okl k l) (hl:l.length≤8796093022208) {q:Nat}:∀ (suf pre:List TxV) {T:List Value} {S:zu} {r:St},qB (zD zi O false zO.jS) T S=r→T.length=24 →
  T.getD 0 zh=tl k l→T.getD 3 zh=.map (some q)→T.getD 7 zh=tl k l→T.getD 8 zh=.int .i64 l.length→T.getD 9 zh=.int .i64 pre.length→l=pre++suf →
  MapAt kI S q (pre.map fun t=>(t.id,.bool true))→q < S.next→(pre.map TxV.id).Nodup →
  ∃ e T' S',r=some (e,T',S')∧if (l.map TxV.id).Nodup then e=.exit 0∧T'.length=24∧T'.getD 0 zh=tl k l else e=.ret∧T'.getD 2 zh=.bool false:=by
 intro suf
 induction suf with
 | nil =>
  intro pre T S r hL hT h0 h3 h7 h8 h9 hpre hm hq hn
  have hTe:=zO.eta hT
  rw [h0,h3,h7,h8,h9] at hTe
  have hr:zD zi O false zO.jS T S=zD zi O false zO.jS T S:=rfl
  have d1:¬ (pre.length:Int) < (l.length:Int):=by rw [hpre];simp
  conv at hr =>
   rhs
   rw [hTe]
   simp only [zO.jS,zO.code,zO.rs,zSs,reduceIte,zk,zn,zo,zq,d1]
  refine ⟨_,_,_,hL.symm.trans (wR hr (by simp)),?_⟩
  rw [if_pos (by rw [hpre,List.append_nil];exact hn)]
  exact ⟨rfl,rfl,rfl⟩
 | cons t suf ih =>
  intro pre T S r hL hT h0 h3 h7 h8 h9 hpre hm hq hn
  have hTe:=zO.eta hT
  rw [h0,h3,h7,h8,h9] at hTe
  have hr:zD zi O false zO.jS T S=zD zi O false zO.jS T S:=rfl
  have d1:(pre.length:Int) < (l.length:Int):=by rw [hpre];simp;omega
  have e1:=fun S=>Qa (S:=S) hk hpre
  have wi:IntKind.i64.wrap ((pre.length:Int)+1)=((pre++[t]).length:Int):=by rw [wrap_i64 (by omega) (by omega)];simp
  obtain ⟨S2,p1,p2,p3,p4⟩:=ahO S t
  have hm2:MapAt kI S2 q (pre.map fun t=>(t.id,.bool true)):=hm.keep (p3.get q hq)
  have m1:xP zi false 100 (.map (some q)) (.int .i64 t.id) false S2=_:=agL abH hm2 Wi aeP ahL rfl t.id
  rw [aax] at m1
  by_cases ht:t.id ∈ pre.map TxV.id
  ·
   rw [if_pos ht] at m1
   conv at hr =>
    rhs
    rw [hTe]
    simp only [zO.jS,zO.code,zO.rs,zSs,reduceIte,zk,zn,zo,zq,d1,e1,kL,adU,p1,vV,afb p2,m1,Option.getD_some]
   refine ⟨_,_,_,hL.symm.trans (wR hr (by simp)),?_⟩
   rw [if_neg (by rw [hpre];simp only [List.map_append,List.map_cons,List.nodup_append];intro h;exact h.2.2 _ ht _ (by simp) rfl)]
   exact ⟨rfl,rfl⟩
  ·
   rw [if_neg ht] at m1
   obtain ⟨S3,u1,u2,u3,u4,u5⟩:=agG abH hm2 Wi aeP t.id (.bool true)
   have u1':wS zi 100 (.map (some q)) (.int .i64 t.id) (.bool true) S2=some (zh,S3):=u1
   rw [aao (by rw [aax,if_neg ht])] at u2
   conv at hr =>
    rhs
    rw [hTe]
    simp only [zO.jS,zO.code,zO.rs,zSs,reduceIte,zk,zn,zo,zq,d1,e1,kL,adU,p1,vV,afb p2,m1,Option.getD_none,u1',wi]
   refine ih (pre++[t]) ((y9 hr).symm.trans hL) rfl rfl rfl rfl rfl rfl (by simp [hpre]) (by simpa using u2) (by omega) ?_
   simp only [List.map_append,List.map_cons,List.map_nil,List.nodup_append]
   exact ⟨hn,by simp,fun a ha b hb=>by simp at hb;subst hb;exact fun h=>ht (h ▸ ha)⟩
theorem zO.v {k:Nat} {l:List TxV} (hk:Okl k l) (k2:k≠2) (hl:l.length≤8796093022208) (S:zu):jc zi O zO.id [tl k l] S=some (.bool (unl l),S):=by
 obtain ⟨T,hTe⟩:∃ T,T=(tl k l::zh::zh::zh::zh::zh::zh::zh::zh::zh::zh::zh::zh::zh::zh::zh::zh::zh::zh::zh::zh::zh::zh::zh::[]):=⟨_,rfl⟩
 have hr:zD zi O false zO.code T zu.empty=zD zi O false zO.code T zu.empty:=rfl
 obtain ⟨S1,m1,m2,m3,m4,m5⟩:=agB (P:=zi) (t:=100) kI zu.empty
 conv at hr =>
  rhs
  rw [hTe]
  simp only [zO.code,zO.rs,zSs,reduceIte,zk,zn,zo,zq,m1,if_neg k2,Zu hk]
 generalize hL:qB (zD zi O false zO.jS) _ _=r at hr
 obtain ⟨e,T',S',rfl,g⟩:=zO.round hk hl l [] hL rfl rfl rfl rfl rfl rfl rfl m2 (by omega) List.nodup_nil
 unfold unl
 by_cases h:(l.map TxV.id).Nodup
 ·
  rw [if_pos h] at g
  obtain ⟨rfl,g2,g3⟩:=g
  have hTe':=zO.eta g2
  rw [g3] at hTe'
  have d3:decide ((l.length:Int)≤3)=decide (l.length≤3):=decide_eq_decide.mpr (by omega)
  conv at hr =>
   rhs
   rw [hTe']
   simp only [zO.code,zO.rs,zSs,reduceIte,zk,zn,zo,zq,if_neg k2,Zu hk,d3]
  rw [hTe] at hr
  rw [decide_eq_true h,Bool.true_and]
  exact zO.runs hr (.inr rfl) (all1 (ZF hk.le fun _ _=>rfl)) rfl
 ·
  rw [if_neg h] at g
  obtain ⟨rfl,g2⟩:=g
  conv at hr =>
   rhs
   simp only [zSs,reduceIte,zk,zn,zo,zq]
  rw [hTe] at hr
  rw [decide_eq_false h,Bool.false_and]
  have hrun:=zO.runs (S:=S) hr (.inr rfl) (all1 (ZF hk.le fun _ _=>rfl)) (by rw [g2];rfl)
  rw [g2] at hrun
  exact hrun
def Jw (l:List TxV):Bool:=unl l && l.all qp
def flat (l:List TxV):List Int:=l.flatMap fun t=>[t.id,t.fee]
def adP (l:List TxV):List UInt8:=encs ((l.length:Int)::flat l)
def ah2 (l:List TxV):Value:=if Jw l then .tuple #[by_ 2 (adP l),.int .i64 0] else .tuple #[.slice none 0 0,.int .i64 61]
theorem Vx (a b:List TxV):flat (a++b)=flat a++flat b:=by simp [flat]
theorem KP (l:List TxV):(flat l).length=2 * l.length:=by
 induction l with
 | nil=>rfl
 | cons t l ih=>rw [show flat (t::l)=[t.id,t.fee]++flat l from rfl,List.length_append,ih];simp;omega
theorem aaj {l:List TxV} (h:∀ t ∈ l,qp t=true):∀ n ∈ flat l,0≤n∧n≤1000000:=by
 intro n hn
 simp only [flat,List.mem_flatMap] at hn
 obtain ⟨t,h1,h2⟩:=hn
 obtain ⟨b1,b2,b3,b4⟩:=vG.mp (h t h1)
 simp at h2
 omega
theorem ZH (l:List TxV):adP l=encs [(l.length:Int)]++encs (flat l):=Z4 [(l.length:Int)] (flat l)
theorem Jz {l:List TxV} (h:∀ t ∈ l,qp t=true):(encs (flat l)).length≤20 * l.length:=by
 have h1:=vN (l:=flat l) (fun n hn=>by have:=aaj h n hn;omega)
 rw [KP] at h1
 omega
theorem zX.round {k:Nat} {l:List TxV} (hk:Okl k l) (hl:l.length≤3) {A:List UInt8} (hA:A.length≤100):∀ (suf pre:List TxV) {T:List Value} {S:zu} {r:St},qB (zD zi O false zX.jS) T S=r→T.length=39 →
  T.getD 4 zh=by_ 2 (A++encs (flat pre))→T.getD 20 zh=tl k l→T.getD 21 zh=.int .i64 l.length→T.getD 22 zh=.int .i64 pre.length→l=pre++suf→(∀ t ∈ pre,qp t=true) →
  ∃ e T' S',r=some (e,T',S')∧if l.all qp=true then e=.exit 0∧T'.length=39∧T'.getD 4 zh=by_ 2 (A++encs (flat l)) else e=.ret∧T'.getD 2 zh=.slice none 0 0∧T'.getD 3 zh=.int .i64 61:=by
 intro suf
 induction suf with
 | nil =>
  intro pre T S r hL hT h4 h20 h21 h22 hpre hp
  have hTe:=zX.eta hT
  rw [h4,h20,h21,h22] at hTe
  have hr:zD zi O false zX.jS T S=zD zi O false zX.jS T S:=rfl
  have d1:¬ (pre.length:Int) < (l.length:Int):=by rw [hpre];simp
  conv at hr =>
   rhs
   rw [hTe]
   simp only [zX.jS,zX.code,zX.rs,zSs,reduceIte,zk,zn,zo,zq,d1]
  refine ⟨_,_,_,hL.symm.trans (wR hr (by simp)),?_⟩
  rw [List.append_nil] at hpre
  rw [hpre,if_pos (List.all_eq_true.mpr hp)]
  exact ⟨rfl,rfl,rfl⟩
 | cons t suf ih =>
  intro pre T S r hL hT h4 h20 h21 h22 hpre hp
  have hTe:=zX.eta hT
  rw [h4,h20,h21,h22] at hTe
  have hr:zD zi O false zX.jS T S=zD zi O false zX.jS T S:=rfl
  have d1:(pre.length:Int) < (l.length:Int):=by rw [hpre];simp;omega
  have e1:=fun S=>Qa (S:=S) hk hpre
  have wi:IntKind.i64.wrap ((pre.length:Int)+1)=((pre++[t]).length:Int):=by rw [wrap_i64 (by omega) (by omega)];simp
  obtain ⟨S2,p1,p2,p3,p4⟩:=ahO S t
  have c1:∀ S,jc zi O 33 [.agg [Value.int .i64 t.id,.int .i64 t.fee].toArray] S=some (ahF t,S):=fun S=>jP.v t S
  unfold ahF at c1
  by_cases ht:qp t=true
  ·
   rw [if_pos ht] at c1
   have hb:=VI ht
   have hf:=Jz hp
   have hpl:pre.length≤3:=by omega
   have ap:∀ S,yw zi 23 23 (by_ 2 (A++encs (flat pre))) (by_ 1 (txB t)) S=some (by_ 2 (A++encs (flat (pre++[t]))),S):=fun S=>by
    rw [xB Okl.own (by decide) Okl.read (by simp;omega),Vx,Z4,← List.append_assoc];rfl
   conv at hr =>
    rhs
    rw [hTe]
    simp only [zX.jS,zX.code,zX.rs,zSs,reduceIte,zk,zn,zo,zq,d1,e1,kL,adU,p1,ahH p2,c1,ap,wi]
   exact ih (pre++[t]) ((y9 hr).symm.trans hL) rfl rfl rfl rfl rfl (by simp [hpre]) (fun x hx=>by rcases List.mem_append.1 hx with h | h;{ exact hp x h };{ simp at h;rw [h];exact ht })
  ·
   rw [if_neg ht] at c1
   conv at hr =>
    rhs
    rw [hTe]
    simp only [zX.jS,zX.code,zX.rs,zSs,reduceIte,zk,zn,zo,zq,d1,e1,kL,adU,p1,ahH p2,c1]
   refine ⟨_,_,_,hL.symm.trans (wR hr (by simp)),?_⟩
   rw [if_neg (by rw [hpre];simp [ht])]
   exact ⟨rfl,rfl,rfl⟩
theorem zX.v {k:Nat} {l:List TxV} (hk:Okl k l) (k2:k≠2) (hl:l.length≤8796093022208) (S:zu):jc zi O zX.id [tl k l] S=some (ah2 l,S):=by
 obtain ⟨T,hTe⟩:∃ T,T=(tl k l::zh::zh::zh::zh::zh::zh::zh::zh::zh::zh::zh::zh::zh::zh::zh::zh::zh::zh::zh::zh::zh::zh::zh::zh::zh::zh::zh::zh::zh::zh::zh::zh::zh::zh::zh::zh::zh::zh::[]):=⟨_,rfl⟩
 have hr:zD zi O false zX.code T zu.empty=zD zi O false zX.code T zu.empty:=rfl
 have c1:=fun S=>zO.v hk k2 hl S
 have cl:jg 16 (tl k l)=true:=ZF hk.le fun _ _=>rfl
 unfold ah2 Jw
 by_cases hu:unl l=true
 ·
  have h3:l.length≤3:=by unfold unl at hu;simp at hu;exact hu.2
  have c2:=fun S=>zG.v (l:=[(l.length:Int)]) Okl.read (by decide) (by simp;omega) S
  have hA:(encs [(l.length:Int)]).length≤100:=by
   have:=vN (l:=[(l.length:Int)]) (by simp;omega)
   simp at this;omega
  conv at hr =>
   rhs
   rw [hTe]
   simp only [zX.code,zX.rs,zSs,reduceIte,zk,zn,zo,zq,if_neg k2,c1,hu,Zu hk,abt,ah7,c2,WH (l:=[(l.length:Int)]) (by simp) (by intro n hn;simp at hn;omega) (by simp)]
  generalize hL:qB (zD zi O false zX.jS) _ _=r at hr
  obtain ⟨e,T',S',rfl,g⟩:=zX.round hk h3 hA l [] hL rfl (by rw [show flat []=[] from rfl,show encs []=[] from rfl,List.append_nil];rfl) rfl rfl rfl rfl (fun t h=>by cases h)
  by_cases ha:l.all qp=true
  ·
   rw [if_pos ha] at g
   obtain ⟨rfl,g2,g3⟩:=g
   have hTe':=zX.eta g2
   rw [g3] at hTe'
   conv at hr =>
    rhs
    rw [hTe']
    simp only [zX.code,zX.rs,zSs,reduceIte,zk,zn,zo,zq]
   rw [hTe] at hr
   rw [if_pos (by rw [hu,ha];rfl),ZH]
   exact zX.runs hr (.inr rfl) (by simp only [List.getD_cons_succ,List.getD_cons_zero,yP,yx,wF,wW,yA]) rfl (all1 cl) (vP (all2 (WI (k:=2) (Nat.le_refl 2)) rfl))
  ·
   rw [if_neg ha] at g
   obtain ⟨rfl,g2,g3⟩:=g
   conv at hr =>
    rhs
    simp only [zSs,reduceIte,zk,zn,zo,zq]
   rw [hTe] at hr
   rw [if_neg (by rw [hu,Bool.true_and];exact ha)]
   have hrun:=zX.runs (S:=S) hr (.inr rfl) (by rw [g2];rfl) (by rw [g3];rfl) (all1 cl) (by rw [g2,g3];rfl)
   rw [g2,g3] at hrun
   exact hrun
 ·
  rw [Bool.not_eq_true] at hu
  conv at hr =>
   rhs
   rw [hTe]
   simp only [zX.code,zX.rs,zSs,reduceIte,zk,zn,zo,zq,if_neg k2,c1,hu]
  rw [hTe] at hr
  rw [if_neg (by rw [hu];simp)]
  exact zX.runs hr (.inr rfl) rfl rfl (all1 cl) rfl
def good (l:List TxV):Prop:=(l.map TxV.id).Nodup∧∀ t ∈ l,qp t=true
theorem Yk {l:List TxV}:Jw l=true ↔ good l∧l.length≤3:=by
 unfold Jw unl good
 simp [and_assoc,and_comm,and_left_comm]
end Go.Proofs.Ytbgcphbbchndkaa
namespace Go.Abs
variable {P:Program} {t:TypeId} {xs ys:Array Value} {d:Nat}
theorem JW (P:Program):wY P program=some P:=rfl
def FEq (P:Program) (d:Nat) (xs ys:Array Value):List Field→List Bool→Prop
 | [],[]=>True
 | f::fs,b::bs=>(f.name≠ "_"∧∃ v w,wY P (part f.type xs f.offset)=some v∧wY P (part f.type ys f.offset)=some w∧wY P (Op.equalIn d f.type v w)=some b)∧FEq P d xs ys fs bs
 | _,_=>False
theorem adL {fs:List Field} (hu:P.underlying t=some (.struct fs.toArray)) (hs:P.stoodInHeld t=false) {bs:List Bool} (h:FEq P d xs ys fs bs):wY P (Op.equalIn (d+1) t (.agg xs) (.agg ys))=some (bs.all id):=by
 rw [Op.equalIn]
 simp only [wZ,qX hu,Option.bind_some,JW,hs,Bool.false_eq_true,if_false,List.forIn_toArray]
 clear hu hs
 induction fs generalizing bs with
 | nil =>
  cases bs with
  | nil=>rfl
  | cons b bs=>exact absurd h id
 | cons f fs ih =>
  cases bs with
  | nil=>exact absurd h id
  | cons b bs =>
   obtain ⟨⟨h1,v,w,h2,h3,h4⟩,h5⟩:=h
   rw [List.forIn_cons]
   simp only [wZ,if_pos h1,h2,h3,h4,Option.bind_some]
   cases b with
   | true =>
    simp only [Bool.not_true,Bool.false_eq_true,if_false,jL,Option.bind_some,List.all_cons,id,Bool.true_and]
    exact ih h5
   | false =>
    simp only [Bool.not_false,if_true,jL,Option.bind_some,List.all_cons,id,Bool.false_and]
theorem aaX {fs:List Field} {S:zu} (hu:P.underlying t=some (.struct fs.toArray)) (hs:P.stoodInHeld t=false) (hg:P.eqGuardType P.depth t=false) {bs:List Bool} (h:FEq P 9999 xs ys fs bs)
  (gx:ground (.agg xs)=true) (gy:ground (.agg ys)=true):jY P .eql t (.agg xs) (.agg ys) S=some (.bool (bs.all id),S)∧jY P .neq t (.agg xs) (.agg ys) S=some (.bool (!bs.all id),S):=by
 rw [aad,aad]
 have e:wY P (Op.equal t (.agg xs) (.agg ys))=some (bs.all id):=adL hu hs h
 have g:wY P (eqGuard .eql t (.tmp 0) (.tmp 0) (.agg xs) (.agg ys))=some ():=by
  unfold eqGuard
  simp only [Bool.not_true,Bool.false_eq_true,if_false,wZ,JW,Option.bind_some,hg,Bool.not_false,if_true]
  rfl
 have g':wY P (eqGuard .neq t (.tmp 0) (.tmp 0) (.agg xs) (.agg ys))=some ():=by
  unfold eqGuard
  simp only [Bool.not_true,Bool.false_eq_true,if_false,wZ,JW,Option.bind_some,hg,Bool.not_false,if_true]
  rfl
 have ha:[Value.agg xs,.agg ys].all ground=true:=by simp [gx,gy]
 constructor
 ·
  unfold Za qL
  simp only [hu]
  show wL P [Value.agg xs,.agg ys] _ S=_
  refine jM ha ?_ rfl
  simp only [wZ,g,Option.bind_some]
  unfold binOp
  simp only [wZ,e,Option.bind_some,jL]
 ·
  unfold Za qL
  simp only [hu]
  show wL P [Value.agg xs,.agg ys] _ S=_
  refine jM ha ?_ rfl
  simp only [wZ,g',Option.bind_some]
  unfold binOp
  simp only [wZ,e,Option.bind_some,jL]
end Go.Abs
namespace Go.Proofs.Ytbgcphbbchndkaa
open Go.Abs
theorem TxV.ext_iff' {t u:TxV}:t=u ↔ t.id=u.id∧t.fee=u.fee:=by cases t;cases u;simp
theorem aey (t u:TxV) (S:zu):jY zi .eql 25 (tv t) (tv u) S=some (.bool (decide (t=u)),S)∧jY zi .neq 25 (tv t) (tv u) S=some (.bool (!decide (t=u)),S):=by
 have h:=aaX (S:=S) (xs:=#[Value.int .i64 t.id,.int .i64 t.fee]) (ys:=#[Value.int .i64 u.id,.int .i64 u.fee]) (bs:=[t.id == u.id,t.fee == u.fee]) aeF (by kernel_rfl) (by kernel_rfl)
  ⟨⟨by decide,.int .i64 t.id,.int .i64 u.id,by kernel_rfl,by kernel_rfl,by kernel_rfl⟩,⟨by decide,.int .i64 t.fee,.int .i64 u.fee,by kernel_rfl,by kernel_rfl,by kernel_rfl⟩,trivial⟩ rfl rfl
 have e:[t.id == u.id,t.fee == u.fee].all id=decide (t=u):=by
  rw [Bool.eq_iff_iff]
  simp [TxV.ext_iff']
 rw [e] at h
 exact h
theorem zy.round {k j:Nat} {a b:List TxV} (hk:Okl k a) (hj:Okl j b) (k2:k≠2) (j2:j≠2) (hab:a.length=b.length) (hlen:a.length≤17592186044416) {S:zu}:∀ (sa sb pa pb:List TxV) {T:List Value} {r:St},qB (zD zi O false zy.jS) T S=r→T.length=26 →
  T.getD 0 zh=tl k a→T.getD 1 zh=tl j b→T.getD 12 zh=.int .i64 a.length→T.getD 13 zh=.int .i64 pa.length→a=pa++sa→b=pb++sb→pa.length=pb.length→pa=pb →
  ∃ e T',r=some (e,T',S)∧if a=b then e=.exit 0∧T'.length=26 else e=.ret∧T'.getD 4 zh=.bool false:=by
 intro sa
 induction sa with
 | nil =>
  intro sb pa pb T r hL hT h0 h1 h12 h13 ha hb hp hpp
  have hTe:=zy.eta hT
  rw [h0,h1,h12,h13] at hTe
  have hr:zD zi O false zy.jS T S=zD zi O false zy.jS T S:=rfl
  have hd:¬ (pa.length:Int) < (a.length:Int):=by rw [ha];simp
  conv at hr =>
   rhs
   rw [hTe]
   simp only [zy.jS,zy.code,zy.rs,zSs,reduceIte,zk,zn,zo,zq,hd]
  have hsb:sb=[]:=by rw [ha,hb] at hab;simp [hp] at hab;exact hab
  refine ⟨_,_,hL.symm.trans (wR hr (by simp)),?_⟩
  rw [if_pos (by rw [ha,hb,hsb,hpp])]
  exact ⟨rfl,rfl⟩
 | cons x sa ih =>
  intro sb pa pb T r hL hT h0 h1 h12 h13 ha hb hp hpp
  have hTe:=zy.eta hT
  rw [h0,h1,h12,h13] at hTe
  have hr:zD zi O false zy.jS T S=zD zi O false zy.jS T S:=rfl
  have hd:(pa.length:Int) < (a.length:Int):=by rw [ha];simp;omega
  cases sb with
  | nil=>rw [ha,hb] at hab;simp [hp] at hab
  | cons y sb =>
   have e1:=fun S=>Qa (S:=S) hk ha
   have e2:∀ S,jw zi 26 (tl j b) (.int .i64 pa.length) S=some (EP [.int .i64 y.id,.int .i64 y.fee],S):=fun S=>by rw [hp];exact Qa hj hb
   have wi:IntKind.i64.wrap ((pa.length:Int)+1)=((pa++[x]).length:Int):=by rw [wrap_i64 (by omega) (by omega)];simp
   have q:∀ S,jY zi .neq 25 (.agg [Value.int .i64 x.id,.int .i64 x.fee].toArray) (.agg [Value.int .i64 y.id,.int .i64 y.fee].toArray) S=some (.bool (!decide (x=y)),S):=fun S=>(aey x y S).2
   by_cases hxy:x=y
   ·
    conv at hr =>
     rhs
     rw [hTe]
     simp only [zy.jS,zy.code,zy.rs,zSs,reduceIte,zk,zn,zo,zq,hd,if_neg k2,if_neg j2,e1,e2,kL,q,decide_eq_true hxy,wi]
    subst hxy
    exact ih sb (pa++[x]) (pb++[x]) ((y9 hr).symm.trans hL) rfl rfl rfl rfl rfl (by simp [ha]) (by simp [hb]) (by simp [hp]) (by rw [hpp])
   ·
    conv at hr =>
     rhs
     rw [hTe]
     simp only [zy.jS,zy.code,zy.rs,zSs,reduceIte,zk,zn,zo,zq,hd,if_neg k2,if_neg j2,e1,e2,kL,q,decide_eq_false hxy]
    refine ⟨_,_,hL.symm.trans (wR hr (by simp)),?_⟩
    rw [if_neg (by rw [ha,hb,hpp];simp [hxy])]
    exact ⟨rfl,rfl⟩
theorem zy.v {k j:Nat} {a b:List TxV} (hk:Okl k a) (hj:Okl j b) (k2:k≠2) (j2:j≠2) (hlen:a.length≤17592186044416) (S:zu):jc zi O zy.id [tl k a,tl j b] S=some (.bool (decide (a=b)),S):=by
 obtain ⟨T,hTe⟩:∃ T,T=(tl k a::tl j b::zh::zh::zh::zh::zh::zh::zh::zh::zh::zh::zh::zh::zh::zh::zh::zh::zh::zh::zh::zh::zh::zh::zh::zh::[]):=⟨_,rfl⟩
 have hr:zD zi O false zy.code T S=zD zi O false zy.code T S:=rfl
 by_cases hab:a.length=b.length
 ·
  have d1:¬ (a.length:Int)≠(b.length:Int):=by omega
  conv at hr =>
   rhs
   rw [hTe]
   simp only [zy.code,zy.rs,zSs,reduceIte,zk,zn,zo,zq,if_neg k2,if_neg j2,Zu hk,Zu hj,hab]
  rw [← hab] at hr
  generalize hL:qB (zD zi O false zy.jS) _ _=r at hr
  obtain ⟨e,T',rfl,g⟩:=zy.round hk hj k2 j2 hab hlen a b [] [] hL rfl rfl rfl rfl rfl rfl rfl rfl rfl
  by_cases h:a=b
  ·
   rw [if_pos h] at g
   obtain ⟨rfl,g2⟩:=g
   have hTe':=zy.eta g2
   conv at hr =>
    rhs
    rw [hTe']
    simp only [zy.code,zy.rs,zSs,reduceIte,zk,zn,zo,zq]
   rw [hTe] at hr
   rw [decide_eq_true h]
   exact zy.runs hr (.inr rfl)
  ·
   rw [if_neg h] at g
   obtain ⟨rfl,g2⟩:=g
   conv at hr =>
    rhs
    simp only [zSs,reduceIte,zk,zn,zo,zq]
   rw [hTe] at hr
   have hrun:=zy.runs hr (.inr rfl)
   rw [g2] at hrun
   rw [decide_eq_false h]
   exact hrun
 ·
  have d1:¬ (a.length:Int)=(b.length:Int):=by omega
  conv at hr =>
   rhs
   rw [hTe]
   simp only [zy.code,zy.rs,zSs,reduceIte,zk,zn,zo,zq,if_neg k2,if_neg j2,Zu hk,Zu hj,d1]
  rw [hTe] at hr
  rw [decide_eq_false (fun h:a=b=>hab (by rw [h]))]
  exact zy.runs hr (.inr rfl)
theorem slices_Equal.round {k j:Nat} {a b:List TxV} (hk:Okl k a) (hj:Okl j b) (k2:k≠2) (j2:j≠2) (hab:a.length=b.length) (hlen:a.length≤17592186044416) {S:zu}:∀ (sa sb pa pb:List TxV) {T:List Value} {r:St},qB (zD zi O false slices_Equal.jS) T S=r→T.length=26 →
  T.getD 0 zh=tl k a→T.getD 1 zh=tl j b→T.getD 12 zh=.int .i64 a.length→T.getD 13 zh=.int .i64 pa.length→a=pa++sa→b=pb++sb→pa.length=pb.length→pa=pb →
  ∃ e T',r=some (e,T',S)∧if a=b then e=.exit 0∧T'.length=26 else e=.ret∧T'.getD 4 zh=.bool false:=by
 intro sa
 induction sa with
 | nil =>
  intro sb pa pb T r hL hT h0 h1 h12 h13 ha hb hp hpp
  have hTe:=slices_Equal.eta hT
  rw [h0,h1,h12,h13] at hTe
  have hr:zD zi O false slices_Equal.jS T S=zD zi O false slices_Equal.jS T S:=rfl
  have hd:¬ (pa.length:Int) < (a.length:Int):=by rw [ha];simp
  conv at hr =>
   rhs
   rw [hTe]
   simp only [slices_Equal.jS,slices_Equal.code,slices_Equal.rs,zSs,reduceIte,zk,zn,zo,zq,hd]
  have hsb:sb=[]:=by rw [ha,hb] at hab;simp [hp] at hab;exact hab
  refine ⟨_,_,hL.symm.trans (wR hr (by simp)),?_⟩
  rw [if_pos (by rw [ha,hb,hsb,hpp])]
  exact ⟨rfl,rfl⟩
 | cons x sa ih =>
  intro sb pa pb T r hL hT h0 h1 h12 h13 ha hb hp hpp
  have hTe:=slices_Equal.eta hT
  rw [h0,h1,h12,h13] at hTe
  have hr:zD zi O false slices_Equal.jS T S=zD zi O false slices_Equal.jS T S:=rfl
  have hd:(pa.length:Int) < (a.length:Int):=by rw [ha];simp;omega
  cases sb with
  | nil=>rw [ha,hb] at hab;simp [hp] at hab
  | cons y sb =>
   have e1:=fun S=>Qa (S:=S) hk ha
   have e2:∀ S,jw zi 26 (tl j b) (.int .i64 pa.length) S=some (EP [.int .i64 y.id,.int .i64 y.fee],S):=fun S=>by rw [hp];exact Qa hj hb
   have wi:IntKind.i64.wrap ((pa.length:Int)+1)=((pa++[x]).length:Int):=by rw [wrap_i64 (by omega) (by omega)];simp
   have q:∀ S,jY zi .neq 25 (.agg [Value.int .i64 x.id,.int .i64 x.fee].toArray) (.agg [Value.int .i64 y.id,.int .i64 y.fee].toArray) S=some (.bool (!decide (x=y)),S):=fun S=>(aey x y S).2
   by_cases hxy:x=y
   ·
    conv at hr =>
     rhs
     rw [hTe]
     simp only [slices_Equal.jS,slices_Equal.code,slices_Equal.rs,zSs,reduceIte,zk,zn,zo,zq,hd,if_neg k2,if_neg j2,e1,e2,kL,q,decide_eq_true hxy,wi]
    subst hxy
    exact ih sb (pa++[x]) (pb++[x]) ((y9 hr).symm.trans hL) rfl rfl rfl rfl rfl (by simp [ha]) (by simp [hb]) (by simp [hp]) (by rw [hpp])
   ·
    conv at hr =>
     rhs
     rw [hTe]
     simp only [slices_Equal.jS,slices_Equal.code,slices_Equal.rs,zSs,reduceIte,zk,zn,zo,zq,hd,if_neg k2,if_neg j2,e1,e2,kL,q,decide_eq_false hxy]
    refine ⟨_,_,hL.symm.trans (wR hr (by simp)),?_⟩
    rw [if_neg (by rw [ha,hb,hpp];simp [hxy])]
    exact ⟨rfl,rfl⟩
theorem slices_Equal.v {k j:Nat} {a b:List TxV} (hk:Okl k a) (hj:Okl j b) (k2:k≠2) (j2:j≠2) (hlen:a.length≤17592186044416) (S:zu):jc zi O slices_Equal.id [tl k a,tl j b] S=some (.bool (decide (a=b)),S):=by
 obtain ⟨T,hTe⟩:∃ T,T=(tl k a::tl j b::zh::zh::zh::zh::zh::zh::zh::zh::zh::zh::zh::zh::zh::zh::zh::zh::zh::zh::zh::zh::zh::zh::zh::zh::[]):=⟨_,rfl⟩
 have hr:zD zi O false slices_Equal.code T S=zD zi O false slices_Equal.code T S:=rfl
 by_cases hab:a.length=b.length
 ·
  have d1:¬ (a.length:Int)≠(b.length:Int):=by omega
  conv at hr =>
   rhs
   rw [hTe]
   simp only [slices_Equal.code,slices_Equal.rs,zSs,reduceIte,zk,zn,zo,zq,if_neg k2,if_neg j2,Zu hk,Zu hj,hab]
  rw [← hab] at hr
  generalize hL:qB (zD zi O false slices_Equal.jS) _ _=r at hr
  obtain ⟨e,T',rfl,g⟩:=slices_Equal.round hk hj k2 j2 hab hlen a b [] [] hL rfl rfl rfl rfl rfl rfl rfl rfl rfl
  by_cases h:a=b
  ·
   rw [if_pos h] at g
   obtain ⟨rfl,g2⟩:=g
   have hTe':=slices_Equal.eta g2
   conv at hr =>
    rhs
    rw [hTe']
    simp only [slices_Equal.code,slices_Equal.rs,zSs,reduceIte,zk,zn,zo,zq]
   rw [hTe] at hr
   rw [decide_eq_true h]
   exact slices_Equal.runs hr (.inr rfl)
  ·
   rw [if_neg h] at g
   obtain ⟨rfl,g2⟩:=g
   conv at hr =>
    rhs
    simp only [zSs,reduceIte,zk,zn,zo,zq]
   rw [hTe] at hr
   have hrun:=slices_Equal.runs hr (.inr rfl)
   rw [g2] at hrun
   rw [decide_eq_false h]
   exact hrun
 ·
  have d1:¬ (a.length:Int)=(b.length:Int):=by omega
  conv at hr =>
   rhs
   rw [hTe]
   simp only [slices_Equal.code,slices_Equal.rs,zSs,reduceIte,zk,zn,zo,zq,if_neg k2,if_neg j2,Zu hk,Zu hj,d1]
  rw [hTe] at hr
  rw [decide_eq_false (fun h:a=b=>hab (by rw [h]))]
  exact slices_Equal.runs hr (.inr rfl)
theorem ae2:∀ {a b:List TxV},flat a=flat b→a=b:=by
 intro a
 induction a with
 | nil=>intro b h;cases b with
  | nil=>rfl
  | cons u b=>simp [flat] at h
 | cons t a ih =>
  intro b h
  cases b with
  | nil=>simp [flat] at h
  | cons u b =>
   have h':[t.id,t.fee]++flat a=[u.id,u.fee]++flat b:=h
   simp at h'
   rw [ih h'.2.2,TxV.ext_iff'.mpr ⟨h'.1,h'.2.1⟩]
theorem afO {l:List TxV} (h:∀ t ∈ l,qp t=true):∀ n ∈ flat l,Few n:=fun n hn=>by have:=aaj h n hn;unfold Few;omega
theorem acC {a b:List TxV} {r s:List UInt8} (la:a.length≤1000) (lb:b.length≤1000) (ha:∀ t ∈ a,qp t=true) (hb:∀ t ∈ b,qp t=true) (h:adP a++r=adP b++s):a=b∧r=s:=by
 rw [ZH,ZH,List.append_assoc,List.append_assoc] at h
 obtain ⟨h1,h2⟩:=WL (a:=[(a.length:Int)]) (c:=[(b.length:Int)]) rfl (by simp [Few];omega) (by simp [Few];omega) h
 simp at h1
 obtain ⟨h3,h4⟩:=WL (by rw [KP,KP];omega) (afO ha) (afO hb) h2
 exact ⟨ae2 h3,h4⟩
theorem ad4 {a b:List TxV} {r s:List UInt8} (ha:Jw a=true) (hb:Jw b=true) (h:adP a++r=adP b++s):a=b∧r=s:=by
 obtain ⟨h1,h2⟩:=Yk.mp ha
 obtain ⟨h3,h4⟩:=Yk.mp hb
 exact acC (by omega) (by omega) h1.2 h3.2 h
end Go.Proofs.Ytbgcphbbchndkaa
namespace Go.Proofs.Ytbgcphbbchndkaa
open Go.Abs
theorem aas {l:List TxV} (h:Jw l=true):(adP l).length≤100:=by
 obtain ⟨h1,h2⟩:=Yk.mp h
 have h3:=Jz h1.2
 have h4:=vN (l:=[(l.length:Int)]) (by simp;omega)
 rw [ZH,List.length_append]
 simp at h4
 omega
theorem ahh (x:(Ty.slc 16 tTx).Val) (hg:(Ty.slc 16 tTx).Good x):∃ k l,Okl k l∧k≠2∧(Ty.slc 16 tTx).JI x=[tl k l]∧l.length * 16≤140737488351232∧∀ t ∈ l,t.Ok :=
 ahJ (b:=16) fT TxV.Ok ahE acR x hg
theorem agK {k:Nat} {l:List TxV} {S:zu} (h:Okl k l) (hl:l.length≤8796093022208):yw zi 26 26 (tl 2 []) (tl k l) S=some (tl 2 l,S):=by
 rw [Xo qA kR aam rfl aaw (by omega) qA acR ahj Okl.own (by decide) h (by simp;omega) (by simp;omega)];rfl
theorem tl0 (S:zu):jT zi 26 0 [] S=some (tl 2 [],S):=by rw [Kq];rfl
end Go.Proofs.Ytbgcphbbchndkaa
namespace Go.Proofs.Ytbgcphbbchndkaa
open Go.Abs
structure xC where
 slot:Int
 miner:Int
 variant:Int
 parent:Int
 k:Nat
 txs:List TxV
def fBk (b:xC):List Value:=[.int .i64 b.slot,.int .i64 b.miner,.int .i64 b.variant,.int .i64 b.parent,tl b.k b.txs]
abbrev bv (b:xC):Value:=.agg [Value.int .i64 b.slot,.int .i64 b.miner,.int .i64 b.variant,.int .i64 b.parent,tl b.k b.txs].toArray
structure xC.Ok (b:xC):Prop where
 okl:Okl b.k b.txs
 ne:b.k≠2
 len:b.txs.length * 16≤140737488351232
 par:b.parent < 9223372036854775808
abbrev tBk:Ty:=.pair (.int .i64) (.pair (.int .i64) (.pair (.int .i64) (.pair (.int .i64) (.pair (.slc 16 tTx) .unit))))
def headB (b:xC):Bool:=btw b.slot 1 4095 && btw b.miner 0 6 && btw b.variant 0 255 && (decide (b.parent=0) || (vY b.parent && decide (b.parent / 65536 < b.slot)))
def wz (b:xC):Bool:=headB b && Jw b.txs
theorem ad6 {b:xC}:headB b=true ↔ (1≤b.slot∧b.slot≤4095)∧(0≤b.miner∧b.miner≤6)∧(0≤b.variant∧b.variant≤255)∧(b.parent=0∨(vY b.parent=true∧b.parent / 65536 < b.slot)):=by
 simp [headB,abD,and_assoc]
theorem yZ {b:xC} {d:Nat} (h:b.k≤2):jg (d+6) (bv b)=true:=by
 have h1:jg (d+5) (tl b.k b.txs)=true:=ZF (d:=d+1) h fun _ _=>rfl
 refine XE ?_
 simp only [List.all_cons,List.all_nil,h1,Bool.and_true]
 rfl
abbrev ah4 (b:xC):zu:=zu.empty.push (.cells (fBk b) (.own []) 0)
theorem YR (b:xC):Zk (bv b) zu.empty=some (.pointer (some ⟨0,0,none⟩),ah4 b):=rfl
theorem qV (b:xC):(ah4 b).get 0=some (.cells (fBk b) (.own []) 0):=rfl
theorem aaM {S:zu} {q:Nat} {b:xC} (h:S.get q=some (.cells (fBk b) (.own []) 0)):zQ zi false 3 (.pointer (some ⟨q,0+0,none⟩)) S=some (.int .i64 b.slot,S):=yT (t:=3) (o:=0+0) h Zt rfl
theorem abj {S:zu} {q:Nat} {b:xC} (h:S.get q=some (.cells (fBk b) (.own []) 0)):zQ zi false 3 (.pointer (some ⟨q,0+1,none⟩)) S=some (.int .i64 b.miner,S):=yT (t:=3) (o:=0+1) h Zt rfl
theorem abe {S:zu} {q:Nat} {b:xC} (h:S.get q=some (.cells (fBk b) (.own []) 0)):zQ zi false 3 (.pointer (some ⟨q,0+2,none⟩)) S=some (.int .i64 b.variant,S):=yT (t:=3) (o:=0+2) h Zt rfl
theorem aa9 {S:zu} {q:Nat} {b:xC} (h:S.get q=some (.cells (fBk b) (.own []) 0)):zQ zi false 3 (.pointer (some ⟨q,0+3,none⟩)) S=some (.int .i64 b.parent,S):=yT (t:=3) (o:=0+3) h Zt rfl
theorem Vl {S:zu} {q:Nat} {b:xC} (h:S.get q=some (.cells (fBk b) (.own []) 0)) (hk:b.k≠2):zQ zi false 26 (.pointer (some ⟨q,0+4,none⟩)) S=some (tl b.k b.txs,S):=by
 rw [Wx (o:=0+4) (v:=tl b.k b.txs) h JR rfl (fun l h=>by unfold tl vs sv at h;split at h <;> cases h),VT,if_neg hk]
theorem aiH {S:zu} {q:Nat} {b:xC} (h:S.get q=some (.cells (fBk b) (.own []) 0)) (hk:b.k≠2):zQ zi false 28 (.pointer (some ⟨q,0,none⟩)) S=some (bv b,S):=by
 rw [Zl h,kS,kS,kS,kS,Vt,if_neg hk]
theorem zH.v {b:xC} (hb:b.Ok) (S:zu):jc zi O zH.id [bv b] S=some (.bool (wz b),S):=by
 obtain ⟨T,hTe⟩:∃ T,T=(bv b::zh::zh::zh::zh::zh::zh::zh::zh::zh::zh::zh::zh::zh::zh::zh::zh::zh::zh::zh::zh::zh::zh::zh::zh::zh::zh::zh::zh::zh::zh::zh::zh::zh::zh::zh::zh::zh::zh::zh::zh::zh::zh::zh::zh::zh::[]):=⟨_,rfl⟩
 have hr:zD zi O false zH.code T zu.empty=zD zi O false zH.code T zu.empty:=rfl
 have l0:=aaM (qV b)
 have l1:=abj (qV b)
 have l2:=abe (qV b)
 have l3:=aa9 (qV b)
 have l4:=Vl (qV b) hb.ne
 have c1:=fun S=>zX.v hb.okl hb.ne (by have:=hb.len;omega) S
 unfold ah2 at c1
 cases h1:btw b.slot 1 4095
 ·
  have e:wz b=false:=by simp [wz,headB,h1]
  rw [e]
  conv at hr =>
   rhs
   rw [hTe]
   simp only [zH.code,zH.rs,zSs,reduceIte,zk,zn,zo,zq,YR,jB,jy,jC,jA,jh,l0,l1,l2,l3,l4,if_neg hb.ne,zW.v,h1]
  rw [hTe] at hr
  exact zH.runs hr (.inr rfl) (all1 (yZ hb.okl.le)) rfl
 ·
  cases h2:btw b.miner 0 6
  ·
   have e:wz b=false:=by simp [wz,headB,h1,h2]
   rw [e]
   conv at hr =>
    rhs
    rw [hTe]
    simp only [zH.code,zH.rs,zSs,reduceIte,zk,zn,zo,zq,YR,jB,jy,jC,jA,jh,l0,l1,l2,l3,l4,if_neg hb.ne,zW.v,h1,h2]
   rw [hTe] at hr
   exact zH.runs hr (.inr rfl) (all1 (yZ hb.okl.le)) rfl
  ·
   cases h3:btw b.variant 0 255
   ·
    have e:wz b=false:=by simp [wz,headB,h1,h2,h3]
    rw [e]
    conv at hr =>
     rhs
     rw [hTe]
     simp only [zH.code,zH.rs,zSs,reduceIte,zk,zn,zo,zq,YR,jB,jy,jC,jA,jh,l0,l1,l2,l3,l4,if_neg hb.ne,zW.v,h1,h2,h3]
    rw [hTe] at hr
    exact zH.runs hr (.inr rfl) (all1 (yZ hb.okl.le)) rfl
   ·
    by_cases h4:b.parent=0
    ·
     by_cases h7:Jw b.txs=true
     ·
      rw [if_pos h7] at c1
      have e:wz b=true:=by simp [wz,headB,h1,h2,h3,h4,h7]
      rw [e]
      conv at hr =>
       rhs
       rw [hTe]
       simp only [zH.code,zH.rs,zSs,reduceIte,zk,zn,zo,zq,YR,jB,jy,jC,jA,jh,l0,l1,l2,l3,l4,if_neg hb.ne,zW.v,h1,h2,h3,decide_eq_true h4,c1]
      rw [hTe] at hr
      exact zH.runs hr (.inr rfl) (all1 (yZ hb.okl.le)) rfl
     ·
      rw [if_neg h7] at c1
      have e:wz b=false:=by simp [wz,h7]
      rw [e]
      conv at hr =>
       rhs
       rw [hTe]
       simp only [zH.code,zH.rs,zSs,reduceIte,zk,zn,zo,zq,YR,jB,jy,jC,jA,jh,l0,l1,l2,l3,l4,if_neg hb.ne,zW.v,h1,h2,h3,decide_eq_true h4,c1]
      rw [hTe] at hr
      exact zH.runs hr (.inr rfl) (all1 (yZ hb.okl.le)) rfl
    ·
     cases h5:vY b.parent
     ·
      have e:wz b=false:=by simp [wz,headB,h1,h2,h3,h4,h5]
      rw [e]
      conv at hr =>
       rhs
       rw [hTe]
       simp only [zH.code,zH.rs,zSs,reduceIte,zk,zn,zo,zq,YR,jB,jy,jC,jA,jh,l0,l1,l2,l3,l4,if_neg hb.ne,zW.v,h1,h2,h3,decide_eq_false h4,jo.v,h5]
      rw [hTe] at hr
      exact zH.runs hr (.inr rfl) (all1 (yZ hb.okl.le)) rfl
     ·
      have hn:=Zr.mp h5
      have q1:IntKind.i64.wrap (b.parent.tdiv 65536)=b.parent / 65536:=by rw [QN (by omega),wrap_i64 (by omega) (by omega)]
      by_cases h6:b.parent / 65536 < b.slot
      ·
       have h6':¬ b.slot≤b.parent / 65536:=by omega
       by_cases h7:Jw b.txs=true
       ·
        rw [if_pos h7] at c1
        have e:wz b=true:=by simp [wz,headB,h1,h2,h3,h4,h5,h6,h7]
        rw [e]
        conv at hr =>
         rhs
         rw [hTe]
         simp only [zH.code,zH.rs,zSs,reduceIte,zk,zn,zo,zq,YR,jB,jy,jC,jA,jh,l0,l1,l2,l3,l4,if_neg hb.ne,zW.v,h1,h2,h3,decide_eq_false h4,jo.v,h5,Jk _ _ _ XJ,q1,decide_eq_false h6',c1]
        rw [hTe] at hr
        exact zH.runs hr (.inr rfl) (all1 (yZ hb.okl.le)) rfl
       ·
        rw [if_neg h7] at c1
        have e:wz b=false:=by simp [wz,h7]
        rw [e]
        conv at hr =>
         rhs
         rw [hTe]
         simp only [zH.code,zH.rs,zSs,reduceIte,zk,zn,zo,zq,YR,jB,jy,jC,jA,jh,l0,l1,l2,l3,l4,if_neg hb.ne,zW.v,h1,h2,h3,decide_eq_false h4,jo.v,h5,Jk _ _ _ XJ,q1,decide_eq_false h6',c1]
        rw [hTe] at hr
        exact zH.runs hr (.inr rfl) (all1 (yZ hb.okl.le)) rfl
      ·
       have h6':b.slot≤b.parent / 65536:=by omega
       have e:wz b=false:=by simp [wz,headB,h1,h2,h3,h4,h5,h6]
       rw [e]
       conv at hr =>
        rhs
        rw [hTe]
        simp only [zH.code,zH.rs,zSs,reduceIte,zk,zn,zo,zq,YR,jB,jy,jC,jA,jh,l0,l1,l2,l3,l4,if_neg hb.ne,zW.v,h1,h2,h3,decide_eq_false h4,jo.v,h5,Jk _ _ _ XJ,q1,decide_eq_true h6']
       rw [hTe] at hr
       exact zH.runs hr (.inr rfl) (all1 (yZ hb.okl.le)) rfl
end Go.Proofs.Ytbgcphbbchndkaa
namespace Go.Proofs.Ytbgcphbbchndkaa
open Go.Abs
def vC (a b:xC):Bool:=decide (a.slot=b.slot) && (decide (a.miner=b.miner) && (decide (a.variant=b.variant) && (decide (a.parent=b.parent) && decide (a.txs=b.txs))))
abbrev afV (a b:xC):zu:=(ah4 a).push (.cells (fBk b) (.own []) 0)
theorem YS (a b:xC):Zk (bv b) (ah4 a)=some (.pointer (some ⟨1,0,none⟩),afV a b):=by kernel_rfl
theorem xM (a b:xC):(afV a b).get 0=some (.cells (fBk a) (.own []) 0):=by kernel_rfl
theorem xQ (a b:xC):(afV a b).get 1=some (.cells (fBk b) (.own []) 0):=by kernel_rfl
theorem jq.v {a b:xC} (ha:a.Ok) (hb:b.Ok) (S:zu):jc zi O jq.id [bv a,bv b] S=some (.bool (vC a b),S):=by
 obtain ⟨T,hTe⟩:∃ T,T=(bv a::bv b::zh::zh::zh::zh::zh::zh::zh::zh::zh::zh::zh::zh::zh::zh::zh::zh::zh::zh::zh::zh::zh::zh::zh::zh::zh::zh::zh::zh::zh::zh::zh::zh::zh::zh::zh::zh::[]):=⟨_,rfl⟩
 have hr:zD zi O false jq.code T zu.empty=zD zi O false jq.code T zu.empty:=rfl
 have l0:=aaM (xM a b)
 have m0:=aaM (xQ a b)
 have l1:=abj (xM a b)
 have m1:=abj (xQ a b)
 have l2:=abe (xM a b)
 have m2:=abe (xQ a b)
 have l3:=aa9 (xM a b)
 have m3:=aa9 (xQ a b)
 have l4:=Vl (xM a b) ha.ne
 have m4:=Vl (xQ a b) hb.ne
 have c1:=fun S=>slices_Equal.v ha.okl hb.okl ha.ne hb.ne (by have:=ha.len;omega) S
 have cc:[bv a,bv b].all (jg 16)=true:=all2 (yZ ha.okl.le) (yZ hb.okl.le)
 unfold vC
 by_cases h1:a.slot=b.slot
 ·
  have e1:=decide_eq_true h1
  by_cases h2:a.miner=b.miner
  ·
   have e2:=decide_eq_true h2
   by_cases h3:a.variant=b.variant
   ·
    have e3:=decide_eq_true h3
    by_cases h4:a.parent=b.parent
    ·
     have e4:=decide_eq_true h4
     conv at hr =>
      rhs
      rw [hTe]
      simp only [jq.code,jq.rs,zSs,reduceIte,zk,zn,zo,zq,YR,YS,jB,jy,jC,jA,jh,l0,l1,l2,l3,l4,m0,m1,m2,m3,m4,if_neg ha.ne,if_neg hb.ne,e1,e2,e3,e4,c1]
     rw [hTe] at hr
     rw [e1,Bool.true_and,e2,Bool.true_and,e3,Bool.true_and,e4,Bool.true_and]
     exact jq.runs hr (.inr rfl) cc rfl
    ·
     have e4:=decide_eq_false h4
     conv at hr =>
      rhs
      rw [hTe]
      simp only [jq.code,jq.rs,zSs,reduceIte,zk,zn,zo,zq,YR,YS,jB,jy,jC,jA,jh,l0,l1,l2,l3,l4,m0,m1,m2,m3,m4,if_neg ha.ne,if_neg hb.ne,e1,e2,e3,e4]
     rw [hTe] at hr
     rw [e1,Bool.true_and,e2,Bool.true_and,e3,Bool.true_and,e4,Bool.false_and]
     exact jq.runs hr (.inr rfl) cc rfl
   ·
    have e3:=decide_eq_false h3
    conv at hr =>
     rhs
     rw [hTe]
     simp only [jq.code,jq.rs,zSs,reduceIte,zk,zn,zo,zq,YR,YS,jB,jy,jC,jA,jh,l0,l1,l2,l3,l4,m0,m1,m2,m3,m4,if_neg ha.ne,if_neg hb.ne,e1,e2,e3]
    rw [hTe] at hr
    rw [e1,Bool.true_and,e2,Bool.true_and,e3,Bool.false_and]
    exact jq.runs hr (.inr rfl) cc rfl
  ·
   have e2:=decide_eq_false h2
   conv at hr =>
    rhs
    rw [hTe]
    simp only [jq.code,jq.rs,zSs,reduceIte,zk,zn,zo,zq,YR,YS,jB,jy,jC,jA,jh,l0,l1,l2,l3,l4,m0,m1,m2,m3,m4,if_neg ha.ne,if_neg hb.ne,e1,e2]
   rw [hTe] at hr
   rw [e1,Bool.true_and,e2,Bool.false_and]
   exact jq.runs hr (.inr rfl) cc rfl
 ·
  have e1:=decide_eq_false h1
  conv at hr =>
   rhs
   rw [hTe]
   simp only [jq.code,jq.rs,zSs,reduceIte,zk,zn,zo,zq,YR,YS,jB,jy,jC,jA,jh,l0,l1,l2,l3,l4,m0,m1,m2,m3,m4,if_neg ha.ne,if_neg hb.ne,e1]
  rw [hTe] at hr
  rw [e1,Bool.false_and]
  exact jq.runs hr (.inr rfl) cc rfl
theorem zF.v {a b:xC} (ha:a.Ok) (hb:b.Ok) (S:zu):jc zi O zF.id [bv a,bv b] S=some (.bool (vC a b),S):=by
 obtain ⟨T,hTe⟩:∃ T,T=(bv a::bv b::zh::zh::zh::zh::zh::zh::zh::zh::zh::zh::zh::zh::zh::zh::zh::zh::zh::zh::zh::zh::zh::zh::zh::zh::zh::zh::zh::zh::zh::zh::zh::zh::zh::zh::zh::zh::[]):=⟨_,rfl⟩
 have hr:zD zi O false zF.code T zu.empty=zD zi O false zF.code T zu.empty:=rfl
 have l0:=aaM (xM a b)
 have m0:=aaM (xQ a b)
 have l1:=abj (xM a b)
 have m1:=abj (xQ a b)
 have l2:=abe (xM a b)
 have m2:=abe (xQ a b)
 have l3:=aa9 (xM a b)
 have m3:=aa9 (xQ a b)
 have l4:=Vl (xM a b) ha.ne
 have m4:=Vl (xQ a b) hb.ne
 have c1:=fun S=>zy.v ha.okl hb.okl ha.ne hb.ne (by have:=ha.len;omega) S
 have cc:[bv a,bv b].all (jg 16)=true:=all2 (yZ ha.okl.le) (yZ hb.okl.le)
 unfold vC
 by_cases h1:a.slot=b.slot
 ·
  have e1:=decide_eq_true h1
  by_cases h2:a.miner=b.miner
  ·
   have e2:=decide_eq_true h2
   by_cases h3:a.variant=b.variant
   ·
    have e3:=decide_eq_true h3
    by_cases h4:a.parent=b.parent
    ·
     have e4:=decide_eq_true h4
     conv at hr =>
      rhs
      rw [hTe]
      simp only [zF.code,zF.rs,zSs,reduceIte,zk,zn,zo,zq,YR,YS,jB,jy,jC,jA,jh,l0,l1,l2,l3,l4,m0,m1,m2,m3,m4,if_neg ha.ne,if_neg hb.ne,e1,e2,e3,e4,c1]
     rw [hTe] at hr
     rw [e1,Bool.true_and,e2,Bool.true_and,e3,Bool.true_and,e4,Bool.true_and]
     exact zF.runs hr (.inr rfl) cc rfl
    ·
     have e4:=decide_eq_false h4
     conv at hr =>
      rhs
      rw [hTe]
      simp only [zF.code,zF.rs,zSs,reduceIte,zk,zn,zo,zq,YR,YS,jB,jy,jC,jA,jh,l0,l1,l2,l3,l4,m0,m1,m2,m3,m4,if_neg ha.ne,if_neg hb.ne,e1,e2,e3,e4]
     rw [hTe] at hr
     rw [e1,Bool.true_and,e2,Bool.true_and,e3,Bool.true_and,e4,Bool.false_and]
     exact zF.runs hr (.inr rfl) cc rfl
   ·
    have e3:=decide_eq_false h3
    conv at hr =>
     rhs
     rw [hTe]
     simp only [zF.code,zF.rs,zSs,reduceIte,zk,zn,zo,zq,YR,YS,jB,jy,jC,jA,jh,l0,l1,l2,l3,l4,m0,m1,m2,m3,m4,if_neg ha.ne,if_neg hb.ne,e1,e2,e3]
    rw [hTe] at hr
    rw [e1,Bool.true_and,e2,Bool.true_and,e3,Bool.false_and]
    exact zF.runs hr (.inr rfl) cc rfl
  ·
   have e2:=decide_eq_false h2
   conv at hr =>
    rhs
    rw [hTe]
    simp only [zF.code,zF.rs,zSs,reduceIte,zk,zn,zo,zq,YR,YS,jB,jy,jC,jA,jh,l0,l1,l2,l3,l4,m0,m1,m2,m3,m4,if_neg ha.ne,if_neg hb.ne,e1,e2]
   rw [hTe] at hr
   rw [e1,Bool.true_and,e2,Bool.false_and]
   exact zF.runs hr (.inr rfl) cc rfl
 ·
  have e1:=decide_eq_false h1
  conv at hr =>
   rhs
   rw [hTe]
   simp only [zF.code,zF.rs,zSs,reduceIte,zk,zn,zo,zq,YR,YS,jB,jy,jC,jA,jh,l0,l1,l2,l3,l4,m0,m1,m2,m3,m4,if_neg ha.ne,if_neg hb.ne,e1]
  rw [hTe] at hr
  rw [e1,Bool.false_and]
  exact zF.runs hr (.inr rfl) cc rfl
def adn (b:xC):List UInt8:=encs [b.slot,b.miner,b.variant,b.parent]++adP b.txs
def agn (b:xC):Value:=if wz b then .tuple #[by_ 2 (adn b),.int .i64 0] else .tuple #[.slice none 0 0,.int .i64 71]
theorem Wy {b:xC} (h:headB b=true):∀ n ∈ [b.slot,b.miner,b.variant,b.parent],0≤n∧n≤268435455:=by
 obtain ⟨h1,h2,h3,h4⟩:=ad6.mp h
 have h5:0≤b.parent∧b.parent≤268435455:=by
  rcases h4 with h4 | ⟨h4,_⟩
  ·
   omega
  ·
   have:=Zr.mp h4;omega
 intro n hn
 simp only [List.mem_cons,List.not_mem_nil,or_false] at hn
 rcases hn with rfl | rfl | rfl | rfl <;> omega
theorem bs4 (a b c d:Int) (S:zu):jT zi 57 4 [(0,.int .i64 a),(1,.int .i64 b),(2,.int .i64 c),(3,.int .i64 d)] S=some (iz 2 [a,b,c,d],S):=by kernel_rfl
theorem aal {b:xC} (h:headB b=true):(encs [b.slot,b.miner,b.variant,b.parent]).length≤40:=by
 have h1:=Wy h
 have:=vN (l:=[b.slot,b.miner,b.variant,b.parent]) (fun n hn=>by have:=h1 n hn;omega)
 exact this
theorem ji.v {b:xC} (hb:b.Ok) (S:zu):jc zi O ji.id [bv b] S=some (agn b,S):=by
 obtain ⟨T,hTe⟩:∃ T,T=(bv b::zh::zh::zh::zh::zh::zh::zh::zh::zh::zh::zh::zh::zh::zh::zh::zh::zh::zh::zh::zh::zh::zh::zh::zh::zh::zh::zh::zh::zh::zh::zh::zh::[]):=⟨_,rfl⟩
 have hr:zD zi O false ji.code T zu.empty=zD zi O false ji.code T zu.empty:=rfl
 have l0:=aaM (qV b)
 have l1:=abj (qV b)
 have l2:=abe (qV b)
 have l3:=aa9 (qV b)
 have l4:=Vl (qV b) hb.ne
 have lb:=aiH (qV b) hb.ne
 have c1:=fun S=>zH.v hb S
 unfold agn
 cases hR:wz b
 ·
  rw [hR] at c1
  conv at hr =>
   rhs
   rw [hTe]
   simp only [ji.code,ji.rs,zSs,reduceIte,zk,zn,zo,zq,YR,lb,c1]
  rw [hTe] at hr
  exact ji.runs hr (.inr rfl) rfl rfl (all1 (yZ hb.okl.le)) rfl
 ·
  rw [hR] at c1
  have hh:headB b=true∧Jw b.txs=true:=by simpa [wz] using hR
  have few:=Wy hh.1
  have c2:=fun S=>zG.v (l:=[b.slot,b.miner,b.variant,b.parent]) Okl.read (by decide) (fun n hn=>by have:=few n hn;omega) S
  have n2:=WH (k:=0) (l:=[b.slot,b.miner,b.variant,b.parent]) (by simp) (fun n hn=>by have:=few n hn;omega) (by simp)
  have c3:=fun S=>zX.v hb.okl hb.ne (by have:=hb.len;omega) S
  have t3:ah2 b.txs=.tuple #[by_ 2 (adP b.txs),.int .i64 0]:=if_pos hh.2
  have ap:∀ S,yw zi 23 23 (by_ 2 (encs [b.slot,b.miner,b.variant,b.parent])) (by_ 1 (adP b.txs)) S=some (by_ 2 (adn b),S):=fun S=>by
   rw [xB Okl.own (by decide) Okl.read (by have:=aal hh.1;have:=aas hh.2;omega)];rfl
  conv at hr =>
   rhs
   rw [hTe]
   simp only [ji.code,ji.rs,zSs,reduceIte,zk,zn,zo,zq,YR,lb,c1,jB,jy,jC,jA,jh,l0,l1,l2,l3,l4,if_neg hb.ne,bs4,c2,n2,c3,t3,ap]
  rw [hTe] at hr
  exact ji.runs hr (.inr rfl) (by simp only [List.getD_cons_succ,List.getD_cons_zero,yP,yx,wF,wW,yA]) rfl (all1 (yZ hb.okl.le)) (vP (all2 (WI (k:=2) (Nat.le_refl 2)) rfl))
end Go.Proofs.Ytbgcphbbchndkaa
namespace Go.Proofs.Ytbgcphbbchndkaa
open Go.Abs
theorem ahy {α:Type} {f:α→List Value} {e k:Nat} {l:List α} {d:Nat}:okq d (vs f e k l)=true:=by unfold vs sv;cases d <;> split <;> rfl
theorem ain (x:tBk.Val) (hg:tBk.Good x):∃ b:xC,tBk.JI x=fBk b∧b.Ok:=by
 obtain ⟨s,m,v,p,ts,u⟩:=x
 obtain ⟨h1,h2,h3,h4,h5,_⟩:=hg
 obtain ⟨k,l,p1,p2,p3,p4,p5⟩:=ahh ts h5
 refine ⟨⟨s,m,v,p,k,l⟩,?_,⟨p1,p2,p4,(Jq h4).2⟩⟩
 show [Value.int .i64 s]++([Value.int .i64 m]++([Value.int .i64 v]++([Value.int .i64 p]++((Ty.slc 16 tTx).JI ts++[]))))=_
 rw [p3];rfl
end Go.Proofs.Ytbgcphbbchndkaa
namespace Go.Proofs.Ytbgcphbbchndkaa
open Go.Abs
abbrev bk0:xC:=⟨0,0,0,0,0,[]⟩
theorem aie (S:zu):yc zi 28 S=some (.pointer (some ⟨S.next,0,none⟩),S.push (.cells (fBk bk0) (.own []) 0)):=by kernel_rfl
theorem ahe (b:xC):(fBk b).all (·.oneCell')=true:=by
 simp only [fBk,List.all_cons,List.all_nil,acN,adM,Bool.and_true]
theorem aeY {x y:xC} {r s:List UInt8} (hx:wz x=true) (hy:wz y=true) (h:adn x++r=adn y++s):(x.slot=y.slot∧x.miner=y.miner∧x.variant=y.variant∧x.parent=y.parent∧x.txs=y.txs)∧r=s:=by
 have h1:headB x=true∧Jw x.txs=true:=by simpa [wz] using hx
 have h2:headB y=true∧Jw y.txs=true:=by simpa [wz] using hy
 have f1:=Wy h1.1
 have f2:=Wy h2.1
 unfold adn at h
 rw [List.append_assoc,List.append_assoc] at h
 obtain ⟨e1,e2⟩:=WL (a:=[x.slot,x.miner,x.variant,x.parent]) (c:=[y.slot,y.miner,y.variant,y.parent]) rfl (fun n hn=>by have:=f1 n hn;unfold Few;omega) (fun n hn=>by have:=f2 n hn;unfold Few;omega) h
 obtain ⟨e3,e4⟩:=ad4 h1.2 h2.2 e2
 simp only [List.cons.injEq,and_true] at e1
 exact ⟨⟨e1.1,e1.2.1,e1.2.2.1,e1.2.2.2,e3⟩,e4⟩
theorem ok0:bk0.Ok:=⟨Okl.none,by decide,by simp,by decide⟩
end Go.Proofs.Ytbgcphbbchndkaa
namespace Go.Proofs.Ytbgcphbbchndkaa
open Go.Abs
theorem aii {k:Nat} {l:List TxV}:JH (tl k l)=false:=ah6
theorem aeu {k:Nat} {l:List TxV} (h:Okl k l) (hl:l.length≤8796093022208) (S:zu):∃ x S0 r S1 fp,wG zi 26 0 [] S=some (x,S0)∧qF zi true 26 26 x (tl k l) S0=some (.slice (some ⟨r,0,none⟩) l.length l.length,S1)∧Zf fT 2 S1 (some ⟨r,0,none⟩) l fp∧(∀ x ∈ fp,S.next≤x)∧Ext S S1:=by
 have g0:(S.push (.cells [] (.own []) 2)).get S.next=some (.cells [] (.own []) 2):=by rw [zu.jE,if_pos rfl]
 have src:YD zi 26 2 (tl k l) (S.push (.cells [] (.own []) 2))=some (l.length,l.flatMap fT):=aeX qA h.okv (by rw [wQ (f:=fT) (e:=2) (fun _=>rfl)]) (by rw [List.all_flatMap,List.all_eq_true];exact fun x _=>rfl)
 have e1:=Qi (P:=zi) (hp:=true) (t:=26) (tx:=26) (o:=0) (n:=0) (c:=0) qA kR aam rfl aaw (by decide) src g0 (by simp) (by omega) (by omega) (by rfl)
 rw [if_pos (by rfl),Nat.zero_add] at e1
 refine ⟨_,_,_,_,[S.next+1],(by kernel_rfl),e1,.inr ⟨S.next+1,[],[],rfl,rfl,?_,fun x hx=>?_⟩,fun x hx=>by rw [List.mem_singleton.1 hx];omega,?_⟩
 ·
  rw [zu.jE,zu.ZG,zu.xU,if_pos rfl];simp
 ·
  rw [List.mem_singleton.1 hx]
  refine ⟨by simp,fun cs own=>?_⟩
  rw [zu.jE,zu.ZG,zu.xU,if_pos rfl]
  intro hh;simp at hh
 ·
  exact ((Ext.push S _).set (Nat.le_refl _) _).trans (Ext.push _ _)
theorem aeE {k:Nat} {l:List TxV} (h:Okl k l) (S:zu):jY zi .eql 26 (tl k l) (.slice none 0 0) S=some (.bool (decide (k=0)),S):=ae4 qA h
theorem je.m {k:Nat} {l:List TxV} (h:Okl k l) (hk:k≠2) (hl:l.length≤8796093022208) (S:zu):∃ a S1 fp,jc zi O je.id [tl k l] S=some (.slice a l.length l.length,S1)∧Zf fT 2 S1 a l fp∧(∀ x ∈ fp,S.next≤x)∧Ext S S1:=by
 obtain ⟨T,hTe⟩:∃ T,T=(tl k l::zh::zh::zh::zh::zh::zh::zh::[]):=⟨_,rfl⟩
 have hr:zD zi O true je.code T S=zD zi O true je.code T S:=rfl
 have c1:=aeE h
 by_cases h0:k=0
 ·
  have hl0:=h.nil h0
  subst h0
  subst hl0
  refine ⟨none,S,[],?_,.inl ⟨rfl,rfl,rfl⟩,(fun x hx=>by cases hx),Ext.refl _⟩
  conv at hr =>
   rhs
   rw [hTe]
   simp only [je.code,je.rs,zSs,reduceIte,zk,zn,zo,zq,if_neg hk,c1,decide_true]
  rw [hTe] at hr
  exact je.runs hr (.inr rfl)
 ·
  have d:=decide_eq_false h0
  obtain ⟨x,S0,r,S1,fp,b1,b2,b3,b4,b5⟩:=aeu h hl S
  refine ⟨some ⟨r,0,none⟩,S1,fp,?_,b3,b4,b5⟩
  conv at hr =>
   rhs
   rw [hTe]
   simp only [je.code,je.rs,zSs,reduceIte,zk,zn,zo,zq,if_neg hk,c1,d,b1,b2]
  rw [hTe] at hr
  exact je.runs hr (.inr rfl)
abbrev fBm (b:xC) (a:Option Addr):List Value:=[.int .i64 b.slot,.int .i64 b.miner,.int .i64 b.variant,.int .i64 b.parent,.slice a b.txs.length b.txs.length]
abbrev bvm (b:xC) (a:Option Addr):Value:=.agg [Value.int .i64 b.slot,.int .i64 b.miner,.int .i64 b.variant,.int .i64 b.parent,.slice a b.txs.length b.txs.length].toArray
theorem jQ.m {b:xC} (hb:b.Ok) (hl:b.txs.length≤8796093022208) (S:zu):∃ a S1 fp,jc zi O jQ.id [bv b] S=some (bvm b a,S1)∧Zf fT 2 S1 a b.txs fp∧(∀ x ∈ fp,S.next≤x)∧Ext S S1:=by
 obtain ⟨T,hTe⟩:∃ T,T=(bv b::zh::zh::zh::zh::zh::zh::zh::[]):=⟨_,rfl⟩
 have hr:zD zi O true jQ.code T S=zD zi O true jQ.code T S:=rfl
 obtain ⟨S1,b1,b2,b3,b4⟩:=afP (bv b) S
 have b2:S1.get S.next=some (.cells (fBk b) (.own []) 0):=b2
 have al:=aie S1
 have x2:Ext S1 (S1.push (.cells (fBk bk0) (.own []) 0)):=Ext.push _ _
 have g2:(S1.push (.cells (fBk bk0) (.own []) 0)).get S1.next=some (.cells (fBk bk0) (.own []) 0):=by rw [zu.jE,if_pos rfl]
 have n2:S1.next < (S1.push (.cells (fBk bk0) (.own []) 0)).next:=by simp
 generalize S1.push (.cells (fBk bk0) (.own []) 0)=S2 at al x2 g2 n2
 have g1:S2.get S.next=some (.cells (fBk b) (.own []) 0):=(x2.get _ b4).trans b2
 have l4:=Vl g1 hb.ne
 obtain ⟨a,S3,fp,c1,c2,c3,c4⟩:=je.m hb.okl hb.ne hl S2
 have g3:S3.get S.next=some (.cells (fBk b) (.own []) 0):=(c4.get _ (Nat.lt_of_lt_of_le b4 x2.next)).trans g1
 have g4:S3.get S1.next=some (.cells (fBk bk0) (.own []) 0):=(c4.get _ n2).trans g2
 obtain ⟨S4,s1,s2,s3,s4,s5⟩:=xW (P:=zi) (t:=26) (x:=.slice a b.txs.length b.txs.length) (o:=0+4) (n:=1) g3 Qn rfl rfl (by simp [fBk]) ((b3.trans x2).trans c4) (Nat.le_refl _)
 have s2:S4.get S.next=some (.cells (fBm b a) (.own []) 0):=s2
 have l5:zQ zi false 28 (.pointer (some ⟨S.next,0,none⟩)) S4=some (bvm b a,S4):=by rw [Zl s2];rfl
 have g5:S4.get S1.next=some (.cells (fBk bk0) (.own []) 0):=(s5 _ (by omega)).trans g4
 obtain ⟨S5,r1,r2,r3,r4,r5⟩:=xW (P:=zi) (t:=28) (x:=bvm b a) (o:=0) (n:=5) g5 xg rfl rfl (by simp [fBk]) s3 (Nat.le_of_lt b4)
 have r2:S5.get S1.next=some (.cells (fBm b a) (.own []) 0):=r2
 have l6:zQ zi false 28 (.pointer (some ⟨S1.next,0,none⟩)) S5=some (bvm b a,S5):=by rw [Zl r2];rfl
 have hA:Zf fT 2 S5 a b.txs fp:=c2.keep (by rw [r4,s4];exact Nat.le_refl _) fun x hx=>by
  have h1:=c3 x hx
  have h2:=x2.next
  rw [r5 x (by omega),s5 x (by omega)]
 refine ⟨a,S5,fp,?_,hA,fun x hx=>Nat.le_trans (Nat.le_trans (Nat.le_of_lt b4) x2.next) (c3 x hx),r3⟩
 conv at hr =>
  rhs
  rw [hTe]
  simp only [jQ.code,jQ.rs,zSs,reduceIte,zk,zn,zo,zq,b1,al,jh,l4,if_neg hb.ne,c1,s1,l5,r1]
 rw [hTe] at hr
 exact jQ.runs hr (.inr rfl) l6
section
variable {S:zu}
theorem aik {x:TxV} {pre suf:List TxV} {rest:List Value} (j:Nat) (hj:j < 2):((pre++x::suf).flatMap fT++rest)[0+pre.length * 2+j]?=(fT x)[j]?:=by
 have h:=Zf.afj (f:=fT) (e:=2) (fun _=>rfl) (x:=x) (pre:=pre) (suf:=suf) (rest:=rest)
 have h2:=congrArg (·[j]?) h
 simp only [List.getElem?_take,if_pos hj,List.getElem?_drop] at h2
 exact h2
theorem ag0 {r:Nat} {x:TxV} {pre suf:List TxV} {fp:List Nat} (n:Int) (h:Zf fT 2 S (some ⟨r,0,none⟩) (pre++x::suf) fp) :
  zQ zi false 3 (.pointer (some ⟨r,0+pre.length * 2+1,none⟩)) S=some (.int .i64 x.fee,S) ∧
  ∃ S1,wo zi 3 (.pointer (some ⟨r,0+pre.length * 2+1,none⟩)) (.int .i64 n) S=some (zh,S1)∧Zf fT 2 S1 (some ⟨r,0,none⟩) (pre++⟨x.id,n⟩::suf) [r]∧S1.next=S.next∧r ∈ fp∧Fr fp S S1:=by
 rcases h with ⟨h,_⟩ | ⟨r',anc,rest,ha,hfa,hg,hx⟩
 ·
  cases h
 simp only [Option.some.injEq,Addr.mk.injEq,and_true] at ha
 subst ha
 refine ⟨yT hg Zt (by rw [aik 1 (by decide)];rfl),?_⟩
 have e0:∀ y:TxV,(pre++y::suf).flatMap fT++rest=(pre.flatMap fT++[.int .i64 y.id])++([.int .i64 y.fee]++(suf.flatMap fT++rest)):=fun y=>by
  rw [List.flatMap_append,List.flatMap_cons]
  simp [fT]
 have hlen:(pre.flatMap fT).length=pre.length * 2:=wQ (f:=fT) (e:=2) (fun _=>rfl) pre
 have hle:0+pre.length * 2+1+1≤((pre++x::suf).flatMap fT++rest).length:=by rw [e0];simp [hlen];omega
 have st:=qo (P:=zi) (t:=3) (o:=0+pre.length * 2+1) (x:=.int .i64 n) hg aa3 rfl rfl hle
 refine ⟨_,st,.inr ⟨r,[],rest,rfl,rfl,?_,fun k hk=>?_⟩,by simp,by rw [hfa];simp,((Fr.refl _ _).kills (fun k hk=>.inl (by rw [hfa];simp [hk]))).set (.inl (by rw [hfa];simp)) _⟩
 ·
  rw [zu.jU,if_pos rfl]
  show some (qg.cells (splice _ _ [.int .i64 n]) _ _)=_
  rw [e0,e0]
  rw [JJ (B:=[Value.int .i64 x.fee]) (C:=[Value.int .i64 n]) (by rw [List.length_append,hlen];simp) (by rfl)]
 ·
  rw [List.mem_singleton.1 hk]
  exact ⟨by simp;exact (hx r (by rw [hfa];simp)).1,WA (by decide) (JQ (hx r (by rw [hfa];simp)).2)⟩
end
end Go.Proofs.Ytbgcphbbchndkaa
namespace Go.Proofs.Ytbgcphbbchndkaa
open Go.Abs
abbrev zV.id:FuncId:=13
noncomputable def zV.code:Code:=(.seq (.region 0 (reg Try.f13 0) false) (.seq (.seq (.region 1 (reg Try.f13 1) false) (.cond (.tmp 12) (.seq (.region 2 (reg Try.f13 2) false) Code.ret) Code.skip)) (.seq (.region 3 (reg Try.f13 3) false) (.seq (.seq (.region 4 (reg Try.f13 4) false) (.block 0 (.seq (.region 5 (reg Try.f13 5) false) (.cond (.tmp 32) (.seq (.region 6 (reg Try.f13 6) false) (.region 7 (reg Try.f13 7) false)) (.seq (.region 8 (reg Try.f13 8) false) (.cond (.tmp 43) (.seq (.region 9 (reg Try.f13 9) false) (.region 10 (reg Try.f13 10) false)) Code.skip)))))) (.seq (.region 11 (reg Try.f13 11) false) Code.ret)))))
theorem zV.body:Try.f13.body=some zV.code:=by kernel_rfl
variable (x0 x1 x2 x3 x4 x5 x6 x7 x8 x9 b c d f g i j k l m n o p q r s t u v w x a y z A B C D E F G H I J K L M N P Q R U V W X Y Z a0 a1 a2 a3 a4 a5:Value) (S:zu)
theorem zV.r0 :jI zi ⟨false,false,false⟩ (jc zi O) (reg Try.f13 0) (reg Try.f13 0).toList ([x0,x1,x2,x3,x4,x5,x6,x7,x8,x9,b,c,d,f,g,i,j,k,l,m,n,o,p,q,r,s,t,u,v,w,x,a,y,z,A,B,C,D,E,F,G,H,I,J,K,L,M,N,P,Q,R,U,V,W,X,Y,Z,a0,a1,a2,a3,a4,a5]) S =
  (zN (Zk (dem x0) S) (fun v0 S1=>some ([x0,v0,Value.slice none 0 0,.int .i64 0,x4,x5,x6,x7,x8,x9,b,c,d,f,g,i,j,k,l,m,n,o,p,q,r,s,t,u,v,w,x,a,y,z,A,B,C,D,E,F,G,H,I,J,K,L,M,N,P,Q,R,U,V,W,X,Y,Z,a0,a1,a2,a3,a4,a5],S1)) ()):=by
 kernel_rfl
theorem zV.r1 :jI zi ⟨false,false,false⟩ (jc zi O) (reg Try.f13 1) (reg Try.f13 1).toList ([x0,x1,x2,x3,x4,x5,x6,x7,x8,x9,b,c,d,f,g,i,j,k,l,m,n,o,p,q,r,s,t,u,v,w,x,a,y,z,A,B,C,D,E,F,G,H,I,J,K,L,M,N,P,Q,R,U,V,W,X,Y,Z,a0,a1,a2,a3,a4,a5]) S =
  (zN (zQ zi false 30 x1 S) (fun v0 S1=>zN ((jc zi O) 14 [(dem v0)] S1) (fun v1 S2=>zN (aUn zi UnOp.not v1 S2) (fun v2 S3=>some ([x0,x1,x2,x3,x4,x5,x6,x7,x8,x9,v0,v1,v2,f,g,i,j,k,l,m,n,o,p,q,r,s,t,u,v,w,x,a,y,z,A,B,C,D,E,F,G,H,I,J,K,L,M,N,P,Q,R,U,V,W,X,Y,Z,a0,a1,a2,a3,a4,a5],S3)) ()) ()) ()):=by
 kernel_rfl
theorem zV.r2 :jI zi ⟨false,false,false⟩ (jc zi O) (reg Try.f13 2) (reg Try.f13 2).toList ([x0,x1,x2,x3,x4,x5,x6,x7,x8,x9,b,c,d,f,g,i,j,k,l,m,n,o,p,q,r,s,t,u,v,w,x,a,y,z,A,B,C,D,E,F,G,H,I,J,K,L,M,N,P,Q,R,U,V,W,X,Y,Z,a0,a1,a2,a3,a4,a5]) S =
  ( some ([x0,x1,Value.slice none 0 0,.int .i64 121,x4,x5,x6,x7,x8,x9,b,c,d,f,g,i,j,k,l,m,n,o,p,q,r,s,t,u,v,w,x,a,y,z,A,B,C,D,E,F,G,H,I,J,K,L,M,N,P,Q,R,U,V,W,X,Y,Z,a0,a1,a2,a3,a4,a5],S)):=by
 kernel_rfl
theorem zV.r3 :jI zi ⟨false,false,false⟩ (jc zi O) (reg Try.f13 3) (reg Try.f13 3).toList ([x0,x1,x2,x3,x4,x5,x6,x7,x8,x9,b,c,d,f,g,i,j,k,l,m,n,o,p,q,r,s,t,u,v,w,x,a,y,z,A,B,C,D,E,F,G,H,I,J,K,L,M,N,P,Q,R,U,V,W,X,Y,Z,a0,a1,a2,a3,a4,a5]) S =
  (zN (zA zi 30 x1 0 S) (fun v0 S1=>zN (zQ zi false 3 v0 S1) (fun v1 S2=>zN (zA zi 30 x1 1 S2) (fun v2 S3=>zN (zQ zi false 3 v2 S3) (fun v3 S4=>zN (zA zi 30 x1 2 S4) (fun v4 S5=>zN (zQ zi false 3 v4 S5) (fun v5 S6=>zN (zA zi 30 x1 3 S6) (fun v6 S7=>zN (zQ zi false 3 v6 S7) (fun v7 S8=>zN (zA zi 30 x1 4 S8) (fun v8 S9=>zN (zQ zi false 3 v8 S9) (fun v9 b2=>zN (zA zi 30 x1 5 b2) (fun a7 b3=>zN (zQ zi false 3 a7 b3) (fun a8 b4=>zN (jT zi 57 6 [(0,v1),(1,v3),(2,v5),(3,v7),(4,v9),(5,a8)] b4) (fun a9 b5=>zN ((jc zi O) 32 [(dem a9)] b5) (fun a6 b6=>zN (zS a6 0 b6) (fun b0 b7=>zN (zS (jD 0 a6) 1 b7) (fun b1 b8=>some ([x0,x1,x2,x3,b0,b1,x6,x7,x8,x9,b,c,d,jD 1 (jD 0 a6),v0,v1,v2,v3,v4,v5,v6,v7,v8,v9,a7,a8,a9,dem a6,dem b0,dem b1,x,a,y,z,A,B,C,D,E,F,G,H,I,J,K,L,M,N,P,Q,R,U,V,W,X,Y,Z,a0,a1,a2,a3,a4,a5],b8)) ()) ()) ()) ()) ()) ()) ()) ()) ()) ()) ()) ()) ()) ()) ()) ()):=by
 kernel_rfl
theorem zV.r4 :jI zi ⟨false,false,false⟩ (jc zi O) (reg Try.f13 4) (reg Try.f13 4).toList ([x0,x1,x2,x3,x4,x5,x6,x7,x8,x9,b,c,d,f,g,i,j,k,l,m,n,o,p,q,r,s,t,u,v,w,x,a,y,z,A,B,C,D,E,F,G,H,I,J,K,L,M,N,P,Q,R,U,V,W,X,Y,Z,a0,a1,a2,a3,a4,a5]) S =
  (zN (zA zi 30 x1 0 S) (fun v0 S1=>zN (zQ zi false 3 v0 S1) (fun v1 S2=>some ([x0,x1,x2,x3,x4,x5,x6,x7,x8,x9,b,c,d,f,g,i,j,k,l,m,n,o,p,q,r,s,t,u,v,w,v0,v1,y,z,A,B,C,D,E,F,G,H,I,J,K,L,M,N,P,Q,R,U,V,W,X,Y,Z,a0,a1,a2,a3,a4,a5],S2)) ()) ()):=by
 kernel_rfl
theorem zV.r5 :jI zi ⟨false,false,false⟩ (jc zi O) (reg Try.f13 5) (reg Try.f13 5).toList ([x0,x1,x2,x3,x4,x5,x6,x7,x8,x9,b,c,d,f,g,i,j,k,l,m,n,o,p,q,r,s,t,u,v,w,x,a,y,z,A,B,C,D,E,F,G,H,I,J,K,L,M,N,P,Q,R,U,V,W,X,Y,Z,a0,a1,a2,a3,a4,a5]) S =
  (zN (jY zi BinOp.eql 3 a (.int .i64 0) S) (fun v0 S1=>some ([x0,x1,x2,x3,x4,x5,x6,x7,x8,x9,b,c,d,f,g,i,j,k,l,m,n,o,p,q,r,s,t,u,v,w,x,a,v0,dem v0,A,B,C,D,E,F,G,H,I,J,K,L,M,N,P,Q,R,U,V,W,X,Y,Z,a0,a1,a2,a3,a4,a5],S1)) ()):=by
 kernel_rfl
theorem zV.r6 :jI zi ⟨false,false,false⟩ (jc zi O) (reg Try.f13 6) (reg Try.f13 6).toList ([x0,x1,x2,x3,x4,x5,x6,x7,x8,x9,b,c,d,f,g,i,j,k,l,m,n,o,p,q,r,s,t,u,v,w,x,a,y,z,A,B,C,D,E,F,G,H,I,J,K,L,M,N,P,Q,R,U,V,W,X,Y,Z,a0,a1,a2,a3,a4,a5]) S =
  (zN (zA zi 30 x1 6 S) (fun v0 S1=>zN (zQ zi false 25 v0 S1) (fun v1 S2=>zN ((jc zi O) 33 [(dem v1)] S2) (fun v2 S3=>zN (zS v2 0 S3) (fun v4 S4=>zN (zS (jD 0 v2) 1 S4) (fun v5 S5=>some ([x0,x1,x2,x3,x4,x5,v4,v5,x8,x9,b,c,d,f,g,i,j,k,l,m,n,o,p,q,r,s,t,u,v,w,x,a,y,z,jD 1 (jD 0 v2),v0,v1,dem v2,dem v4,dem v5,G,H,I,J,K,L,M,N,P,Q,R,U,V,W,X,Y,Z,a0,a1,a2,a3,a4,a5],S5)) ()) ()) ()) ()) ()):=by
 kernel_rfl
theorem zV.r7 :jI zi ⟨false,false,false⟩ (jc zi O) (reg Try.f13 7) (reg Try.f13 7).toList ([x0,x1,x2,x3,x4,x5,x6,x7,x8,x9,b,c,d,f,g,i,j,k,l,m,n,o,p,q,r,s,t,u,v,w,x,a,y,z,A,B,C,D,E,F,G,H,I,J,K,L,M,N,P,Q,R,U,V,W,X,Y,Z,a0,a1,a2,a3,a4,a5]) S =
  (zN (yw zi 23 23 x4 (dem x6) S) (fun v2 S1=>some ([x0,x1,x2,x3,v2,x5,x6,x7,x8,x9,b,c,d,f,g,i,j,k,l,m,n,o,p,q,r,s,t,u,v,w,x,a,y,z,A,B,C,D,E,F,dem x4,dem x6,dem v2,J,K,L,M,N,P,Q,R,U,V,W,X,Y,Z,a0,a1,a2,a3,a4,a5],S1)) ()):=by
 kernel_rfl
theorem zV.r8 :jI zi ⟨false,false,false⟩ (jc zi O) (reg Try.f13 8) (reg Try.f13 8).toList ([x0,x1,x2,x3,x4,x5,x6,x7,x8,x9,b,c,d,f,g,i,j,k,l,m,n,o,p,q,r,s,t,u,v,w,x,a,y,z,A,B,C,D,E,F,G,H,I,J,K,L,M,N,P,Q,R,U,V,W,X,Y,Z,a0,a1,a2,a3,a4,a5]) S =
  (zN (jY zi BinOp.eql 3 a (.int .i64 1) S) (fun v0 S1=>some ([x0,x1,x2,x3,x4,x5,x6,x7,x8,x9,b,c,d,f,g,i,j,k,l,m,n,o,p,q,r,s,t,u,v,w,x,a,y,z,A,B,C,D,E,F,G,H,I,v0,dem v0,L,M,N,P,Q,R,U,V,W,X,Y,Z,a0,a1,a2,a3,a4,a5],S1)) ()):=by
 kernel_rfl
theorem zV.r9 :jI zi ⟨false,false,false⟩ (jc zi O) (reg Try.f13 9) (reg Try.f13 9).toList ([x0,x1,x2,x3,x4,x5,x6,x7,x8,x9,b,c,d,f,g,i,j,k,l,m,n,o,p,q,r,s,t,u,v,w,x,a,y,z,A,B,C,D,E,F,G,H,I,J,K,L,M,N,P,Q,R,U,V,W,X,Y,Z,a0,a1,a2,a3,a4,a5]) S =
  (zN (zA zi 30 x1 7 S) (fun v0 S1=>zN (zQ zi false 28 v0 S1) (fun v1 S2=>zN ((jc zi O) 34 [(dem v1)] S2) (fun v2 S3=>zN (zS v2 0 S3) (fun v4 S4=>zN (zS (jD 0 v2) 1 S4) (fun v5 S5=>some ([x0,x1,x2,x3,x4,x5,x6,x7,v4,v5,b,c,d,f,g,i,j,k,l,m,n,o,p,q,r,s,t,u,v,w,x,a,y,z,A,B,C,D,E,F,G,H,I,J,K,jD 1 (jD 0 v2),v0,v1,dem v2,dem v4,dem v5,U,V,W,X,Y,Z,a0,a1,a2,a3,a4,a5],S5)) ()) ()) ()) ()) ()):=by
 kernel_rfl
theorem zV.r10 :jI zi ⟨false,false,false⟩ (jc zi O) (reg Try.f13 10) (reg Try.f13 10).toList ([x0,x1,x2,x3,x4,x5,x6,x7,x8,x9,b,c,d,f,g,i,j,k,l,m,n,o,p,q,r,s,t,u,v,w,x,a,y,z,A,B,C,D,E,F,G,H,I,J,K,L,M,N,P,Q,R,U,V,W,X,Y,Z,a0,a1,a2,a3,a4,a5]) S =
  (zN (yw zi 23 23 x4 (dem x8) S) (fun v2 S1=>some ([x0,x1,x2,x3,v2,x5,x6,x7,x8,x9,b,c,d,f,g,i,j,k,l,m,n,o,p,q,r,s,t,u,v,w,x,a,y,z,A,B,C,D,E,F,G,H,I,J,K,L,M,N,P,Q,R,dem x4,dem x8,dem v2,X,Y,Z,a0,a1,a2,a3,a4,a5],S1)) ()):=by
 kernel_rfl
theorem zV.r11 :jI zi ⟨false,false,false⟩ (jc zi O) (reg Try.f13 11) (reg Try.f13 11).toList ([x0,x1,x2,x3,x4,x5,x6,x7,x8,x9,b,c,d,f,g,i,j,k,l,m,n,o,p,q,r,s,t,u,v,w,x,a,y,z,A,B,C,D,E,F,G,H,I,J,K,L,M,N,P,Q,R,U,V,W,X,Y,Z,a0,a1,a2,a3,a4,a5]) S =
  (zN (zA zi 30 x1 1 S) (fun v0 S1=>zN (zQ zi false 3 v0 S1) (fun v1 S2=>zN ((jc zi O) 27 [(dem v1)] S2) (fun v2 S3=>zN (jT zi 88 1 [(0,(dem x4))] S3) (fun v4 S4=>zN ((jc zi O) 36 [(dem v2),(dem v4)] S4) (fun v5 S5=>zN ((jc zi O) 35 [(dem v5)] S5) (fun v6 S6=>zN (yw zi 23 23 v6 (dem x4) S6) (fun v8 S7=>some ([x0,x1,v8,.int .i64 0,x4,x5,x6,x7,x8,x9,b,c,d,f,g,i,j,k,l,m,n,o,p,q,r,s,t,u,v,w,x,a,y,z,A,B,C,D,E,F,G,H,I,J,K,L,M,N,P,Q,R,U,V,W,v0,v1,v2,dem x4,v4,v5,dem v6,dem x4,dem v8],S7)) ()) ()) ()) ()) ()) ()) ()):=by
 kernel_rfl
theorem zV.rs:type_of% (aiJ @zV.r0 (aiJ @zV.r1 (aiJ @zV.r2 (aiJ @zV.r3 (aiJ @zV.r4 (aiJ @zV.r5 (aiJ @zV.r6 (aiJ @zV.r7 (aiJ @zV.r8 (aiJ @zV.r9 (aiJ @zV.r10 (@zV.r11)))))))))))):=aiJ @zV.r0 (aiJ @zV.r1 (aiJ @zV.r2 (aiJ @zV.r3 (aiJ @zV.r4 (aiJ @zV.r5 (aiJ @zV.r6 (aiJ @zV.r7 (aiJ @zV.r8 (aiJ @zV.r9 (aiJ @zV.r10 (@zV.r11)))))))))))
theorem zV.runs {x0:Value} {S S1:zu} {e:AEx} {T:List Value} (h:zD zi O false zV.code ([x0,zh,zh,zh,zh,zh,zh,zh,zh,zh,zh,zh,zh,zh,zh,zh,zh,zh,zh,zh,zh,zh,zh,zh,zh,zh,zh,zh,zh,zh,zh,zh,zh,zh,zh,zh,zh,zh,zh,zh,zh,zh,zh,zh,zh,zh,zh,zh,zh,zh,zh,zh,zh,zh,zh,zh,zh,zh,zh,zh,zh,zh,zh]) zu.empty=some (e,T,S1)) (he:e=.normal∨e=.ret)  (h0:wU (T.getD 2 zh)=true) (h1:wU (T.getD 3 zh)=true) (hca:[x0].all (jg 16)=true) (hcv:jg 16 (Value.tuple #[T.getD 2 zh,T.getD 3 zh])=true):jc zi O 13 [x0] S=some (Value.tuple #[T.getD 2 zh,T.getD 3 zh],S) :=
 yC rfl rfl Try.func13 (by decide) zV.body (by exact h) he ((Zv ((show zL zi T S1 Try.f13.results.toList=zL zi T S1 [(ResultVar.tmp 2),(ResultVar.tmp 3)] from by kernel_rfl).trans (by simp only [zL])) (by kernel_rfl) (by simp only [List.all_cons,List.all_nil,h0,h1,Bool.and_true])).trans rfl) hca hcv
end Go.Proofs.Ytbgcphbbchndkaa
namespace Go.Proofs.Ytbgcphbbchndkaa
open Go.Abs
abbrev zJ.id:FuncId:=14
noncomputable def zJ.code:Code:=(.seq (.region 0 (reg Try.f14 0) false) (.seq (.seq (.region 1 (reg Try.f14 1) true) (.cond (.tmp 27) (.seq (.region 2 (reg Try.f14 2) false) Code.ret) Code.skip)) (.seq (.seq (.region 3 (reg Try.f14 3) false) (.block 0 (.seq (.region 4 (reg Try.f14 4) false) (.cond (.tmp 30) (.seq (.region 5 (reg Try.f14 5) false) Code.ret) (.seq (.region 6 (reg Try.f14 6) false) (.cond (.tmp 35) (.seq (.region 7 (reg Try.f14 7) false) Code.ret) (.seq (.region 8 (reg Try.f14 8) false) (.cond (.tmp 40) (.seq (.region 9 (reg Try.f14 9) false) (.cond (.tmp 51) (.seq (.region 10 (reg Try.f14 10) false) Code.ret) Code.skip)) Code.skip)))))))) (.seq (.region 11 (reg Try.f14 11) false) Code.ret))))
theorem zJ.body:Try.f14.body=some zJ.code:=by kernel_rfl
variable (x0 b x2 x3 x4 x5 x6 x7 x8 x9 d f g i k l m n o p q r s t u w x y z c A B C D E F G H I J K L M N P Q R U V W X Y Z a0 a1 a2 a3 a4 a5 a6 a7 a8 a9 b0 b1 b2 b3 b4 b5 b6 b7 b8 b9 c0:Value) (S:zu)
theorem zJ.r0 :jI zi ⟨false,false,false⟩ (jc zi O) (reg Try.f14 0) (reg Try.f14 0).toList ([x0,b,x2,x3,x4,x5,x6,x7,x8,x9,d,f,g,i,k,l,m,n,o,p,q,r,s,t,u,w,x,y,z,c,A,B,C,D,E,F,G,H,I,J,K,L,M,N,P,Q,R,U,V,W,X,Y,Z,a0,a1,a2,a3,a4,a5,a6,a7,a8,a9,b0,b1,b2,b3,b4,b5,b6,b7,b8,b9,c0]) S =
  (zN (Zk (dem x0) S) (fun v0 S1=>some ([x0,v0,Value.bool false,x3,x4,x5,x6,x7,x8,x9,d,f,g,i,k,l,m,n,o,p,q,r,s,t,u,w,x,y,z,c,A,B,C,D,E,F,G,H,I,J,K,L,M,N,P,Q,R,U,V,W,X,Y,Z,a0,a1,a2,a3,a4,a5,a6,a7,a8,a9,b0,b1,b2,b3,b4,b5,b6,b7,b8,b9,c0],S1)) ()):=by
 kernel_rfl
theorem zJ.d1:kY zi (reg Try.f14 1)=true:=by kernel_rfl
theorem zJ.ff1:fixed zi (reg Try.f14 1)=false:=by kernel_rfl
theorem zJ.k1:checked zi (reg Try.f14 1)=[19]:=by kernel_rfl
theorem zJ.g1:again zi (reg Try.f14 1)=[(19,21)]:=by kernel_rfl
theorem zJ.r1 :zD zi O false (.region 1 (reg Try.f14 1) true) ([x0,b,x2,x3,x4,x5,x6,x7,x8,x9,d,f,g,i,k,l,m,n,o,p,q,r,s,t,u,w,x,y,z,c,A,B,C,D,E,F,G,H,I,J,K,L,M,N,P,Q,R,U,V,W,X,Y,Z,a0,a1,a2,a3,a4,a5,a6,a7,a8,a9,b0,b1,b2,b3,b4,b5,b6,b7,b8,b9,c0]) S =
  KZ (zN (zA zi 30 b 0 S) (fun v0 S1=>zN (zQ zi false 3 v0 S1) (fun v1 S2=>zN (jY zi BinOp.lss 3 v1 (.int .i64 0) S2) (fun v2 S3=>gdK (dem v2) false (zA zi 30 b 0) S3 (fun v4 S4=>gdK (dem v2) false (zQ zi false 3 v4) S4 (fun v5 S5=>gdK (dem v2) false (jY zi BinOp.gtr 3 v5 (.int .i64 6)) S5 (fun v6 S6=>zN (yj (dem v2) (Value.bool true) v6 S6) (fun v7 S7=>gdK (dem v7) false (zA zi 30 b 1) S7 (fun v9 S8=>gdK (dem v7) false (zQ zi false 3 v9) S8 (fun c5 S9=>gdK (dem v7) false (jY zi BinOp.lss 3 c5 (.int .i64 0)) S9 (fun c6 d4=>zN (yj (dem v7) (Value.bool true) c6 d4) (fun c2 d5=>gdK (dem c2) false (zA zi 30 b 1) d5 (fun c3 d6=>gdK (dem c2) false (zQ zi false 3 c3) d6 (fun c7 d7=>gdK (dem c2) false (jY zi BinOp.geq 3 c7 (.int .i64 7)) d7 (fun c8 d8=>zN (yj (dem c2) (Value.bool true) c8 d8) (fun c1 d2=>XY (dem c1) false (zQ zi false 30 b) d2 (fun c9 d9=>gdK (dem c1) false (zQ zi false 30 b) d9 (fun d0 f0=>gdK (dem c1) false ((jc zi O) 37 [(dem d0)]) f0 (fun c4 d3=>gdK (dem c1) false ((jc zi O) 15 [(dem c9),(dem c4)]) d3 (fun f1 f3=>gdK (dem c1) false (aUn zi UnOp.not f1) f3 (fun f2 f4=>zN (yj (dem c1) (Value.bool true) f2 f4) (fun f5 f6=>ckK (kZ b d2 d3 && (true)) (some ([x0,b,x2,v0,v1,v2,dem v2,v4,v5,v6,v7,dem v7,v9,c5,c6,c2,dem c2,c3,c7,c8,c1,dem c1,c9,d0,c4,f1,f2,f5,z,c,A,B,C,D,E,F,G,H,I,J,K,L,M,N,P,Q,R,U,V,W,X,Y,Z,a0,a1,a2,a3,a4,a5,a6,a7,a8,a9,b0,b1,b2,b3,b4,b5,b6,b7,b8,b9,c0],f6)) ()) ()) ()) ()) ()) ()) ()) ()) ()) ()) ()) ()) ()) ()) ()) ()) ()) ()) ()) ()) ()) ()):=by
 rw [xG zJ.d1 zJ.ff1 zJ.k1 zJ.g1]
 refine congrArg KZ ?_
 refine uD Try.f14 1 0 (pe:=zh) (fun v0 S1=>?_)
 refine uD Try.f14 1 1 (pe:=v0) (fun v1 S2=>?_)
 refine uD Try.f14 1 2 (pe:=zh) (fun v2 S3=>?_)
 refine uP Try.f14 1 3 (v:=v2) (pe:=zh) ?_
 refine uG Try.f14 1 4 (j:=3) (pe:=zh) (fun v4 S4=>?_)
 refine uG Try.f14 1 5 (j:=3) (pe:=v4) (fun v5 S5=>?_)
 refine uG Try.f14 1 6 (j:=3) (pe:=zh) (fun v6 S6=>?_)
 refine uD Try.f14 1 7 (pe:=zh) (fun v7 S7=>?_)
 refine uP Try.f14 1 8 (v:=v7) (pe:=zh) ?_
 refine uG Try.f14 1 9 (j:=8) (pe:=zh) (fun v9 S8=>?_)
 refine uG Try.f14 1 10 (j:=8) (pe:=v9) (fun c5 S9=>?_)
 refine uG Try.f14 1 11 (j:=8) (pe:=zh) (fun c6 d4=>?_)
 refine uD Try.f14 1 12 (pe:=zh) (fun c2 d5=>?_)
 refine uP Try.f14 1 13 (v:=c2) (pe:=zh) ?_
 refine uG Try.f14 1 14 (j:=13) (pe:=zh) (fun c3 d6=>?_)
 refine uG Try.f14 1 15 (j:=13) (pe:=c3) (fun c7 d7=>?_)
 refine uG Try.f14 1 16 (j:=13) (pe:=zh) (fun c8 d8=>?_)
 refine uD Try.f14 1 17 (pe:=zh) (fun c1 d2=>?_)
 refine uP Try.f14 1 18 (v:=c1) (pe:=zh) ?_
 refine uGC Try.f14 1 19 (j:=18) (pe:=b) (fun c9 d9=>?_)
 refine uG Try.f14 1 20 (j:=18) (pe:=b) (fun d0 f0=>?_)
 refine uG Try.f14 1 21 (j:=18) (pe:=zh) (fun c4 d3=>?_)
 refine uG Try.f14 1 22 (j:=18) (pe:=zh) (fun f1 f3=>?_)
 refine uG Try.f14 1 23 (j:=18) (pe:=zh) (fun f2 f4=>?_)
 refine uD Try.f14 1 24 (pe:=zh) (fun f5 f6=>?_)
 kernel_rfl
theorem zJ.r2 :jI zi ⟨false,false,false⟩ (jc zi O) (reg Try.f14 2) (reg Try.f14 2).toList ([x0,b,x2,x3,x4,x5,x6,x7,x8,x9,d,f,g,i,k,l,m,n,o,p,q,r,s,t,u,w,x,y,z,c,A,B,C,D,E,F,G,H,I,J,K,L,M,N,P,Q,R,U,V,W,X,Y,Z,a0,a1,a2,a3,a4,a5,a6,a7,a8,a9,b0,b1,b2,b3,b4,b5,b6,b7,b8,b9,c0]) S =
  ( some ([x0,b,Value.bool false,x3,x4,x5,x6,x7,x8,x9,d,f,g,i,k,l,m,n,o,p,q,r,s,t,u,w,x,y,z,c,A,B,C,D,E,F,G,H,I,J,K,L,M,N,P,Q,R,U,V,W,X,Y,Z,a0,a1,a2,a3,a4,a5,a6,a7,a8,a9,b0,b1,b2,b3,b4,b5,b6,b7,b8,b9,c0],S)):=by
 kernel_rfl
theorem zJ.r3 :jI zi ⟨false,false,false⟩ (jc zi O) (reg Try.f14 3) (reg Try.f14 3).toList ([x0,b,x2,x3,x4,x5,x6,x7,x8,x9,d,f,g,i,k,l,m,n,o,p,q,r,s,t,u,w,x,y,z,c,A,B,C,D,E,F,G,H,I,J,K,L,M,N,P,Q,R,U,V,W,X,Y,Z,a0,a1,a2,a3,a4,a5,a6,a7,a8,a9,b0,b1,b2,b3,b4,b5,b6,b7,b8,b9,c0]) S =
  (zN (zA zi 30 b 0 S) (fun v0 S1=>zN (zQ zi false 3 v0 S1) (fun v1 S2=>some ([x0,b,x2,x3,x4,x5,x6,x7,x8,x9,d,f,g,i,k,l,m,n,o,p,q,r,s,t,u,w,x,y,v0,v1,A,B,C,D,E,F,G,H,I,J,K,L,M,N,P,Q,R,U,V,W,X,Y,Z,a0,a1,a2,a3,a4,a5,a6,a7,a8,a9,b0,b1,b2,b3,b4,b5,b6,b7,b8,b9,c0],S2)) ()) ()):=by
 kernel_rfl
theorem zJ.r4 :jI zi ⟨false,false,false⟩ (jc zi O) (reg Try.f14 4) (reg Try.f14 4).toList ([x0,b,x2,x3,x4,x5,x6,x7,x8,x9,d,f,g,i,k,l,m,n,o,p,q,r,s,t,u,w,x,y,z,c,A,B,C,D,E,F,G,H,I,J,K,L,M,N,P,Q,R,U,V,W,X,Y,Z,a0,a1,a2,a3,a4,a5,a6,a7,a8,a9,b0,b1,b2,b3,b4,b5,b6,b7,b8,b9,c0]) S =
  (zN (jY zi BinOp.eql 3 c (.int .i64 0) S) (fun v0 S1=>some ([x0,b,x2,x3,x4,x5,x6,x7,x8,x9,d,f,g,i,k,l,m,n,o,p,q,r,s,t,u,w,x,y,z,c,v0,dem v0,C,D,E,F,G,H,I,J,K,L,M,N,P,Q,R,U,V,W,X,Y,Z,a0,a1,a2,a3,a4,a5,a6,a7,a8,a9,b0,b1,b2,b3,b4,b5,b6,b7,b8,b9,c0],S1)) ()):=by
 kernel_rfl
theorem zJ.r5 :jI zi ⟨false,false,false⟩ (jc zi O) (reg Try.f14 5) (reg Try.f14 5).toList ([x0,b,x2,x3,x4,x5,x6,x7,x8,x9,d,f,g,i,k,l,m,n,o,p,q,r,s,t,u,w,x,y,z,c,A,B,C,D,E,F,G,H,I,J,K,L,M,N,P,Q,R,U,V,W,X,Y,Z,a0,a1,a2,a3,a4,a5,a6,a7,a8,a9,b0,b1,b2,b3,b4,b5,b6,b7,b8,b9,c0]) S =
  (zN (zA zi 30 b 6 S) (fun v0 S1=>zN (zQ zi false 25 v0 S1) (fun v1 S2=>zN ((jc zi O) 38 [(dem v1)] S2) (fun v2 S3=>some ([x0,b,v2,x3,x4,x5,x6,x7,x8,x9,d,f,g,i,k,l,m,n,o,p,q,r,s,t,u,w,x,y,z,c,A,B,v0,v1,dem v2,F,G,H,I,J,K,L,M,N,P,Q,R,U,V,W,X,Y,Z,a0,a1,a2,a3,a4,a5,a6,a7,a8,a9,b0,b1,b2,b3,b4,b5,b6,b7,b8,b9,c0],S3)) ()) ()) ()):=by
 kernel_rfl
theorem zJ.r6 :jI zi ⟨false,false,false⟩ (jc zi O) (reg Try.f14 6) (reg Try.f14 6).toList ([x0,b,x2,x3,x4,x5,x6,x7,x8,x9,d,f,g,i,k,l,m,n,o,p,q,r,s,t,u,w,x,y,z,c,A,B,C,D,E,F,G,H,I,J,K,L,M,N,P,Q,R,U,V,W,X,Y,Z,a0,a1,a2,a3,a4,a5,a6,a7,a8,a9,b0,b1,b2,b3,b4,b5,b6,b7,b8,b9,c0]) S =
  (zN (jY zi BinOp.eql 3 c (.int .i64 1) S) (fun v0 S1=>some ([x0,b,x2,x3,x4,x5,x6,x7,x8,x9,d,f,g,i,k,l,m,n,o,p,q,r,s,t,u,w,x,y,z,c,A,B,C,D,E,v0,dem v0,H,I,J,K,L,M,N,P,Q,R,U,V,W,X,Y,Z,a0,a1,a2,a3,a4,a5,a6,a7,a8,a9,b0,b1,b2,b3,b4,b5,b6,b7,b8,b9,c0],S1)) ()):=by
 kernel_rfl
theorem zJ.r7 :jI zi ⟨false,false,false⟩ (jc zi O) (reg Try.f14 7) (reg Try.f14 7).toList ([x0,b,x2,x3,x4,x5,x6,x7,x8,x9,d,f,g,i,k,l,m,n,o,p,q,r,s,t,u,w,x,y,z,c,A,B,C,D,E,F,G,H,I,J,K,L,M,N,P,Q,R,U,V,W,X,Y,Z,a0,a1,a2,a3,a4,a5,a6,a7,a8,a9,b0,b1,b2,b3,b4,b5,b6,b7,b8,b9,c0]) S =
  (zN (zA zi 30 b 7 S) (fun v0 S1=>zN (zQ zi false 28 v0 S1) (fun v1 S2=>zN ((jc zi O) 39 [(dem v1)] S2) (fun v2 S3=>some ([x0,b,v2,x3,x4,x5,x6,x7,x8,x9,d,f,g,i,k,l,m,n,o,p,q,r,s,t,u,w,x,y,z,c,A,B,C,D,E,F,G,v0,v1,dem v2,K,L,M,N,P,Q,R,U,V,W,X,Y,Z,a0,a1,a2,a3,a4,a5,a6,a7,a8,a9,b0,b1,b2,b3,b4,b5,b6,b7,b8,b9,c0],S3)) ()) ()) ()):=by
 kernel_rfl
theorem zJ.r8 :jI zi ⟨false,false,false⟩ (jc zi O) (reg Try.f14 8) (reg Try.f14 8).toList ([x0,b,x2,x3,x4,x5,x6,x7,x8,x9,d,f,g,i,k,l,m,n,o,p,q,r,s,t,u,w,x,y,z,c,A,B,C,D,E,F,G,H,I,J,K,L,M,N,P,Q,R,U,V,W,X,Y,Z,a0,a1,a2,a3,a4,a5,a6,a7,a8,a9,b0,b1,b2,b3,b4,b5,b6,b7,b8,b9,c0]) S =
  (zN (jY zi BinOp.eql 3 c (.int .i64 3) S) (fun v0 S1=>some ([x0,b,x2,x3,x4,x5,x6,x7,x8,x9,d,f,g,i,k,l,m,n,o,p,q,r,s,t,u,w,x,y,z,c,A,B,C,D,E,F,G,H,I,J,v0,dem v0,M,N,P,Q,R,U,V,W,X,Y,Z,a0,a1,a2,a3,a4,a5,a6,a7,a8,a9,b0,b1,b2,b3,b4,b5,b6,b7,b8,b9,c0],S1)) ()):=by
 kernel_rfl
theorem zJ.r9 :jI zi ⟨false,false,false⟩ (jc zi O) (reg Try.f14 9) (reg Try.f14 9).toList ([x0,b,x2,x3,x4,x5,x6,x7,x8,x9,d,f,g,i,k,l,m,n,o,p,q,r,s,t,u,w,x,y,z,c,A,B,C,D,E,F,G,H,I,J,K,L,M,N,P,Q,R,U,V,W,X,Y,Z,a0,a1,a2,a3,a4,a5,a6,a7,a8,a9,b0,b1,b2,b3,b4,b5,b6,b7,b8,b9,c0]) S =
  (zN (zA zi 30 b 5 S) (fun v0 S1=>zN (zQ zi false 3 v0 S1) (fun v1 S2=>zN (jY zi BinOp.lss 3 v1 (.int .i64 (-1)) S2) (fun v2 S3=>gdK (dem v2) false (zA zi 30 b 5) S3 (fun v4 S4=>gdK (dem v2) false (zQ zi false 3 v4) S4 (fun v5 S5=>gdK (dem v2) false (zA zi 30 b 3) S5 (fun v6 S6=>gdK (dem v2) false (zQ zi false 3 v6) S6 (fun v7 S7=>gdK (dem v2) false (jY zi BinOp.geq 3 v5 v7) S7 (fun v8 S8=>zN (yj (dem v2) (Value.bool true) v8 S8) (fun v9 S9=>some ([x0,b,x2,x3,x4,x5,x6,x7,x8,x9,d,f,g,i,k,l,m,n,o,p,q,r,s,t,u,w,x,y,z,c,A,B,C,D,E,F,G,H,I,J,K,L,v0,v1,v2,dem v2,v4,v5,v6,v7,v8,v9,Z,a0,a1,a2,a3,a4,a5,a6,a7,a8,a9,b0,b1,b2,b3,b4,b5,b6,b7,b8,b9,c0],S9)) ()) ()) ()) ()) ()) ()) ()) ()) ()):=by
 refine sD Try.f14 9 0 (fun v0 S1=>?_)
 refine sD Try.f14 9 1 (fun v1 S2=>?_)
 refine sD Try.f14 9 2 (fun v2 S3=>?_)
 refine sP Try.f14 9 3 (v:=v2) ?_
 refine sG Try.f14 9 4 (j:=3) (fun v4 S4=>?_)
 refine sG Try.f14 9 5 (j:=3) (fun v5 S5=>?_)
 refine sG Try.f14 9 6 (j:=3) (fun v6 S6=>?_)
 refine sG Try.f14 9 7 (j:=3) (fun v7 S7=>?_)
 refine sG Try.f14 9 8 (j:=3) (fun v8 S8=>?_)
 refine sD Try.f14 9 9 (fun v9 S9=>?_)
 kernel_rfl
theorem zJ.r10 :jI zi ⟨false,false,false⟩ (jc zi O) (reg Try.f14 10) (reg Try.f14 10).toList ([x0,b,x2,x3,x4,x5,x6,x7,x8,x9,d,f,g,i,k,l,m,n,o,p,q,r,s,t,u,w,x,y,z,c,A,B,C,D,E,F,G,H,I,J,K,L,M,N,P,Q,R,U,V,W,X,Y,Z,a0,a1,a2,a3,a4,a5,a6,a7,a8,a9,b0,b1,b2,b3,b4,b5,b6,b7,b8,b9,c0]) S =
  ( some ([x0,b,Value.bool false,x3,x4,x5,x6,x7,x8,x9,d,f,g,i,k,l,m,n,o,p,q,r,s,t,u,w,x,y,z,c,A,B,C,D,E,F,G,H,I,J,K,L,M,N,P,Q,R,U,V,W,X,Y,Z,a0,a1,a2,a3,a4,a5,a6,a7,a8,a9,b0,b1,b2,b3,b4,b5,b6,b7,b8,b9,c0],S)):=by
 kernel_rfl
theorem zJ.r11 :jI zi ⟨false,false,false⟩ (jc zi O) (reg Try.f14 11) (reg Try.f14 11).toList ([x0,b,x2,x3,x4,x5,x6,x7,x8,x9,d,f,g,i,k,l,m,n,o,p,q,r,s,t,u,w,x,y,z,c,A,B,C,D,E,F,G,H,I,J,K,L,M,N,P,Q,R,U,V,W,X,Y,Z,a0,a1,a2,a3,a4,a5,a6,a7,a8,a9,b0,b1,b2,b3,b4,b5,b6,b7,b8,b9,c0]) S =
  (zN (zA zi 30 b 2 S) (fun v0 S1=>zN (zQ zi false 3 v0 S1) (fun v1 S2=>zN (jY zi BinOp.geq 3 v1 (.int .i64 0) S2) (fun v2 S3=>gdK (dem v2) true (zA zi 30 b 2) S3 (fun v4 S4=>gdK (dem v2) true (zQ zi false 3 v4) S4 (fun v5 S5=>gdK (dem v2) true (jY zi BinOp.leq 3 v5 (.int .i64 1000)) S5 (fun v6 S6=>zN (yj (dem v2) v6 (Value.bool false) S6) (fun v7 S7=>gdK (dem v7) true (zA zi 30 b 3) S7 (fun v9 S8=>gdK (dem v7) true (zQ zi false 3 v9) S8 (fun c5 S9=>gdK (dem v7) true (jY zi BinOp.geq 3 c5 (.int .i64 0)) S9 (fun c6 d4=>zN (yj (dem v7) c6 (Value.bool false) d4) (fun c2 d5=>gdK (dem c2) true (zA zi 30 b 3) d5 (fun c3 d6=>gdK (dem c2) true (zQ zi false 3 c3) d6 (fun c7 d7=>gdK (dem c2) true (jY zi BinOp.leq 3 c7 (.int .i64 1000)) d7 (fun c8 d8=>zN (yj (dem c2) c8 (Value.bool false) d8) (fun c1 d2=>gdK (dem c1) true (zQ zi false 30 b) d2 (fun c9 d9=>gdK (dem c1) true ((jc zi O) 40 [(dem c9)]) d9 (fun d0 f0=>zN (yj (dem c1) d0 (Value.bool false) f0) (fun c4 d3=>some ([x0,b,c4,x3,x4,x5,x6,x7,x8,x9,d,f,g,i,k,l,m,n,o,p,q,r,s,t,u,w,x,y,z,c,A,B,C,D,E,F,G,H,I,J,K,L,M,N,P,Q,R,U,V,W,X,Y,v0,v1,v2,dem v2,v4,v5,v6,v7,dem v7,v9,c5,c6,c2,dem c2,c3,c7,c8,c1,dem c1,c9,d0,dem c4],d3)) ()) ()) ()) ()) ()) ()) ()) ()) ()) ()) ()) ()) ()) ()) ()) ()) ()) ()):=by
 refine sD Try.f14 11 0 (fun v0 S1=>?_)
 refine sD Try.f14 11 1 (fun v1 S2=>?_)
 refine sD Try.f14 11 2 (fun v2 S3=>?_)
 refine sP Try.f14 11 3 (v:=v2) ?_
 refine sG Try.f14 11 4 (j:=3) (fun v4 S4=>?_)
 refine sG Try.f14 11 5 (j:=3) (fun v5 S5=>?_)
 refine sG Try.f14 11 6 (j:=3) (fun v6 S6=>?_)
 refine sD Try.f14 11 7 (fun v7 S7=>?_)
 refine sP Try.f14 11 8 (v:=v7) ?_
 refine sG Try.f14 11 9 (j:=8) (fun v9 S8=>?_)
 refine sG Try.f14 11 10 (j:=8) (fun c5 S9=>?_)
 refine sG Try.f14 11 11 (j:=8) (fun c6 d4=>?_)
 refine sD Try.f14 11 12 (fun c2 d5=>?_)
 refine sP Try.f14 11 13 (v:=c2) ?_
 refine sG Try.f14 11 14 (j:=13) (fun c3 d6=>?_)
 refine sG Try.f14 11 15 (j:=13) (fun c7 d7=>?_)
 refine sG Try.f14 11 16 (j:=13) (fun c8 d8=>?_)
 refine sD Try.f14 11 17 (fun c1 d2=>?_)
 refine sP Try.f14 11 18 (v:=c1) ?_
 refine sG Try.f14 11 19 (j:=18) (fun c9 d9=>?_)
 refine sG Try.f14 11 20 (j:=18) (fun d0 f0=>?_)
 refine sD Try.f14 11 21 (fun c4 d3=>?_)
 refine sP Try.f14 11 22 (v:=c4) ?_
 kernel_rfl
theorem zJ.rs:type_of% (aiJ @zJ.r0 (aiJ @zJ.r1 (aiJ @zJ.r2 (aiJ @zJ.r3 (aiJ @zJ.r4 (aiJ @zJ.r5 (aiJ @zJ.r6 (aiJ @zJ.r7 (aiJ @zJ.r8 (aiJ @zJ.r9 (aiJ @zJ.r10 (@zJ.r11)))))))))))):=aiJ @zJ.r0 (aiJ @zJ.r1 (aiJ @zJ.r2 (aiJ @zJ.r3 (aiJ @zJ.r4 (aiJ @zJ.r5 (aiJ @zJ.r6 (aiJ @zJ.r7 (aiJ @zJ.r8 (aiJ @zJ.r9 (aiJ @zJ.r10 (@zJ.r11)))))))))))
theorem zJ.runs {x0:Value} {S S1:zu} {e:AEx} {T:List Value} (h:zD zi O false zJ.code ([x0,zh,zh,zh,zh,zh,zh,zh,zh,zh,zh,zh,zh,zh,zh,zh,zh,zh,zh,zh,zh,zh,zh,zh,zh,zh,zh,zh,zh,zh,zh,zh,zh,zh,zh,zh,zh,zh,zh,zh,zh,zh,zh,zh,zh,zh,zh,zh,zh,zh,zh,zh,zh,zh,zh,zh,zh,zh,zh,zh,zh,zh,zh,zh,zh,zh,zh,zh,zh,zh,zh,zh,zh,zh]) zu.empty=some (e,T,S1)) (he:e=.normal∨e=.ret) (hca:[x0].all (jg 16)=true) (hcv:jg 16 (T.getD 2 zh)=true):jc zi O 14 [x0] S=some (T.getD 2 zh,S) :=
 yC rfl rfl Try.func14 (by decide) zJ.body (by exact h) he (wJ (a:=T.getD 2 zh) ((show zL zi T S1 Try.f14.results.toList=zL zi T S1 [(ResultVar.tmp 2)] from by kernel_rfl).trans (by simp only [zL])) (by kernel_rfl)) hca hcv
end Go.Proofs.Ytbgcphbbchndkaa
namespace Go.Proofs.Ytbgcphbbchndkaa
open Go.Abs
abbrev zC.id:FuncId:=37
noncomputable def zC.code:Code:=(.seq (.region 0 (reg Try.f37 0) false) (.seq (.region 1 (reg Try.f37 1) false) (.seq (.seq (.region 2 (reg Try.f37 2) false) (.block 0 (.seq (.block 6 (.seq (.block 5 (.seq (.block 4 (.seq (.block 3 (.seq (.block 2 (.seq (.block 1 (.seq (.seq (.seq (.region 3 (reg Try.f37 3) false) (.cond (.tmp 11) (.exit 1) Code.skip)) (.seq (.seq (.region 4 (reg Try.f37 4) false) (.cond (.tmp 13) (.exit 2) Code.skip)) (.seq (.seq (.region 5 (reg Try.f37 5) false) (.cond (.tmp 15) (.exit 3) Code.skip)) (.seq (.seq (.region 6 (reg Try.f37 6) false) (.cond (.tmp 17) (.exit 4) Code.skip)) (.seq (.seq (.seq (.region 7 (reg Try.f37 7) false) (.cond (.tmp 19) Code.skip (.region 8 (reg Try.f37 8) false))) (.cond (.tmp 19) (.exit 5) Code.skip)) (.seq (.region 9 (reg Try.f37 9) false) (.cond (.tmp 22) (.exit 6) Code.skip))))))) (.exit 0))) (.seq (.region 10 (reg Try.f37 10) false) (.exit 0)))) (.seq (.region 11 (reg Try.f37 11) false) (.exit 0)))) (.seq (.region 12 (reg Try.f37 12) false) (.exit 0)))) (.region 13 (reg Try.f37 13) false))) (.region 14 (reg Try.f37 14) false))) (.seq (.region 15 (reg Try.f37 15) true) (.exit 0))))) (.seq (.region 16 (reg Try.f37 16) false) Code.ret))))
theorem zC.body:Try.f37.body=some zC.code:=by kernel_rfl
variable (U P V Q W X Y Z x8 x9 b d f g i j k l m N n o p q r s t u v w x y z A B C D E F G H I J K L M:Value) (S:zu)
theorem zC.r0 :jI zi ⟨false,false,false⟩ (jc zi O) (reg Try.f37 0) (reg Try.f37 0).toList ([U,P,V,Q,W,X,Y,Z,x8,x9,b,d,f,g,i,j,k,l,m,N,n,o,p,q,r,s,t,u,v,w,x,y,z,A,B,C,D,E,F,G,H,I,J,K,L,M]) S =
  (zN (Zk (dem U) S) (fun c R=>zN (yc zi 30 R) (fun v1 S2=>some ([U,c,v1,Q,W,X,Y,Z,x8,x9,b,d,f,g,i,j,k,l,m,N,n,o,p,q,r,s,t,u,v,w,x,y,z,A,B,C,D,E,F,G,H,I,J,K,L,M],S2)) ()) ()):=by
 kernel_rfl
theorem zC.r1 :jI zi ⟨false,false,false⟩ (jc zi O) (reg Try.f37 1) (reg Try.f37 1).toList ([U,P,V,Q,W,X,Y,Z,x8,x9,b,d,f,g,i,j,k,l,m,N,n,o,p,q,r,s,t,u,v,w,x,y,z,A,B,C,D,E,F,G,H,I,J,K,L,M]) S =
  (zN (zA zi 30 P 0 S) (fun c R=>zN (zQ zi false 3 c R) (fun v1 S2=>zN (zA zi 30 P 1 S2) (fun v2 S3=>zN (zQ zi false 3 v2 S3) (fun v3 S4=>zN (xH zi 30 [(0,(dem v1)),(1,(dem v3))] S4) (fun v4 S5=>zN (yc zi 30 S5) (fun v5 S6=>zN (wo zi 30 v5 (dem v4) S6) (fun v6 S7=>some ([U,P,V,v5,c,v1,v2,v3,v4,x9,b,d,f,g,i,j,k,l,m,N,n,o,p,q,r,s,t,u,v,w,x,y,z,A,B,C,D,E,F,G,H,I,J,K,L,M],S7)) ()) ()) ()) ()) ()) ()) ()):=by
 kernel_rfl
theorem zC.r2 :jI zi ⟨false,false,false⟩ (jc zi O) (reg Try.f37 2) (reg Try.f37 2).toList ([U,P,V,Q,W,X,Y,Z,x8,x9,b,d,f,g,i,j,k,l,m,N,n,o,p,q,r,s,t,u,v,w,x,y,z,A,B,C,D,E,F,G,H,I,J,K,L,M]) S =
  (zN (zA zi 30 P 0 S) (fun c R=>zN (zQ zi false 3 c R) (fun v1 S2=>some ([U,P,V,Q,W,X,Y,Z,x8,c,v1,d,f,g,i,j,k,l,m,N,n,o,p,q,r,s,t,u,v,w,x,y,z,A,B,C,D,E,F,G,H,I,J,K,L,M],S2)) ()) ()):=by
 kernel_rfl
theorem zC.r3 :jI zi ⟨false,false,false⟩ (jc zi O) (reg Try.f37 3) (reg Try.f37 3).toList ([U,P,V,Q,W,X,Y,Z,x8,x9,b,d,f,g,i,j,k,l,m,N,n,o,p,q,r,s,t,u,v,w,x,y,z,A,B,C,D,E,F,G,H,I,J,K,L,M]) S =
  (zN (jY zi BinOp.eql 3 b (.int .i64 0) S) (fun c R=>some ([U,P,V,Q,W,X,Y,Z,x8,x9,b,c,dem c,g,i,j,k,l,m,N,n,o,p,q,r,s,t,u,v,w,x,y,z,A,B,C,D,E,F,G,H,I,J,K,L,M],R)) ()):=by
 kernel_rfl
theorem zC.r4 :jI zi ⟨false,false,false⟩ (jc zi O) (reg Try.f37 4) (reg Try.f37 4).toList ([U,P,V,Q,W,X,Y,Z,x8,x9,b,d,f,g,i,j,k,l,m,N,n,o,p,q,r,s,t,u,v,w,x,y,z,A,B,C,D,E,F,G,H,I,J,K,L,M]) S =
  (zN (jY zi BinOp.eql 3 b (.int .i64 1) S) (fun c R=>some ([U,P,V,Q,W,X,Y,Z,x8,x9,b,d,f,c,dem c,j,k,l,m,N,n,o,p,q,r,s,t,u,v,w,x,y,z,A,B,C,D,E,F,G,H,I,J,K,L,M],R)) ()):=by
 kernel_rfl
theorem zC.r5 :jI zi ⟨false,false,false⟩ (jc zi O) (reg Try.f37 5) (reg Try.f37 5).toList ([U,P,V,Q,W,X,Y,Z,x8,x9,b,d,f,g,i,j,k,l,m,N,n,o,p,q,r,s,t,u,v,w,x,y,z,A,B,C,D,E,F,G,H,I,J,K,L,M]) S =
  (zN (jY zi BinOp.eql 3 b (.int .i64 2) S) (fun c R=>some ([U,P,V,Q,W,X,Y,Z,x8,x9,b,d,f,g,i,c,dem c,l,m,N,n,o,p,q,r,s,t,u,v,w,x,y,z,A,B,C,D,E,F,G,H,I,J,K,L,M],R)) ()):=by
 kernel_rfl
theorem zC.r6 :jI zi ⟨false,false,false⟩ (jc zi O) (reg Try.f37 6) (reg Try.f37 6).toList ([U,P,V,Q,W,X,Y,Z,x8,x9,b,d,f,g,i,j,k,l,m,N,n,o,p,q,r,s,t,u,v,w,x,y,z,A,B,C,D,E,F,G,H,I,J,K,L,M]) S =
  (zN (jY zi BinOp.eql 3 b (.int .i64 3) S) (fun c R=>some ([U,P,V,Q,W,X,Y,Z,x8,x9,b,d,f,g,i,j,k,c,dem c,N,n,o,p,q,r,s,t,u,v,w,x,y,z,A,B,C,D,E,F,G,H,I,J,K,L,M],R)) ()):=by
 kernel_rfl
theorem zC.r7 :jI zi ⟨false,false,false⟩ (jc zi O) (reg Try.f37 7) (reg Try.f37 7).toList ([U,P,V,Q,W,X,Y,Z,x8,x9,b,d,f,g,i,j,k,l,m,N,n,o,p,q,r,s,t,u,v,w,x,y,z,A,B,C,D,E,F,G,H,I,J,K,L,M]) S =
  (zN (jY zi BinOp.eql 3 b (.int .i64 4) S) (fun c R=>some ([U,P,V,Q,W,X,Y,Z,x8,x9,b,d,f,g,i,j,k,l,m,c,dem c,o,p,q,r,s,t,u,v,w,x,y,z,A,B,C,D,E,F,G,H,I,J,K,L,M],R)) ()):=by
 kernel_rfl
theorem zC.r8 :jI zi ⟨false,false,false⟩ (jc zi O) (reg Try.f37 8) (reg Try.f37 8).toList ([U,P,V,Q,W,X,Y,Z,x8,x9,b,d,f,g,i,j,k,l,m,N,n,o,p,q,r,s,t,u,v,w,x,y,z,A,B,C,D,E,F,G,H,I,J,K,L,M]) S =
  (zN (jY zi BinOp.eql 3 b (.int .i64 5) S) (fun c R=>some ([U,P,V,Q,W,X,Y,Z,x8,x9,b,d,f,g,i,j,k,l,m,c,n,dem c,p,q,r,s,t,u,v,w,x,y,z,A,B,C,D,E,F,G,H,I,J,K,L,M],R)) ()):=by
 kernel_rfl
theorem zC.r9 :jI zi ⟨false,false,false⟩ (jc zi O) (reg Try.f37 9) (reg Try.f37 9).toList ([U,P,V,Q,W,X,Y,Z,x8,x9,b,d,f,g,i,j,k,l,m,N,n,o,p,q,r,s,t,u,v,w,x,y,z,A,B,C,D,E,F,G,H,I,J,K,L,M]) S =
  (zN (jY zi BinOp.eql 3 b (.int .i64 6) S) (fun c R=>some ([U,P,V,Q,W,X,Y,Z,x8,x9,b,d,f,g,i,j,k,l,m,N,n,o,c,dem c,r,s,t,u,v,w,x,y,z,A,B,C,D,E,F,G,H,I,J,K,L,M],R)) ()):=by
 kernel_rfl
theorem zC.r10 :jI zi ⟨false,false,false⟩ (jc zi O) (reg Try.f37 10) (reg Try.f37 10).toList ([U,P,V,Q,W,X,Y,Z,x8,x9,b,d,f,g,i,j,k,l,m,N,n,o,p,q,r,s,t,u,v,w,x,y,z,A,B,C,D,E,F,G,H,I,J,K,L,M]) S =
  (zN (zA zi 30 P 6 S) (fun c R=>zN (zQ zi false 25 c R) (fun v1 S2=>zN (zA zi 30 Q 6 S2) (fun v2 S3=>zN (wo zi 25 v2 (dem v1) S3) (fun v3 S4=>some ([U,P,V,Q,W,X,Y,Z,x8,x9,b,d,f,g,i,j,k,l,m,N,n,o,p,q,c,v1,v2,u,v,w,x,y,z,A,B,C,D,E,F,G,H,I,J,K,L,M],S4)) ()) ()) ()) ()):=by
 kernel_rfl
theorem zC.r11 :jI zi ⟨false,false,false⟩ (jc zi O) (reg Try.f37 11) (reg Try.f37 11).toList ([U,P,V,Q,W,X,Y,Z,x8,x9,b,d,f,g,i,j,k,l,m,N,n,o,p,q,r,s,t,u,v,w,x,y,z,A,B,C,D,E,F,G,H,I,J,K,L,M]) S =
  (zN (zA zi 30 P 7 S) (fun c R=>zN (zQ zi false 28 c R) (fun v1 S2=>zN (zA zi 30 Q 7 S2) (fun v2 S3=>zN (wo zi 28 v2 (dem v1) S3) (fun v3 S4=>some ([U,P,V,Q,W,X,Y,Z,x8,x9,b,d,f,g,i,j,k,l,m,N,n,o,p,q,r,s,t,c,v1,v2,x,y,z,A,B,C,D,E,F,G,H,I,J,K,L,M],S4)) ()) ()) ()) ()):=by
 kernel_rfl
theorem zC.r12 :jI zi ⟨false,false,false⟩ (jc zi O) (reg Try.f37 12) (reg Try.f37 12).toList ([U,P,V,Q,W,X,Y,Z,x8,x9,b,d,f,g,i,j,k,l,m,N,n,o,p,q,r,s,t,u,v,w,x,y,z,A,B,C,D,E,F,G,H,I,J,K,L,M]) S =
  (zN (zA zi 30 P 4 S) (fun c R=>zN (zQ zi false 3 c R) (fun v1 S2=>zN (zA zi 30 Q 4 S2) (fun v2 S3=>zN (wo zi 3 v2 (dem v1) S3) (fun v3 S4=>some ([U,P,V,Q,W,X,Y,Z,x8,x9,b,d,f,g,i,j,k,l,m,N,n,o,p,q,r,s,t,u,v,w,c,v1,v2,A,B,C,D,E,F,G,H,I,J,K,L,M],S4)) ()) ()) ()) ()):=by
 kernel_rfl
theorem zC.r13 :jI zi ⟨false,false,false⟩ (jc zi O) (reg Try.f37 13) (reg Try.f37 13).toList ([U,P,V,Q,W,X,Y,Z,x8,x9,b,d,f,g,i,j,k,l,m,N,n,o,p,q,r,s,t,u,v,w,x,y,z,A,B,C,D,E,F,G,H,I,J,K,L,M]) S =
  (zN (zA zi 30 P 5 S) (fun c R=>zN (zQ zi false 3 c R) (fun v1 S2=>zN (zA zi 30 Q 5 S2) (fun v2 S3=>zN (wo zi 3 v2 (dem v1) S3) (fun v3 S4=>some ([U,P,V,Q,W,X,Y,Z,x8,x9,b,d,f,g,i,j,k,l,m,N,n,o,p,q,r,s,t,u,v,w,x,y,z,c,v1,v2,D,E,F,G,H,I,J,K,L,M],S4)) ()) ()) ()) ()):=by
 kernel_rfl
theorem zC.r14 :jI zi ⟨false,false,false⟩ (jc zi O) (reg Try.f37 14) (reg Try.f37 14).toList ([U,P,V,Q,W,X,Y,Z,x8,x9,b,d,f,g,i,j,k,l,m,N,n,o,p,q,r,s,t,u,v,w,x,y,z,A,B,C,D,E,F,G,H,I,J,K,L,M]) S =
  (zN (zA zi 30 P 3 S) (fun c R=>zN (zQ zi false 3 c R) (fun v1 S2=>zN (zA zi 30 Q 3 S2) (fun v2 S3=>zN (wo zi 3 v2 (dem v1) S3) (fun v3 S4=>some ([U,P,V,Q,W,X,Y,Z,x8,x9,b,d,f,g,i,j,k,l,m,N,n,o,p,q,r,s,t,u,v,w,x,y,z,A,B,C,c,v1,v2,G,H,I,J,K,L,M],S4)) ()) ()) ()) ()):=by
 kernel_rfl
theorem zC.d15:kY zi (reg Try.f37 15)=true:=by kernel_rfl
theorem zC.aiF:fixed zi (reg Try.f37 15)=false:=by kernel_rfl
theorem zC.k15:checked zi (reg Try.f37 15)=[2,3]:=by kernel_rfl
theorem zC.g15:again zi (reg Try.f37 15)=[(3,5)]:=by kernel_rfl
theorem zC.r15 :zD zi O false (.region 15 (reg Try.f37 15) true) ([U,P,V,Q,W,X,Y,Z,x8,x9,b,d,f,g,i,j,k,l,m,N,n,o,p,q,r,s,t,u,v,w,x,y,z,A,B,C,D,E,F,G,H,I,J,K,L,M]) S =
  KZ (zN (zA zi 30 P 2 S) (fun c R=>zN (zQ zi false 3 c R) (fun v1 S2=>zN (zA zi 30 P 4 S2) (fun v2 S3=>okK v2 ( zN (zQ zi false 3 v2 S3) (fun v3 S4=>okK v3 ( zN (zA zi 30 Q 2 S4) (fun v4 S5=>zN (wo zi 3 v4 (dem v1) S5) (fun v5 S6=>zN (zA zi 30 Q 4 S6) (fun v6 S7=>zN (wo zi 3 v6 (dem v3) S7) (fun v7 S8=>ckK (kZ v2 S3 S6 && (true)) (some ([U,P,V,Q,W,X,Y,Z,x8,x9,b,d,f,g,i,j,k,l,m,N,n,o,p,q,r,s,t,u,v,w,x,y,z,A,B,C,D,E,F,c,v1,v2,v3,v4,v6,M],S8)) ()) ()) ()) ()) ()) ()) ()) ()) ()) ()) ()):=by
 rw [xG zC.d15 zC.aiF zC.k15 zC.g15]
 refine congrArg KZ ?_
 refine uD Try.f37 15 0 (pe:=zh) (fun c R=>?_)
 refine uD Try.f37 15 1 (pe:=c) (fun v1 S2=>?_)
 refine uDC Try.f37 15 2 (pe:=zh) (fun v2 S3=>?_)
 refine uDC Try.f37 15 3 (pe:=v2) (fun v3 S4=>?_)
 refine uD Try.f37 15 4 (pe:=zh) (fun v4 S5=>?_)
 refine uD Try.f37 15 5 (pe:=zh) (fun v5 S6=>?_)
 refine uD Try.f37 15 6 (pe:=zh) (fun v6 S7=>?_)
 refine uD Try.f37 15 7 (pe:=zh) (fun v7 S8=>?_)
 kernel_rfl
theorem zC.r16 :jI zi ⟨false,false,false⟩ (jc zi O) (reg Try.f37 16) (reg Try.f37 16).toList ([U,P,V,Q,W,X,Y,Z,x8,x9,b,d,f,g,i,j,k,l,m,N,n,o,p,q,r,s,t,u,v,w,x,y,z,A,B,C,D,E,F,G,H,I,J,K,L,M]) S =
  (zN (zQ zi false 30 Q S) (fun c R=>zN (wo zi 30 V (dem c) R) (fun v1 S2=>some ([U,P,V,Q,W,X,Y,Z,x8,x9,b,d,f,g,i,j,k,l,m,N,n,o,p,q,r,s,t,u,v,w,x,y,z,A,B,C,D,E,F,G,H,I,J,K,L,c],S2)) ()) ()):=by
 kernel_rfl
theorem zC.rs:type_of% (aiJ @zC.r0 (aiJ @zC.r1 (aiJ @zC.r2 (aiJ @zC.r3 (aiJ @zC.r4 (aiJ @zC.r5 (aiJ @zC.r6 (aiJ @zC.r7 (aiJ @zC.r8 (aiJ @zC.r9 (aiJ @zC.r10 (aiJ @zC.r11 (aiJ @zC.r12 (aiJ @zC.r13 (aiJ @zC.r14 (aiJ @zC.r15 (@zC.r16))))))))))))))))):=aiJ @zC.r0 (aiJ @zC.r1 (aiJ @zC.r2 (aiJ @zC.r3 (aiJ @zC.r4 (aiJ @zC.r5 (aiJ @zC.r6 (aiJ @zC.r7 (aiJ @zC.r8 (aiJ @zC.r9 (aiJ @zC.r10 (aiJ @zC.r11 (aiJ @zC.r12 (aiJ @zC.r13 (aiJ @zC.r14 (aiJ @zC.r15 (@zC.r16))))))))))))))))
theorem zC.runs {U:Value} {S R:zu} {e:AEx} {T:List Value} (h:zD zi O false zC.code ([U,zh,zh,zh,zh,zh,zh,zh,zh,zh,zh,zh,zh,zh,zh,zh,zh,zh,zh,zh,zh,zh,zh,zh,zh,zh,zh,zh,zh,zh,zh,zh,zh,zh,zh,zh,zh,zh,zh,zh,zh,zh,zh,zh,zh,zh]) zu.empty=some (e,T,R)) (he:e=.normal∨e=.ret) {w0:Value} (c0:zQ zi false 30 (T.getD 2 zh) R=some (w0,R)) (hca:[U].all (jg 16)=true) (hcv:jg 16 (w0)=true):jc zi O 37 [U] S=some (w0,S) :=
 yC rfl rfl Try.func37 (by decide) zC.body (by exact h) he (wJ (a:=w0) ((show zL zi T R Try.f37.results.toList=zL zi T R [(ResultVar.cell 2 30)] from by kernel_rfl).trans (by simp only [zL,c0])) (by kernel_rfl)) hca hcv
end Go.Proofs.Ytbgcphbbchndkaa
namespace Go.Proofs.Ytbgcphbbchndkaa
open Go.Abs
abbrev jr.id:FuncId:=15
noncomputable def jr.code:Code:=(.seq (.region 0 (reg Try.f15 0) false) (.seq (.region 1 (reg Try.f15 1) false) (.seq (.region 2 (reg Try.f15 2) false) Code.ret)))
theorem jr.body:Try.f15.body=some jr.code:=by kernel_rfl
variable (o p l m x4 g x6 x7 x8 x9 z A B C D E F G H I J K L M N P Q R U V W X Y Z a0 a1 a2 a3 a4 a5 a6 a7 a8 a9 b0 b1 b2 b3 b4 b5 b6 b7 b8 b9 c0 c1 c2 c3 c4 c5 c6:Value) (S:zu)
theorem jr.r0 :jI zi ⟨false,false,false⟩ (jc zi O) (reg Try.f15 0) (reg Try.f15 0).toList ([o,p,l,m,x4,g,x6,x7,x8,x9,z,A,B,C,D,E,F,G,H,I,J,K,L,M,N,P,Q,R,U,V,W,X,Y,Z,a0,a1,a2,a3,a4,a5,a6,a7,a8,a9,b0,b1,b2,b3,b4,b5,b6,b7,b8,b9,c0,c1,c2,c3,c4,c5,c6]) S =
  (zN (Zk (dem o) S) (fun v0 q=>zN (Zk (dem p) q) (fun v1 S2=>some ([o,p,v0,v1,Value.bool false,g,x6,x7,x8,x9,z,A,B,C,D,E,F,G,H,I,J,K,L,M,N,P,Q,R,U,V,W,X,Y,Z,a0,a1,a2,a3,a4,a5,a6,a7,a8,a9,b0,b1,b2,b3,b4,b5,b6,b7,b8,b9,c0,c1,c2,c3,c4,c5,c6],S2)) ()) ()):=by
 kernel_rfl
theorem jr.r1 :jI zi ⟨false,false,false⟩ (jc zi O) (reg Try.f15 1) (reg Try.f15 1).toList ([o,p,l,m,x4,g,x6,x7,x8,x9,z,A,B,C,D,E,F,G,H,I,J,K,L,M,N,P,Q,R,U,V,W,X,Y,Z,a0,a1,a2,a3,a4,a5,a6,a7,a8,a9,b0,b1,b2,b3,b4,b5,b6,b7,b8,b9,c0,c1,c2,c3,c4,c5,c6]) S =
  (zN (zA zi 30 l 0 S) (fun v0 q=>zN (zQ zi false 3 v0 q) (fun v1 S2=>zN (zA zi 30 m 0 S2) (fun v2 S3=>zN (zQ zi false 3 v2 S3) (fun v3 S4=>zN (jY zi BinOp.eql 3 v1 v3 S4) (fun i S5=>gdK (dem i) true (zA zi 30 l 1) S5 (fun v6 S6=>gdK (dem i) true (zQ zi false 3 v6) S6 (fun k S7=>gdK (dem i) true (zA zi 30 m 1) S7 (fun v8 S8=>gdK (dem i) true (zQ zi false 3 v8) S8 (fun v9 S9=>gdK (dem i) true (jY zi BinOp.eql 3 k v9) S9 (fun r c7=>zN (yj (dem i) r (Value.bool false) c7) (fun b c8=>gdK (dem b) true (zA zi 30 l 2) c8 (fun s c9=>gdK (dem b) true (zQ zi false 3 s) c9 (fun c d0=>gdK (dem b) true (zA zi 30 m 2) d0 (fun f2 d1=>gdK (dem b) true (zQ zi false 3 f2) d1 (fun t d2=>gdK (dem b) true (jY zi BinOp.eql 3 c t) d2 (fun u d3=>zN (yj (dem b) u (Value.bool false) d3) (fun d d4=>gdK (dem d) true (zA zi 30 l 3) d4 (fun w d5=>gdK (dem d) true (zQ zi false 3 w) d5 (fun f d6=>gdK (dem d) true (zA zi 30 m 3) d6 (fun f3 d7=>gdK (dem d) true (zQ zi false 3 f3) d7 (fun x d8=>gdK (dem d) true (jY zi BinOp.eql 3 f x) d8 (fun y d9=>zN (yj (dem d) y (Value.bool false) d9) (fun n f0=>some ([o,p,l,m,x4,n,v0,v1,v2,v3,i,dem i,v6,k,v8,v9,r,b,dem b,s,c,f2,t,u,d,dem d,w,f,f3,x,y,dem n,Y,Z,a0,a1,a2,a3,a4,a5,a6,a7,a8,a9,b0,b1,b2,b3,b4,b5,b6,b7,b8,b9,c0,c1,c2,c3,c4,c5,c6],f0)) ()) ()) ()) ()) ()) ()) ()) ()) ()) ()) ()) ()) ()) ()) ()) ()) ()) ()) ()) ()) ()) ()) ()):=by
 refine sD Try.f15 1 0 (fun v0 q=>?_)
 refine sD Try.f15 1 1 (fun v1 S2=>?_)
 refine sD Try.f15 1 2 (fun v2 S3=>?_)
 refine sD Try.f15 1 3 (fun v3 S4=>?_)
 refine sD Try.f15 1 4 (fun i S5=>?_)
 refine sP Try.f15 1 5 (v:=i) ?_
 refine sG Try.f15 1 6 (j:=5) (fun v6 S6=>?_)
 refine sG Try.f15 1 7 (j:=5) (fun k S7=>?_)
 refine sG Try.f15 1 8 (j:=5) (fun v8 S8=>?_)
 refine sG Try.f15 1 9 (j:=5) (fun v9 S9=>?_)
 refine sG Try.f15 1 10 (j:=5) (fun r c7=>?_)
 refine sD Try.f15 1 11 (fun b c8=>?_)
 refine sP Try.f15 1 12 (v:=b) ?_
 refine sG Try.f15 1 13 (j:=12) (fun s c9=>?_)
 refine sG Try.f15 1 14 (j:=12) (fun c d0=>?_)
 refine sG Try.f15 1 15 (j:=12) (fun f2 d1=>?_)
 refine sG Try.f15 1 16 (j:=12) (fun t d2=>?_)
 refine sG Try.f15 1 17 (j:=12) (fun u d3=>?_)
 refine sD Try.f15 1 18 (fun d d4=>?_)
 refine sP Try.f15 1 19 (v:=d) ?_
 refine sG Try.f15 1 20 (j:=19) (fun w d5=>?_)
 refine sG Try.f15 1 21 (j:=19) (fun f d6=>?_)
 refine sG Try.f15 1 22 (j:=19) (fun f3 d7=>?_)
 refine sG Try.f15 1 23 (j:=19) (fun x d8=>?_)
 refine sG Try.f15 1 24 (j:=19) (fun y d9=>?_)
 refine sD Try.f15 1 25 (fun n f0=>?_)
 refine sP Try.f15 1 26 (v:=n) ?_
 kernel_rfl
theorem jr.r2 :jI zi ⟨false,false,false⟩ (jc zi O) (reg Try.f15 2) (reg Try.f15 2).toList ([o,p,l,m,x4,g,x6,x7,x8,x9,z,A,B,C,D,E,F,G,H,I,J,K,L,M,N,P,Q,R,U,V,W,X,Y,Z,a0,a1,a2,a3,a4,a5,a6,a7,a8,a9,b0,b1,b2,b3,b4,b5,b6,b7,b8,b9,c0,c1,c2,c3,c4,c5,c6]) S =
  (gdK (dem g) true (zA zi 30 l 4) S (fun v2 q=>gdK (dem g) true (zQ zi false 3 v2) q (fun v3 S2=>gdK (dem g) true (zA zi 30 m 4) S2 (fun i S3=>gdK (dem g) true (zQ zi false 3 i) S3 (fun v5 S4=>gdK (dem g) true (jY zi BinOp.eql 3 v3 v5) S4 (fun v6 S5=>zN (yj (dem g) v6 (Value.bool false) S5) (fun k S6=>gdK (dem k) true (zA zi 30 l 5) S6 (fun v9 S7=>gdK (dem k) true (zQ zi false 3 v9) S7 (fun r S8=>gdK (dem k) true (zA zi 30 m 5) S8 (fun b S9=>gdK (dem k) true (zQ zi false 3 b) S9 (fun f4 c7=>gdK (dem k) true (jY zi BinOp.eql 3 r f4) c7 (fun s c8=>zN (yj (dem k) s (Value.bool false) c8) (fun c c9=>gdK (dem c) true (zA zi 30 l 6) c9 (fun t d0=>gdK (dem c) true (zQ zi false 25 t) d0 (fun u d1=>gdK (dem c) true (zA zi 30 m 6) d1 (fun d d2=>gdK (dem c) true (zQ zi false 25 d) d2 (fun f5 d3=>gdK (dem c) true (jY zi BinOp.eql 25 u f5) d3 (fun w d4=>zN (yj (dem c) w (Value.bool false) d4) (fun f d5=>gdK (dem f) true (zA zi 30 l 7) d5 (fun x d6=>gdK (dem f) true (zQ zi false 28 x) d6 (fun y d7=>gdK (dem f) true (zA zi 30 m 7) d7 (fun n d8=>gdK (dem f) true (zQ zi false 28 n) d8 (fun f6 d9=>gdK (dem f) true ((jc zi O) 41 [(dem y),(dem f6)]) d9 (fun f7 f0=>zN (yj (dem f) f7 (Value.bool false) f0) (fun f1 f8=>some ([o,p,l,m,f1,dem g,x6,x7,x8,x9,z,A,B,C,D,E,F,G,H,I,J,K,L,M,N,P,Q,R,U,V,W,X,g,dem g,v2,v3,i,v5,v6,k,dem k,v9,r,b,f4,s,c,dem c,t,u,d,f5,w,f,dem f,x,y,n,f6,f7,dem f1],f8)) ()) ()) ()) ()) ()) ()) ()) ()) ()) ()) ()) ()) ()) ()) ()) ()) ()) ()) ()) ()) ()) ()) ()) ()):=by
 refine sP Try.f15 2 0 (v:=g) ?_
 refine sP Try.f15 2 1 (v:=g) ?_
 refine sG Try.f15 2 2 (j:=1) (fun v2 q=>?_)
 refine sG Try.f15 2 3 (j:=1) (fun v3 S2=>?_)
 refine sG Try.f15 2 4 (j:=1) (fun i S3=>?_)
 refine sG Try.f15 2 5 (j:=1) (fun v5 S4=>?_)
 refine sG Try.f15 2 6 (j:=1) (fun v6 S5=>?_)
 refine sD Try.f15 2 7 (fun k S6=>?_)
 refine sP Try.f15 2 8 (v:=k) ?_
 refine sG Try.f15 2 9 (j:=8) (fun v9 S7=>?_)
 refine sG Try.f15 2 10 (j:=8) (fun r S8=>?_)
 refine sG Try.f15 2 11 (j:=8) (fun b S9=>?_)
 refine sG Try.f15 2 12 (j:=8) (fun f4 c7=>?_)
 refine sG Try.f15 2 13 (j:=8) (fun s c8=>?_)
 refine sD Try.f15 2 14 (fun c c9=>?_)
 refine sP Try.f15 2 15 (v:=c) ?_
 refine sG Try.f15 2 16 (j:=15) (fun t d0=>?_)
 refine sG Try.f15 2 17 (j:=15) (fun u d1=>?_)
 refine sG Try.f15 2 18 (j:=15) (fun d d2=>?_)
 refine sG Try.f15 2 19 (j:=15) (fun f5 d3=>?_)
 refine sG Try.f15 2 20 (j:=15) (fun w d4=>?_)
 refine sD Try.f15 2 21 (fun f d5=>?_)
 refine sP Try.f15 2 22 (v:=f) ?_
 refine sG Try.f15 2 23 (j:=22) (fun x d6=>?_)
 refine sG Try.f15 2 24 (j:=22) (fun y d7=>?_)
 refine sG Try.f15 2 25 (j:=22) (fun n d8=>?_)
 refine sG Try.f15 2 26 (j:=22) (fun f6 d9=>?_)
 refine sG Try.f15 2 27 (j:=22) (fun f7 f0=>?_)
 refine sD Try.f15 2 28 (fun f1 f8=>?_)
 refine sP Try.f15 2 29 (v:=f1) ?_
 kernel_rfl
theorem jr.rs:type_of% (aiJ @jr.r0 (aiJ @jr.r1 (@jr.r2))):=aiJ @jr.r0 (aiJ @jr.r1 (@jr.r2))
theorem jr.runs {o p:Value} {S q:zu} {e:AEx} {T:List Value} (h:zD zi O false jr.code ([o,p,zh,zh,zh,zh,zh,zh,zh,zh,zh,zh,zh,zh,zh,zh,zh,zh,zh,zh,zh,zh,zh,zh,zh,zh,zh,zh,zh,zh,zh,zh,zh,zh,zh,zh,zh,zh,zh,zh,zh,zh,zh,zh,zh,zh,zh,zh,zh,zh,zh,zh,zh,zh,zh,zh,zh,zh,zh,zh,zh]) zu.empty=some (e,T,q)) (he:e=.normal∨e=.ret) (hca:[o,p].all (jg 16)=true) (hcv:jg 16 (T.getD 4 zh)=true):jc zi O 15 [o,p] S=some (T.getD 4 zh,S) :=
 yC rfl rfl Try.func15 (by decide) jr.body (by exact h) he (wJ (a:=T.getD 4 zh) ((show zL zi T q Try.f15.results.toList=zL zi T q [(ResultVar.tmp 4)] from by kernel_rfl).trans (by simp only [zL])) (by kernel_rfl)) hca hcv
end Go.Proofs.Ytbgcphbbchndkaa
namespace Go.Proofs.Ytbgcphbbchndkaa
open Go.Abs
abbrev zZ.id:FuncId:=40
noncomputable def zZ.code:Code:=(.seq (.region 0 (reg Try.f40 0) false) (.seq (.region 1 (reg Try.f40 1) false) (.seq (.region 2 (reg Try.f40 2) false) Code.ret)))
theorem zZ.body:Try.f40.body=some zZ.code:=by kernel_rfl
variable (c f x2 L M N P Q R U k l m n o p q r s t u w x y z A B C D:Value) (S:zu)
theorem zZ.r0 :jI zi ⟨false,false,false⟩ (jc zi O) (reg Try.f40 0) (reg Try.f40 0).toList ([c,f,x2,L,M,N,P,Q,R,U,k,l,m,n,o,p,q,r,s,t,u,w,x,y,z,A,B,C,D]) S =
  (zN (Zk (dem c) S) (fun i d=>some ([c,i,Value.bool false,L,M,N,P,Q,R,U,k,l,m,n,o,p,q,r,s,t,u,w,x,y,z,A,B,C,D],d)) ()):=by
 kernel_rfl
theorem zZ.r1 :jI zi ⟨false,false,false⟩ (jc zi O) (reg Try.f40 1) (reg Try.f40 1).toList ([c,f,x2,L,M,N,P,Q,R,U,k,l,m,n,o,p,q,r,s,t,u,w,x,y,z,A,B,C,D]) S =
  (zN (zA zi 30 f 0 S) (fun i d=>zN (zQ zi false 3 i d) (fun G V=>zN (jY zi BinOp.eql 3 G (.int .i64 4) V) (fun b W=>gdK (dem b) false (zA zi 30 f 0) W (fun H X=>gdK (dem b) false (zQ zi false 3 H) X (fun I Y=>gdK (dem b) false (jY zi BinOp.eql 3 I (.int .i64 5)) Y (fun J Z=>zN (yj (dem b) (Value.bool true) J Z) (fun E S7=>some ([c,f,x2,E,i,G,b,dem b,H,I,J,dem E,m,n,o,p,q,r,s,t,u,w,x,y,z,A,B,C,D],S7)) ()) ()) ()) ()) ()) ()) ()):=by
 refine sD Try.f40 1 0 (fun i d=>?_)
 refine sD Try.f40 1 1 (fun G V=>?_)
 refine sD Try.f40 1 2 (fun b W=>?_)
 refine sP Try.f40 1 3 (v:=b) ?_
 refine sG Try.f40 1 4 (j:=3) (fun H X=>?_)
 refine sG Try.f40 1 5 (j:=3) (fun I Y=>?_)
 refine sG Try.f40 1 6 (j:=3) (fun J Z=>?_)
 refine sD Try.f40 1 7 (fun E S7=>?_)
 refine sP Try.f40 1 8 (v:=E) ?_
 kernel_rfl
theorem zZ.r2 :jI zi ⟨false,false,false⟩ (jc zi O) (reg Try.f40 2) (reg Try.f40 2).toList ([c,f,x2,L,M,N,P,Q,R,U,k,l,m,n,o,p,q,r,s,t,u,w,x,y,z,A,B,C,D]) S =
  (zN (zA zi 30 f 4 S) (fun i d=>zN (zQ zi false 3 i d) (fun G V=>zN (jY zi BinOp.eql 3 G (.int .i64 0) V) (fun b W=>gdK (dem b) false (zA zi 30 f 4) W (fun H X=>gdK (dem b) false (zQ zi false 3 H) X (fun I Y=>gdK (dem b) false ((jc zi O) 59 [(dem I)]) Y (fun J Z=>gdK (dem b) false (jY zi BinOp.gtr 3 J (.int .i64 0)) Z (fun E S7=>zN (yj (dem b) (Value.bool true) E S7) (fun F S8=>gdK (dem F) false (ret L) S8 (fun a0 S9=>gdK (dem F) false (ret a0) S9 (fun g a5=>gdK (dem g) true (zA zi 30 f 4) a5 (fun a1 a6=>gdK (dem g) true (zQ zi false 3 a1) a6 (fun a2 a7=>gdK (dem g) true (jY zi BinOp.eql 3 a2 (.int .i64 (-1))) a7 (fun a3 a8=>gdK (dem F) false (yj (dem g) a3 (Value.bool false)) a8 (fun a4 a9=>zN (yj (dem F) (Value.bool true) a4 a9) (fun K b0=>some ([c,f,K,dem L,M,N,P,Q,R,U,k,l,i,G,b,dem b,H,I,J,E,F,dem F,a0,dem g,a1,a2,a3,a4,dem K],b0)) ()) ()) ()) ()) ()) ()) ()) ()) ()) ()) ()) ()) ()) ()) ()):=by
 refine sD Try.f40 2 0 (fun i d=>?_)
 refine sD Try.f40 2 1 (fun G V=>?_)
 refine sD Try.f40 2 2 (fun b W=>?_)
 refine sP Try.f40 2 3 (v:=b) ?_
 refine sG Try.f40 2 4 (j:=3) (fun H X=>?_)
 refine sG Try.f40 2 5 (j:=3) (fun I Y=>?_)
 refine sG Try.f40 2 6 (j:=3) (fun J Z=>?_)
 refine sG Try.f40 2 7 (j:=3) (fun E S7=>?_)
 refine sD Try.f40 2 8 (fun F S8=>?_)
 refine sP Try.f40 2 9 (v:=F) ?_
 refine sG Try.f40 2 10 (j:=9) (fun a0 S9=>?_)
 refine sG Try.f40 2 11 (j:=9) (fun g a5=>?_)
 refine sG Try.f40 2 12 (j:=11) (fun a1 a6=>?_)
 refine sG Try.f40 2 13 (j:=11) (fun a2 a7=>?_)
 refine sG Try.f40 2 14 (j:=11) (fun a3 a8=>?_)
 refine sG Try.f40 2 15 (j:=9) (fun a4 a9=>?_)
 refine sD Try.f40 2 16 (fun K b0=>?_)
 refine sP Try.f40 2 17 (v:=K) ?_
 kernel_rfl
theorem zZ.rs:type_of% (aiJ @zZ.r0 (aiJ @zZ.r1 (@zZ.r2))):=aiJ @zZ.r0 (aiJ @zZ.r1 (@zZ.r2))
theorem zZ.runs {c:Value} {S d:zu} {e:AEx} {T:List Value} (h:zD zi O false zZ.code ([c,zh,zh,zh,zh,zh,zh,zh,zh,zh,zh,zh,zh,zh,zh,zh,zh,zh,zh,zh,zh,zh,zh,zh,zh,zh,zh,zh,zh]) zu.empty=some (e,T,d)) (he:e=.normal∨e=.ret) (hca:[c].all (jg 16)=true) (hcv:jg 16 (T.getD 2 zh)=true):jc zi O 40 [c] S=some (T.getD 2 zh,S) :=
 yC rfl rfl Try.func40 (by decide) zZ.body (by exact h) he (wJ (a:=T.getD 2 zh) ((show zL zi T d Try.f40.results.toList=zL zi T d [(ResultVar.tmp 2)] from by kernel_rfl).trans (by simp only [zL])) (by kernel_rfl)) hca hcv
end Go.Proofs.Ytbgcphbbchndkaa
namespace Go.Proofs.Ytbgcphbbchndkaa
open Go.Abs
abbrev zB.id:FuncId:=12
noncomputable def zB.code:Code:=(.seq (.region 0 (reg Try.f12 0) false) (.seq (.seq (.region 1 (reg Try.f12 1) false) (.cond (.tmp 44) (.seq (.region 2 (reg Try.f12 2) false) Code.ret) Code.skip)) (.seq (.region 3 (reg Try.f12 3) false) Code.ret)))
theorem zB.body:Try.f12.body=some zB.code:=by kernel_rfl
variable (l m i k x4 x5 x6 x7 x8 x9 n o p q r s t u w x y z A B C D E F G H I J K L M N P Q R U V W X Y Z a0 a1 a2 a3 a4 a5 a6 a7 a8 a9 b0 b1:Value) (S:zu)
theorem zB.r0 :jI zi ⟨false,false,false⟩ (jc zi O) (reg Try.f12 0) (reg Try.f12 0).toList ([l,m,i,k,x4,x5,x6,x7,x8,x9,n,o,p,q,r,s,t,u,w,x,y,z,A,B,C,D,E,F,G,H,I,J,K,L,M,N,P,Q,R,U,V,W,X,Y,Z,a0,a1,a2,a3,a4,a5,a6,a7,a8,a9,b0,b1]) S =
  (zN (Zk (dem l) S) (fun v0 S1=>zN (Zk (dem m) S1) (fun v1 S2=>some ([l,m,v0,v1,Value.bool false,x5,x6,x7,x8,x9,n,o,p,q,r,s,t,u,w,x,y,z,A,B,C,D,E,F,G,H,I,J,K,L,M,N,P,Q,R,U,V,W,X,Y,Z,a0,a1,a2,a3,a4,a5,a6,a7,a8,a9,b0,b1],S2)) ()) ()):=by
 kernel_rfl
theorem zB.r1 :jI zi ⟨false,false,false⟩ (jc zi O) (reg Try.f12 1) (reg Try.f12 1).toList ([l,m,i,k,x4,x5,x6,x7,x8,x9,n,o,p,q,r,s,t,u,w,x,y,z,A,B,C,D,E,F,G,H,I,J,K,L,M,N,P,Q,R,U,V,W,X,Y,Z,a0,a1,a2,a3,a4,a5,a6,a7,a8,a9,b0,b1]) S =
  (zN (zA zi 30 i 0 S) (fun v0 S1=>zN (zQ zi false 3 v0 S1) (fun v1 S2=>zN (zA zi 30 k 0 S2) (fun v2 S3=>zN (zQ zi false 3 v2 S3) (fun v3 S4=>zN (jY zi BinOp.neq 3 v1 v3 S4) (fun c S5=>gdK (dem c) false (zA zi 30 i 1) S5 (fun v6 S6=>gdK (dem c) false (zQ zi false 3 v6) S6 (fun v7 S7=>gdK (dem c) false (zA zi 30 k 1) S7 (fun v8 S8=>gdK (dem c) false (zQ zi false 3 v8) S8 (fun v9 S9=>gdK (dem c) false (jY zi BinOp.neq 3 v7 v9) S9 (fun b2 b3=>zN (yj (dem c) (Value.bool true) b2 b3) (fun b b4=>gdK (dem b) false (zA zi 30 i 2) b4 (fun b5 d5=>gdK (dem b) false (zQ zi false 3 b5) d5 (fun b6 d6=>gdK (dem b) false (zA zi 30 k 2) d6 (fun b7 d7=>gdK (dem b) false (zQ zi false 3 b7) d7 (fun b8 d8=>gdK (dem b) false (jY zi BinOp.neq 3 b6 b8) d8 (fun b9 d9=>zN (yj (dem b) (Value.bool true) b9 d9) (fun d f0=>gdK (dem d) false (zA zi 30 i 3) f0 (fun c0 f1=>gdK (dem d) false (zQ zi false 3 c0) f1 (fun c1 f2=>gdK (dem d) false (zA zi 30 k 3) f2 (fun c2 f3=>gdK (dem d) false (zQ zi false 3 c2) f3 (fun c3 f4=>gdK (dem d) false (jY zi BinOp.neq 3 c1 c3) f4 (fun c4 f5=>zN (yj (dem d) (Value.bool true) c4 f5) (fun f f6=>gdK (dem f) false (zA zi 30 i 4) f6 (fun c5 f7=>gdK (dem f) false (zQ zi false 3 c5) f7 (fun c6 f8=>gdK (dem f) false (zA zi 30 k 4) f8 (fun c7 f9=>gdK (dem f) false (zQ zi false 3 c7) f9 (fun c8 g0=>gdK (dem f) false (jY zi BinOp.neq 3 c6 c8) g0 (fun c9 g1=>zN (yj (dem f) (Value.bool true) c9 g1) (fun g g2=>gdK (dem g) false (zA zi 30 i 5) g2 (fun d0 g3=>gdK (dem g) false (zQ zi false 3 d0) g3 (fun d1 g4=>gdK (dem g) false (zA zi 30 k 5) g4 (fun d2 g5=>gdK (dem g) false (zQ zi false 3 d2) g5 (fun d3 g6=>gdK (dem g) false (jY zi BinOp.neq 3 d1 d3) g6 (fun d4 g7=>zN (yj (dem g) (Value.bool true) d4 g7) (fun g8 g9=>some ([l,m,i,k,x4,v0,v1,v2,v3,c,dem c,v6,v7,v8,v9,b2,b,dem b,b5,b6,b7,b8,b9,d,dem d,c0,c1,c2,c3,c4,f,dem f,c5,c6,c7,c8,c9,g,dem g,d0,d1,d2,d3,d4,g8,a0,a1,a2,a3,a4,a5,a6,a7,a8,a9,b0,b1],g9)) ()) ()) ()) ()) ()) ()) ()) ()) ()) ()) ()) ()) ()) ()) ()) ()) ()) ()) ()) ()) ()) ()) ()) ()) ()) ()) ()) ()) ()) ()) ()) ()) ()) ()) ()):=by
 refine sD Try.f12 1 0 (fun v0 S1=>?_)
 refine sD Try.f12 1 1 (fun v1 S2=>?_)
 refine sD Try.f12 1 2 (fun v2 S3=>?_)
 refine sD Try.f12 1 3 (fun v3 S4=>?_)
 refine sD Try.f12 1 4 (fun c S5=>?_)
 refine sP Try.f12 1 5 (v:=c) ?_
 refine sG Try.f12 1 6 (j:=5) (fun v6 S6=>?_)
 refine sG Try.f12 1 7 (j:=5) (fun v7 S7=>?_)
 refine sG Try.f12 1 8 (j:=5) (fun v8 S8=>?_)
 refine sG Try.f12 1 9 (j:=5) (fun v9 S9=>?_)
 refine sG Try.f12 1 10 (j:=5) (fun b2 b3=>?_)
 refine sD Try.f12 1 11 (fun b b4=>?_)
 refine sP Try.f12 1 12 (v:=b) ?_
 refine sG Try.f12 1 13 (j:=12) (fun b5 d5=>?_)
 refine sG Try.f12 1 14 (j:=12) (fun b6 d6=>?_)
 refine sG Try.f12 1 15 (j:=12) (fun b7 d7=>?_)
 refine sG Try.f12 1 16 (j:=12) (fun b8 d8=>?_)
 refine sG Try.f12 1 17 (j:=12) (fun b9 d9=>?_)
 refine sD Try.f12 1 18 (fun d f0=>?_)
 refine sP Try.f12 1 19 (v:=d) ?_
 refine sG Try.f12 1 20 (j:=19) (fun c0 f1=>?_)
 refine sG Try.f12 1 21 (j:=19) (fun c1 f2=>?_)
 refine sG Try.f12 1 22 (j:=19) (fun c2 f3=>?_)
 refine sG Try.f12 1 23 (j:=19) (fun c3 f4=>?_)
 refine sG Try.f12 1 24 (j:=19) (fun c4 f5=>?_)
 refine sD Try.f12 1 25 (fun f f6=>?_)
 refine sP Try.f12 1 26 (v:=f) ?_
 refine sG Try.f12 1 27 (j:=26) (fun c5 f7=>?_)
 refine sG Try.f12 1 28 (j:=26) (fun c6 f8=>?_)
 refine sG Try.f12 1 29 (j:=26) (fun c7 f9=>?_)
 refine sG Try.f12 1 30 (j:=26) (fun c8 g0=>?_)
 refine sG Try.f12 1 31 (j:=26) (fun c9 g1=>?_)
 refine sD Try.f12 1 32 (fun g g2=>?_)
 refine sP Try.f12 1 33 (v:=g) ?_
 refine sG Try.f12 1 34 (j:=33) (fun d0 g3=>?_)
 refine sG Try.f12 1 35 (j:=33) (fun d1 g4=>?_)
 refine sG Try.f12 1 36 (j:=33) (fun d2 g5=>?_)
 refine sG Try.f12 1 37 (j:=33) (fun d3 g6=>?_)
 refine sG Try.f12 1 38 (j:=33) (fun d4 g7=>?_)
 refine sD Try.f12 1 39 (fun g8 g9=>?_)
 kernel_rfl
theorem zB.r2 :jI zi ⟨false,false,false⟩ (jc zi O) (reg Try.f12 2) (reg Try.f12 2).toList ([l,m,i,k,x4,x5,x6,x7,x8,x9,n,o,p,q,r,s,t,u,w,x,y,z,A,B,C,D,E,F,G,H,I,J,K,L,M,N,P,Q,R,U,V,W,X,Y,Z,a0,a1,a2,a3,a4,a5,a6,a7,a8,a9,b0,b1]) S =
  ( some ([l,m,i,k,Value.bool false,x5,x6,x7,x8,x9,n,o,p,q,r,s,t,u,w,x,y,z,A,B,C,D,E,F,G,H,I,J,K,L,M,N,P,Q,R,U,V,W,X,Y,Z,a0,a1,a2,a3,a4,a5,a6,a7,a8,a9,b0,b1],S)):=by
 kernel_rfl
theorem zB.r3 :jI zi ⟨false,false,false⟩ (jc zi O) (reg Try.f12 3) (reg Try.f12 3).toList ([l,m,i,k,x4,x5,x6,x7,x8,x9,n,o,p,q,r,s,t,u,w,x,y,z,A,B,C,D,E,F,G,H,I,J,K,L,M,N,P,Q,R,U,V,W,X,Y,Z,a0,a1,a2,a3,a4,a5,a6,a7,a8,a9,b0,b1]) S =
  (zN (zA zi 30 i 6 S) (fun v0 S1=>zN (zQ zi false 25 v0 S1) (fun v1 S2=>zN (zA zi 30 k 6 S2) (fun v2 S3=>zN (zQ zi false 25 v2 S3) (fun v3 S4=>zN (jY zi BinOp.eql 25 v1 v3 S4) (fun c S5=>gdK (dem c) true (zA zi 30 i 7) S5 (fun v6 S6=>gdK (dem c) true (zQ zi false 28 v6) S6 (fun v7 S7=>gdK (dem c) true (zA zi 30 k 7) S7 (fun v8 S8=>gdK (dem c) true (zQ zi false 28 v8) S8 (fun v9 S9=>gdK (dem c) true ((jc zi O) 31 [(dem v7),(dem v9)]) S9 (fun b2 b3=>zN (yj (dem c) b2 (Value.bool false) b3) (fun b b4=>some ([l,m,i,k,b,x5,x6,x7,x8,x9,n,o,p,q,r,s,t,u,w,x,y,z,A,B,C,D,E,F,G,H,I,J,K,L,M,N,P,Q,R,U,V,W,X,Y,Z,v0,v1,v2,v3,c,dem c,v6,v7,v8,v9,b2,dem b],b4)) ()) ()) ()) ()) ()) ()) ()) ()) ()) ()) ()):=by
 refine sD Try.f12 3 0 (fun v0 S1=>?_)
 refine sD Try.f12 3 1 (fun v1 S2=>?_)
 refine sD Try.f12 3 2 (fun v2 S3=>?_)
 refine sD Try.f12 3 3 (fun v3 S4=>?_)
 refine sD Try.f12 3 4 (fun c S5=>?_)
 refine sP Try.f12 3 5 (v:=c) ?_
 refine sG Try.f12 3 6 (j:=5) (fun v6 S6=>?_)
 refine sG Try.f12 3 7 (j:=5) (fun v7 S7=>?_)
 refine sG Try.f12 3 8 (j:=5) (fun v8 S8=>?_)
 refine sG Try.f12 3 9 (j:=5) (fun v9 S9=>?_)
 refine sG Try.f12 3 10 (j:=5) (fun b2 b3=>?_)
 refine sD Try.f12 3 11 (fun b b4=>?_)
 refine sP Try.f12 3 12 (v:=b) ?_
 kernel_rfl
theorem zB.rs:type_of% (aiJ @zB.r0 (aiJ @zB.r1 (aiJ @zB.r2 (@zB.r3)))):=aiJ @zB.r0 (aiJ @zB.r1 (aiJ @zB.r2 (@zB.r3)))
theorem zB.runs {l m:Value} {S S1:zu} {e:AEx} {T:List Value} (h:zD zi O false zB.code ([l,m,zh,zh,zh,zh,zh,zh,zh,zh,zh,zh,zh,zh,zh,zh,zh,zh,zh,zh,zh,zh,zh,zh,zh,zh,zh,zh,zh,zh,zh,zh,zh,zh,zh,zh,zh,zh,zh,zh,zh,zh,zh,zh,zh,zh,zh,zh,zh,zh,zh,zh,zh,zh,zh,zh,zh]) zu.empty=some (e,T,S1)) (he:e=.normal∨e=.ret) (hca:[l,m].all (jg 16)=true) (hcv:jg 16 (T.getD 4 zh)=true):jc zi O 12 [l,m] S=some (T.getD 4 zh,S) :=
 yC rfl rfl Try.func12 (by decide) zB.body (by exact h) he (wJ (a:=T.getD 4 zh) ((show zL zi T S1 Try.f12.results.toList=zL zi T S1 [(ResultVar.tmp 4)] from by kernel_rfl).trans (by simp only [zL])) (by kernel_rfl)) hca hcv
end Go.Proofs.Ytbgcphbbchndkaa
namespace Go.Proofs.Ytbgcphbbchndkaa
open Go.Abs
abbrev yQ.id:FuncId:=27
noncomputable def yQ.code:Code:=(.seq (.region 0 (reg Try.f27 0) false) (.seq (.region 1 (reg Try.f27 1) false) Code.ret))
theorem yQ.body:Try.f27.body=some yQ.code:=by kernel_rfl
variable (b d k f g i j:Value) (S:zu)
theorem yQ.r0 :jI zi ⟨false,false,false⟩ (jc zi O) (reg Try.f27 0) (reg Try.f27 0).toList ([b,d,k,f,g,i,j]) S =
  ( some ([b,d,Value.int IntKind.u64 0,f,g,i,j],S)):=by
 kernel_rfl
theorem yQ.r1 :jI zi ⟨false,false,false⟩ (jc zi O) (reg Try.f27 1) (reg Try.f27 1).toList ([b,d,k,f,g,i,j]) S =
  (zN (qG zi false false 3 42 (dem b) S) (fun l c=>zN (jY zi BinOp.add 42 l (Value.int IntKind.u64 1) c) (fun m o=>zN (jY zi BinOp.mul 42 m (Value.int IntKind.u64 11400714819323198485) o) (fun n p=>some ([b,d,n,dem b,l,m,dem n],p)) ()) ()) ()):=by
 kernel_rfl
theorem yQ.rs:type_of% (aiJ @yQ.r0 (@yQ.r1)):=aiJ @yQ.r0 (@yQ.r1)
theorem yQ.runs {b:Value} {S c:zu} {e:AEx} {T:List Value} (h:zD zi O false yQ.code ([b,zh,zh,zh,zh,zh,zh]) S=some (e,T,c)) (he:e=.normal∨e=.ret):jc zi O 27 [b] S=some (T.getD 2 zh,c) :=
 yU rfl rfl Try.func27 (by decide) yQ.body (by exact h) he (wJ (a:=T.getD 2 zh) ((show zL zi T c Try.f27.results.toList=zL zi T c [(ResultVar.tmp 2)] from by kernel_rfl).trans (by simp only [zL])) (by kernel_rfl))
end Go.Proofs.Ytbgcphbbchndkaa
namespace Go.Proofs.Ytbgcphbbchndkaa
open Go.Abs
abbrev jl.id:FuncId:=36
noncomputable def jl.jS:Code:=(.seq (.region 6 (reg Try.f36 6) false) (.seq (.cond (.tmp 21) Code.skip (.exit 2)) (.seq (.block 3 (.seq (.region 7 (reg Try.f36 7) false) (.region 8 (reg Try.f36 8) false))) (.region 9 (reg Try.f36 9) false))))
noncomputable def jl.KU:Code:=(.seq (.region 3 (reg Try.f36 3) false) (.seq (.cond (.tmp 15) Code.skip (.exit 0)) (.seq (.block 1 (.seq (.region 4 (reg Try.f36 4) false) (.seq (.region 5 (reg Try.f36 5) false) (.block 2 (.loop jl.jS))))) (.region 10 (reg Try.f36 10) false))))
noncomputable def jl.code:Code:=(.seq (.region 0 (reg Try.f36 0) false) (.seq (.region 1 (reg Try.f36 1) false) (.seq (.seq (.region 2 (reg Try.f36 2) false) (.block 0 (.loop jl.KU))) (.seq (.region 11 (reg Try.f36 11) false) Code.ret))))
theorem jl.body:Try.f36.body=some jl.code:=by kernel_rfl
theorem jl.eta {T:List Value} (h:T.length=35):T=[T.getD 0 zh,T.getD 1 zh,T.getD 2 zh,T.getD 3 zh,T.getD 4 zh,T.getD 5 zh,T.getD 6 zh,T.getD 7 zh,T.getD 8 zh,T.getD 9 zh,T.getD 10 zh,T.getD 11 zh,T.getD 12 zh,T.getD 13 zh,T.getD 14 zh,T.getD 15 zh,T.getD 16 zh,T.getD 17 zh,T.getD 18 zh,T.getD 19 zh,T.getD 20 zh,T.getD 21 zh,T.getD 22 zh,T.getD 23 zh,T.getD 24 zh,T.getD 25 zh,T.getD 26 zh,T.getD 27 zh,T.getD 28 zh,T.getD 29 zh,T.getD 30 zh,T.getD 31 zh,T.getD 32 zh,T.getD 33 zh,T.getD 34 zh]:=(kK T 35 h).trans (by kernel_rfl)
variable (C D I J M E K G L H j k d f b l m n g i c o p q r s t u v w x y z A B:Value) (S:zu)
theorem jl.r0 :jI zi ⟨false,false,false⟩ (jc zi O) (reg Try.f36 0) (reg Try.f36 0).toList ([C,D,I,J,M,E,K,G,L,H,j,k,d,f,b,l,m,n,g,i,c,o,p,q,r,s,t,u,v,w,x,y,z,A,B]) S =
  ( some ([C,D,I,J,Value.int IntKind.u64 0,E,K,G,L,H,j,k,d,f,b,l,m,n,g,i,c,o,p,q,r,s,t,u,v,w,x,y,z,A,B],S)):=by
 kernel_rfl
theorem jl.r1 :jI zi ⟨false,false,false⟩ (jc zi O) (reg Try.f36 1) (reg Try.f36 1).toList ([C,D,I,J,M,E,K,G,L,H,j,k,d,f,b,l,m,n,g,i,c,o,p,q,r,s,t,u,v,w,x,y,z,A,B]) S =
  (zN (jY zi BinOp.xor 42 (dem C) (Value.int IntKind.u64 14695981039346656037) S) (fun P F=>some ([C,D,I,J,M,P,K,G,L,H,dem C,dem P,d,f,b,l,m,n,g,i,c,o,p,q,r,s,t,u,v,w,x,y,z,A,B],F)) ()):=by
 kernel_rfl
theorem jl.r2 :jI zi ⟨false,false,false⟩ (jc zi O) (reg Try.f36 2) (reg Try.f36 2).toList ([C,D,I,J,M,E,K,G,L,H,j,k,d,f,b,l,m,n,g,i,c,o,p,q,r,s,t,u,v,w,x,y,z,A,B]) S =
  (zN (ZO zi 88 (dem D) S) (fun P F=>some ([C,D,I,J,M,E,K,G,L,H,j,k,dem D,P,.int .i64 0,l,m,n,g,i,c,o,p,q,r,s,t,u,v,w,x,y,z,A,B],F)) ()):=by
 kernel_rfl
theorem jl.r3 :jI zi ⟨false,false,false⟩ (jc zi O) (reg Try.f36 3) (reg Try.f36 3).toList ([C,D,I,J,M,E,K,G,L,H,j,k,d,f,b,l,m,n,g,i,c,o,p,q,r,s,t,u,v,w,x,y,z,A,B]) S =
  (zN (jY zi BinOp.lss 3 b f S) (fun N F=>some ([C,D,I,J,M,E,K,G,L,H,j,k,d,f,b,N,m,n,g,i,c,o,p,q,r,s,t,u,v,w,x,y,z,A,B],F)) ()):=by
 kernel_rfl
theorem jl.r4 :jI zi ⟨false,false,false⟩ (jc zi O) (reg Try.f36 4) (reg Try.f36 4).toList ([C,D,I,J,M,E,K,G,L,H,j,k,d,f,b,l,m,n,g,i,c,o,p,q,r,s,t,u,v,w,x,y,z,A,B]) S =
  (zN (jw zi 88 d b S) (fun N F=>zN (zQ zi false 23 N F) (fun P Q=>some ([C,D,I,J,M,E,K,P,L,H,j,k,d,f,b,l,N,dem P,g,i,c,o,p,q,r,s,t,u,v,w,x,y,z,A,B],Q)) ()) ()):=by
 kernel_rfl
theorem jl.r5 :jI zi ⟨false,false,false⟩ (jc zi O) (reg Try.f36 5) (reg Try.f36 5).toList ([C,D,I,J,M,E,K,G,L,H,j,k,d,f,b,l,m,n,g,i,c,o,p,q,r,s,t,u,v,w,x,y,z,A,B]) S =
  (zN (ZO zi 23 (dem G) S) (fun P F=>some ([C,D,I,J,M,E,K,G,L,H,j,k,d,f,b,l,m,n,dem G,P,.int .i64 0,o,p,q,r,s,t,u,v,w,x,y,z,A,B],F)) ()):=by
 kernel_rfl
theorem jl.r6 :jI zi ⟨false,false,false⟩ (jc zi O) (reg Try.f36 6) (reg Try.f36 6).toList ([C,D,I,J,M,E,K,G,L,H,j,k,d,f,b,l,m,n,g,i,c,o,p,q,r,s,t,u,v,w,x,y,z,A,B]) S =
  (zN (jY zi BinOp.lss 3 c i S) (fun N F=>some ([C,D,I,J,M,E,K,G,L,H,j,k,d,f,b,l,m,n,g,i,c,N,p,q,r,s,t,u,v,w,x,y,z,A,B],F)) ()):=by
 kernel_rfl
theorem jl.r7 :jI zi ⟨false,false,false⟩ (jc zi O) (reg Try.f36 7) (reg Try.f36 7).toList ([C,D,I,J,M,E,K,G,L,H,j,k,d,f,b,l,m,n,g,i,c,o,p,q,r,s,t,u,v,w,x,y,z,A,B]) S =
  (zN (jw zi 23 g c S) (fun N F=>zN (zQ zi false 5 N F) (fun P Q=>some ([C,D,I,J,M,E,K,G,L,P,j,k,d,f,b,l,m,n,g,i,c,o,N,dem P,r,s,t,u,v,w,x,y,z,A,B],Q)) ()) ()):=by
 kernel_rfl
theorem jl.r8 :jI zi ⟨false,false,false⟩ (jc zi O) (reg Try.f36 8) (reg Try.f36 8).toList ([C,D,I,J,M,E,K,G,L,H,j,k,d,f,b,l,m,n,g,i,c,o,p,q,r,s,t,u,v,w,x,y,z,A,B]) S =
  (zN (qG zi false false 5 42 (dem H) S) (fun R F=>zN (jY zi BinOp.xor 42 (dem E) R F) (fun U Q=>zN (jY zi BinOp.mul 42 U (Value.int IntKind.u64 1099511628211) Q) (fun V W=>some ([C,D,I,J,M,V,K,G,L,H,j,k,d,f,b,l,m,n,g,i,c,o,p,q,dem E,dem H,R,U,dem V,w,x,y,z,A,B],W)) ()) ()) ()):=by
 kernel_rfl
theorem jl.r9 :jI zi ⟨false,false,false⟩ (jc zi O) (reg Try.f36 9) (reg Try.f36 9).toList ([C,D,I,J,M,E,K,G,L,H,j,k,d,f,b,l,m,n,g,i,c,o,p,q,r,s,t,u,v,w,x,y,z,A,B]) S =
  (zN (jY zi BinOp.add 3 c (.int .i64 1) S) (fun N F=>some ([C,D,I,J,M,E,K,G,L,H,j,k,d,f,b,l,m,n,g,i,dem N,o,p,q,r,s,t,u,v,N,x,y,z,A,B],F)) ()):=by
 kernel_rfl
theorem jl.r10 :jI zi ⟨false,false,false⟩ (jc zi O) (reg Try.f36 10) (reg Try.f36 10).toList ([C,D,I,J,M,E,K,G,L,H,j,k,d,f,b,l,m,n,g,i,c,o,p,q,r,s,t,u,v,w,x,y,z,A,B]) S =
  (zN (jY zi BinOp.add 3 b (.int .i64 1) S) (fun N F=>some ([C,D,I,J,M,E,K,G,L,H,j,k,d,f,dem N,l,m,n,g,i,c,o,p,q,r,s,t,u,v,w,N,y,z,A,B],F)) ()):=by
 kernel_rfl
theorem jl.r11 :jI zi ⟨false,false,false⟩ (jc zi O) (reg Try.f36 11) (reg Try.f36 11).toList ([C,D,I,J,M,E,K,G,L,H,j,k,d,f,b,l,m,n,g,i,c,o,p,q,r,s,t,u,v,w,x,y,z,A,B]) S =
  (zN (jY zi BinOp.shr 42 (dem E) (Value.int IntKind.u64 29) S) (fun R F=>zN (jY zi BinOp.xor 42 (dem E) R F) (fun U Q=>some ([C,D,I,J,U,E,K,G,L,H,j,k,d,f,b,l,m,n,g,i,c,o,p,q,r,s,t,u,v,w,x,dem E,dem E,R,dem U],Q)) ()) ()):=by
 kernel_rfl
theorem jl.rs:type_of% (aiJ @jl.r0 (aiJ @jl.r1 (aiJ @jl.r2 (aiJ @jl.r3 (aiJ @jl.r4 (aiJ @jl.r5 (aiJ @jl.r6 (aiJ @jl.r7 (aiJ @jl.r8 (aiJ @jl.r9 (aiJ @jl.r10 (@jl.r11)))))))))))):=aiJ @jl.r0 (aiJ @jl.r1 (aiJ @jl.r2 (aiJ @jl.r3 (aiJ @jl.r4 (aiJ @jl.r5 (aiJ @jl.r6 (aiJ @jl.r7 (aiJ @jl.r8 (aiJ @jl.r9 (aiJ @jl.r10 (@jl.r11)))))))))))
theorem jl.runs {C D:Value} {S F:zu} {e:AEx} {T:List Value} (h:zD zi O false jl.code ([C,D,zh,zh,zh,zh,zh,zh,zh,zh,zh,zh,zh,zh,zh,zh,zh,zh,zh,zh,zh,zh,zh,zh,zh,zh,zh,zh,zh,zh,zh,zh,zh,zh,zh]) S=some (e,T,F)) (he:e=.normal∨e=.ret):jc zi O 36 [C,D] S=some (T.getD 4 zh,F) :=
 yU rfl rfl Try.func36 (by decide) jl.body (by exact h) he (wJ (a:=T.getD 4 zh) ((show zL zi T F Try.f36.results.toList=zL zi T F [(ResultVar.tmp 4)] from by kernel_rfl).trans (by simp only [zL])) (by kernel_rfl))
end Go.Proofs.Ytbgcphbbchndkaa
namespace Go.Proofs.Ytbgcphbbchndkaa
open Go.Abs
def adS (n:Int):Int:=IntKind.u64.wrap (IntKind.u64.wrap (IntKind.u64.wrap n+1) * 11400714819323198485)
def aa5 (h:Int) (x:UInt8):Int:=IntKind.u64.wrap (abz .u64 h (x.toNat:Int) * 1099511628211)
def aiG (h:Int):Int:=abz .u64 h (h.fdiv (2 ^ min (Int.toNat 29) (IntKind.bits .u64)))
def Wv (key:Int) (b:List UInt8):Int:=aiG (b.foldl aa5 (abz .u64 key 14695981039346656037))
theorem ab6 (x:UInt8):IntKind.u64.wrap (x.toNat:Int)=(x.toNat:Int):=acV (by have:=x.toNat_lt;omega)
theorem ad8 (x:Int):IntKind.u64.wrap x=x % 18446744073709551616:=rfl
theorem aeI (a b:Int):0≤abz .u64 a b∧abz .u64 a b < 18446744073709551616:=by
 unfold abz
 have h:∀ x:Int,0≤IntKind.u64.wrap x∧IntKind.u64.wrap x < 18446744073709551616:=fun x=>by rw [ad8];omega
 first | exact h _ | (simp only [IntKind.ofBits,IntKind.signed];first | exact h _ | omega)
theorem yQ.v (n:Int) (S:zu):jc zi O yQ.id [.int .i64 n] S=some (.int .u64 (adS n),S):=by
 obtain ⟨T,hTe⟩:∃ T,T=(.int .i64 n::zh::zh::zh::zh::zh::zh::[]):=⟨_,rfl⟩
 have hr:zD zi O false yQ.code T S=zD zi O false yQ.code T S:=rfl
 conv at hr =>
  rhs
  rw [hTe]
  simp only [yQ.code,yQ.rs,zSs,reduceIte,zk,zn,zo,zq,WC,Jf]
 rw [hTe] at hr
 exact yQ.runs hr (.inr rfl)
section
variable {l:List UInt8} {k:Nat}
theorem jl.round (hv:Okl k l) (hlen:l.length≤140737488355328) {S:zu}:∀ (suf pre:List UInt8) (h:Int) {T:List Value} {r:St},qB (zD zi O false jl.jS) T S=r→T.length=35 →
  T.getD 5 zh=.int .u64 h→T.getD 18 zh=by_ k l→T.getD 19 zh=.int .i64 l.length→T.getD 20 zh=.int .i64 pre.length→l=pre++suf →
  ∃ T',r=some (.exit 2,T',S)∧T'.length=35∧T'.getD 5 zh=.int .u64 (suf.foldl aa5 h)∧T'.getD 12 zh=T.getD 12 zh∧T'.getD 13 zh=T.getD 13 zh∧T'.getD 14 zh=T.getD 14 zh:=by
 intro suf
 induction suf with
 | nil =>
  intro pre h T r hL hT h5 h18 h19 h20 hl
  have hTe:=jl.eta hT
  rw [h5,h18,h19,h20] at hTe
  have hr:zD zi O false jl.jS T S=zD zi O false jl.jS T S:=rfl
  have d1:¬ (pre.length:Int) < (l.length:Int):=by rw [hl];simp
  conv at hr =>
   rhs
   rw [hTe]
   simp only [jl.jS,jl.code,jl.rs,zSs,reduceIte,zk,zn,zo,zq,d1]
  exact ⟨_,hL.symm.trans (wR hr (by simp)),rfl,rfl,rfl,rfl,rfl⟩
 | cons x suf ih =>
  intro pre h T r hL hT h5 h18 h19 h20 hl
  have hTe:=jl.eta hT
  rw [h5,h18,h19,h20] at hTe
  have hr:zD zi O false jl.jS T S=zD zi O false jl.jS T S:=rfl
  have d1:(pre.length:Int) < (l.length:Int):=by rw [hl];simp;omega
  have e1:∀ S,jw zi 23 (by_ k l) (.int .i64 pre.length) S=some (EP [.int .u8 x.toNat],S):=fun S=>by
   rw [ah9 hv (by omega) d1];rw [afJ hl]
  have wi:IntKind.i64.wrap ((pre.length:Int)+1)=((pre++[x]).length:Int):=by rw [wrap_i64 (by omega) (by omega)];simp
  have em:IntKind.u64.wrap (abz .u64 h (x.toNat:Int) * 1099511628211)=aa5 h x:=rfl
  conv at hr =>
   rhs
   rw [hTe]
   simp only [jl.jS,jl.code,jl.rs,zSs,reduceIte,zk,zn,zo,zq,d1,e1,agy,YJ,ab6,QH,WC,em,wi]
  obtain ⟨T',q1,q2,q3,q4,q5,q6⟩:=ih (pre++[x]) (aa5 h x) ((y9 hr).symm.trans hL) rfl rfl rfl rfl rfl (by simp [hl])
  exact ⟨T',q1,q2,q3,q4,q5,q6⟩
theorem QG (S:zu):jT zi 88 1 [(0,by_ 1 l)] S=some (sv 2 1 1 [by_ 1 l],S):=by kernel_rfl
theorem aer (i:Int) (hi:i=0) (S:zu):jw zi 88 (sv 1 1 1 [by_ 1 l]) (.int .i64 i) S=some (EP [by_ 1 l],S):=by subst hi;exact Ji VN ab1 ⟨by decide,fun h=>by cases h⟩ (by omega) (by omega)
theorem jl.v (hlen:l.length≤140737488355328) {key:Int} (S:zu):jc zi O jl.id [.int .u64 key,sv 1 1 1 [by_ 1 l]] S=some (.int .u64 (Wv key l),S):=by
 obtain ⟨T,hTe⟩:∃ T,T=(.int .u64 key::sv 1 1 1 [by_ 1 l]::zh::zh::zh::zh::zh::zh::zh::zh::zh::zh::zh::zh::zh::zh::zh::zh::zh::zh::zh::zh::zh::zh::zh::zh::zh::zh::zh::zh::zh::zh::zh::zh::zh::[]):=⟨_,rfl⟩
 have hr:zD zi O false jl.code T S=zD zi O false jl.code T S:=rfl
 have ln:∀ S,ZO zi 88 (sv 1 1 1 [by_ 1 l]) S=some (.int .i64 1,S):=fun S=>by kernel_rfl
 have lb:∀ S,ZO zi 23 (by_ 1 l) S=some (.int .i64 l.length,S):=fun S=>ahr Okl.read
 conv at hr =>
  rhs
  rw [hTe]
  simp only [jl.code,jl.rs,zSs,reduceIte,zk,zn,zo,zq,QH,ln]
 generalize hL:qB (zD zi O false jl.KU) _ _=r at hr
 have key1:∃ T',r=some (.exit 0,T',S)∧T'.length=35∧T'.getD 5 zh=.int .u64 (l.foldl aa5 (abz .u64 key 14695981039346656037)):=by
  generalize hT0:(_::_:List Value)=T0 at hL
  have hT0':T0.length=35:=by rw [← hT0];rfl
  have g5:T0.getD 5 zh=.int .u64 (abz .u64 key 14695981039346656037):=by rw [← hT0];rfl
  have g12:T0.getD 12 zh=sv 1 1 1 [by_ 1 l]:=by rw [← hT0];rfl
  have g13:T0.getD 13 zh=.int .i64 1:=by rw [← hT0];rfl
  have g14:T0.getD 14 zh=.int .i64 0:=by rw [← hT0];rfl
  have hTe:=jl.eta hT0'
  rw [g5,g12,g13,g14] at hTe
  have hr:zD zi O false jl.KU T0 S=zD zi O false jl.KU T0 S:=rfl
  have z1:(0:Int) < 1:=by omega
  conv at hr =>
   rhs
   rw [hTe]
   simp only [jl.KU,jl.code,jl.rs,zSs,reduceIte,zk,zn,zo,zq,z1,aer 0 rfl,Yw acU,lb]
  generalize hL1:qB (zD zi O false jl.jS) _ _=r1 at hr
  obtain ⟨T1,rfl,q1,q2,q3,q4,q5⟩:=jl.round (Okl.read (l:=l)) hlen l [] _ hL1 rfl rfl rfl rfl rfl rfl
  have q3:T1.getD 12 zh=sv 1 1 1 [by_ 1 l]:=q3
  have q4:T1.getD 13 zh=.int .i64 1:=q4
  have q5:T1.getD 14 zh=.int .i64 0:=q5
  have hT1:=jl.eta q1
  rw [q2,q3,q4,q5] at hT1
  have w1:IntKind.i64.wrap (0+1)=1:=by decide
  conv at hr =>
   rhs
   rw [hT1]
   simp only [jl.code,jl.rs,zSs,reduceIte,zk,zn,zo,zq,w1]
  have hL2:=(y9 hr).symm.trans hL
  generalize hT2:(_::_:List Value)=T2 at hL2
  have hT2':T2.length=35:=by rw [← hT2];rfl
  have f5:T2.getD 5 zh=.int .u64 (l.foldl aa5 (abz .u64 key 14695981039346656037)):=by rw [← hT2];rfl
  have f13:T2.getD 13 zh=.int .i64 1:=by rw [← hT2];rfl
  have f14:T2.getD 14 zh=.int .i64 1:=by rw [← hT2];rfl
  have hTe2:=jl.eta hT2'
  rw [f5,f13,f14] at hTe2
  have hr2:zD zi O false jl.KU T2 S=zD zi O false jl.KU T2 S:=rfl
  have z2:¬ (1:Int) < 1:=by omega
  conv at hr2 =>
   rhs
   rw [hTe2]
   simp only [jl.KU,jl.code,jl.rs,zSs,reduceIte,zk,zn,zo,zq,z2]
  exact ⟨_,hL2.symm.trans (wR hr2 (by simp)),rfl,rfl⟩
 obtain ⟨T',rfl,g1,g2⟩:=key1
 have hT':=jl.eta g1
 rw [g2] at hT'
 conv at hr =>
  rhs
  rw [hT']
  simp only [jl.code,jl.rs,zSs,reduceIte,zk,zn,zo,zq,QH,V7 _ _ _ _ (show (0:Int)≤29 by omega)]
 rw [hTe] at hr
 exact jl.runs hr (.inr rfl)
end
end Go.Proofs.Ytbgcphbbchndkaa
namespace Go.Proofs.Ytbgcphbbchndkaa
open Go.Abs
structure jK where
 kind:Int
 frm:Int
 index:Int
 view:Int
 value:Int
 prep:Int
 tx:TxV
 b:xC
def fM (m:jK):List Value:=[.int .i64 m.kind,.int .i64 m.frm,.int .i64 m.index,.int .i64 m.view,.int .i64 m.value,.int .i64 m.prep,.int .i64 m.tx.id,.int .i64 m.tx.fee,.int .i64 m.b.slot,.int .i64 m.b.miner,.int .i64 m.b.variant,.int .i64 m.b.parent,tl m.b.k m.b.txs]
abbrev mv (m:jK):Value:=.agg [Value.int .i64 m.kind,.int .i64 m.frm,.int .i64 m.index,.int .i64 m.view,.int .i64 m.value,.int .i64 m.prep,.int .i64 m.tx.id,.int .i64 m.tx.fee,.int .i64 m.b.slot,.int .i64 m.b.miner,.int .i64 m.b.variant,.int .i64 m.b.parent,tl m.b.k m.b.txs].toArray
def Big (n:Int):Prop:=-9223372036854775808≤n∧n < 9223372036854775808
structure jK.Ok (m:jK):Prop where
 b:m.b.Ok
 tx:m.tx.Ok
 kind:Big m.kind
 frm:Big m.frm
 index:Big m.index
 view:Big m.view
 value:Big m.value
 prep:Big m.prep
abbrev m0:jK:=⟨0,0,0,0,0,0,⟨0,0⟩,bk0⟩
theorem mk_eq {x y:jK} (h1:x.kind=y.kind) (h2:x.frm=y.frm) (h3:x.index=y.index) (h4:x.view=y.view) (h5:x.value=y.value) (h6:x.prep=y.prep) (h7:x.tx=y.tx) (h8:x.b=y.b):x=y:=by
 cases x;cases y;simp_all
theorem wI {m:jK} {d:Nat} (h:m.b.k≤2):jg (d+6) (mv m)=true:=by
 have h1:jg (d+5) (tl m.b.k m.b.txs)=true:=ZF (d:=d+1) h fun _ _=>rfl
 refine XE ?_
 simp only [List.all_cons,List.all_nil,h1,Bool.and_true]
 rfl
theorem agV (m:jK):(fM m).all (·.oneCell')=true:=by
 simp only [fM,List.all_cons,List.all_nil,acN,adM,Bool.and_true]
section
variable {S:zu} {q e:Nat} {m:jK} {own:Own}
theorem jV (h:S.get q=some (.cells (fM m) own e)):zQ zi false 3 (.pointer (some ⟨q,0+0,none⟩)) S=some (.int .i64 m.kind,S):=yT (t:=3) (o:=0+0) h Zt rfl
theorem wM (h:S.get q=some (.cells (fM m) own e)):zQ zi false 3 (.pointer (some ⟨q,0+1,none⟩)) S=some (.int .i64 m.frm,S):=yT (t:=3) (o:=0+1) h Zt rfl
theorem yh (h:S.get q=some (.cells (fM m) own e)):zQ zi false 3 (.pointer (some ⟨q,0+2,none⟩)) S=some (.int .i64 m.index,S):=yT (t:=3) (o:=0+2) h Zt rfl
theorem yJ (h:S.get q=some (.cells (fM m) own e)):zQ zi false 3 (.pointer (some ⟨q,0+3,none⟩)) S=some (.int .i64 m.view,S):=yT (t:=3) (o:=0+3) h Zt rfl
theorem wE (h:S.get q=some (.cells (fM m) own e)):zQ zi false 3 (.pointer (some ⟨q,0+4,none⟩)) S=some (.int .i64 m.value,S):=yT (t:=3) (o:=0+4) h Zt rfl
theorem qK (h:S.get q=some (.cells (fM m) own e)):zQ zi false 3 (.pointer (some ⟨q,0+5,none⟩)) S=some (.int .i64 m.prep,S):=yT (t:=3) (o:=0+5) h Zt rfl
theorem qU (h:S.get q=some (.cells (fM m) own e)):zQ zi false 25 (.pointer (some ⟨q,0+6,none⟩)) S=some (tv m.tx,S):=(ZC (o:=0+6) h Kw kR (by simp [fM])).trans (by simp [fM,kS])
theorem kG (h:S.get q=some (.cells (fM m) own e)) (hk:m.b.k≠2):zQ zi false 28 (.pointer (some ⟨q,0+8,none⟩)) S=some (bv m.b,S):=by
 rw [ZC (o:=0+8) h Yr xg (by simp [fM])]
 simp [fM,kS,Vt,hk]
theorem kQ (h:S.get q=some (.cells (fM m) own e)) (hk:m.b.k≠2):zQ zi false 30 (.pointer (some ⟨q,0,none⟩)) S=some (mv m,S):=by
 rw [JO h]
 simp only [kS,Vt,if_neg hk]
end
abbrev Y5 (m:jK):zu:=zu.empty.push (.cells (fM m) (.own []) 0)
theorem xq (m:jK):Zk (mv m) zu.empty=some (.pointer (some ⟨0,0,none⟩),Y5 m):=rfl
theorem Q5 (m:jK):(Y5 m).get 0=some (.cells (fM m) (.own []) 0):=rfl
abbrev abp (a b:jK):zu:=(Y5 a).push (.cells (fM b) (.own []) 0)
theorem ZK (a b:jK):Zk (mv b) (Y5 a)=some (.pointer (some ⟨1,0,none⟩),abp a b):=by kernel_rfl
theorem X5 (a b:jK):(abp a b).get 0=some (.cells (fM a) (.own []) 0):=by kernel_rfl
theorem VJ (a b:jK):(abp a b).get 1=some (.cells (fM b) (.own []) 0):=by kernel_rfl
theorem Qq (S:zu):yc zi 30 S=some (.pointer (some ⟨S.next,0,none⟩),S.push (.cells (fM m0) (.own []) 0)):=by kernel_rfl
def yX (a b:jK):Bool:=decide (a.kind=b.kind) && (decide (a.frm=b.frm) && (decide (a.index=b.index) && (decide (a.view=b.view) && (decide (a.value=b.value) && (decide (a.prep=b.prep) && (decide (a.tx=b.tx) && vC a.b b.b))))))
theorem jr.v {a b:jK} (ha:a.Ok) (hb:b.Ok) (S:zu):jc zi O jr.id [mv a,mv b] S=some (.bool (yX a b),S):=by
 obtain ⟨T,hTe⟩:∃ T,T=(mv a::mv b::zh::zh::zh::zh::zh::zh::zh::zh::zh::zh::zh::zh::zh::zh::zh::zh::zh::zh::zh::zh::zh::zh::zh::zh::zh::zh::zh::zh::zh::zh::zh::zh::zh::zh::zh::zh::zh::zh::zh::zh::zh::zh::zh::zh::zh::zh::zh::zh::zh::zh::zh::zh::zh::zh::zh::zh::zh::zh::zh::[]):=⟨_,rfl⟩
 have hr:zD zi O false jr.code T zu.empty=zD zi O false jr.code T zu.empty:=rfl
 have g0:=X5 a b
 have g1:=VJ a b
 have c1:=fun S=>jq.v ha.b hb.b S
 have e1:=fun S=>(aey a.tx b.tx S).1
 have hc:[mv a,mv b].all (jg 16)=true:=all2 (wI ha.b.okl.le) (wI hb.b.okl.le)
 unfold yX
 by_cases h1:a.kind=b.kind
 ·
  by_cases h2:a.frm=b.frm
  ·
   by_cases h3:a.index=b.index
   ·
    by_cases h4:a.view=b.view
    ·
     by_cases h5:a.value=b.value
     ·
      by_cases h6:a.prep=b.prep
      ·
       by_cases h7:a.tx=b.tx
       ·
        rw [decide_eq_true h1,decide_eq_true h2,decide_eq_true h3,decide_eq_true h4,decide_eq_true h5,decide_eq_true h6,decide_eq_true h7]
        simp only [Bool.true_and]
        conv at hr =>
         rhs
         rw [hTe]
         simp only [jr.code,jr.rs,zSs,reduceIte,zk,zn,zo,zq,xq,ZK,zI,zT,zY,jf,zM,jm,jv,jk,jV g0,jV g1,wM g0,wM g1,yh g0,yh g1,yJ g0,yJ g1,wE g0,wE g1,qK g0,qK g1,qU g0,qU g1,kG g0 ha.b.ne,kG g1 hb.b.ne,decide_eq_true h1,decide_eq_true h2,decide_eq_true h3,decide_eq_true h4,decide_eq_true h5,decide_eq_true h6,decide_eq_true h7,e1,c1]
        rw [hTe] at hr
        exact jr.runs hr (.inr rfl) hc rfl
       ·
        rw [decide_eq_false h7]
        simp only [Bool.false_and,Bool.and_false]
        conv at hr =>
         rhs
         rw [hTe]
         simp only [jr.code,jr.rs,zSs,reduceIte,zk,zn,zo,zq,xq,ZK,zI,zT,zY,jf,zM,jm,jv,jV g0,jV g1,wM g0,wM g1,yh g0,yh g1,yJ g0,yJ g1,wE g0,wE g1,qK g0,qK g1,qU g0,qU g1,decide_eq_true h1,decide_eq_true h2,decide_eq_true h3,decide_eq_true h4,decide_eq_true h5,decide_eq_true h6,decide_eq_false h7,e1]
        rw [hTe] at hr
        exact jr.runs hr (.inr rfl) hc rfl
      ·
       rw [decide_eq_false h6]
       simp only [Bool.false_and,Bool.and_false]
       conv at hr =>
        rhs
        rw [hTe]
        simp only [jr.code,jr.rs,zSs,reduceIte,zk,zn,zo,zq,xq,ZK,zI,zT,zY,jf,zM,jm,jV g0,jV g1,wM g0,wM g1,yh g0,yh g1,yJ g0,yJ g1,wE g0,wE g1,qK g0,qK g1,decide_eq_true h1,decide_eq_true h2,decide_eq_true h3,decide_eq_true h4,decide_eq_true h5,decide_eq_false h6]
       rw [hTe] at hr
       exact jr.runs hr (.inr rfl) hc rfl
     ·
      rw [decide_eq_false h5]
      simp only [Bool.false_and,Bool.and_false]
      conv at hr =>
       rhs
       rw [hTe]
       simp only [jr.code,jr.rs,zSs,reduceIte,zk,zn,zo,zq,xq,ZK,zI,zT,zY,jf,zM,jV g0,jV g1,wM g0,wM g1,yh g0,yh g1,yJ g0,yJ g1,wE g0,wE g1,decide_eq_true h1,decide_eq_true h2,decide_eq_true h3,decide_eq_true h4,decide_eq_false h5]
      rw [hTe] at hr
      exact jr.runs hr (.inr rfl) hc rfl
    ·
     rw [decide_eq_false h4]
     simp only [Bool.false_and,Bool.and_false]
     conv at hr =>
      rhs
      rw [hTe]
      simp only [jr.code,jr.rs,zSs,reduceIte,zk,zn,zo,zq,xq,ZK,zI,zT,zY,jf,jV g0,jV g1,wM g0,wM g1,yh g0,yh g1,yJ g0,yJ g1,decide_eq_true h1,decide_eq_true h2,decide_eq_true h3,decide_eq_false h4]
     rw [hTe] at hr
     exact jr.runs hr (.inr rfl) hc rfl
   ·
    rw [decide_eq_false h3]
    simp only [Bool.false_and,Bool.and_false]
    conv at hr =>
     rhs
     rw [hTe]
     simp only [jr.code,jr.rs,zSs,reduceIte,zk,zn,zo,zq,xq,ZK,zI,zT,zY,jV g0,jV g1,wM g0,wM g1,yh g0,yh g1,decide_eq_true h1,decide_eq_true h2,decide_eq_false h3]
    rw [hTe] at hr
    exact jr.runs hr (.inr rfl) hc rfl
  ·
   rw [decide_eq_false h2]
   simp only [Bool.false_and,Bool.and_false]
   conv at hr =>
    rhs
    rw [hTe]
    simp only [jr.code,jr.rs,zSs,reduceIte,zk,zn,zo,zq,xq,ZK,zI,zT,jV g0,jV g1,wM g0,wM g1,decide_eq_true h1,decide_eq_false h2]
   rw [hTe] at hr
   exact jr.runs hr (.inr rfl) hc rfl
 ·
  rw [decide_eq_false h1]
  simp only [Bool.false_and]
  conv at hr =>
   rhs
   rw [hTe]
   simp only [jr.code,jr.rs,zSs,reduceIte,zk,zn,zo,zq,xq,ZK,zI,jV g0,jV g1,decide_eq_false h1]
  rw [hTe] at hr
  exact jr.runs hr (.inr rfl) hc rfl
theorem zB.v {a b:jK} (ha:a.Ok) (hb:b.Ok) (S:zu):jc zi O zB.id [mv a,mv b] S=some (.bool (yX a b),S):=by
 obtain ⟨T,hTe⟩:∃ T,T=(mv a::mv b::zh::zh::zh::zh::zh::zh::zh::zh::zh::zh::zh::zh::zh::zh::zh::zh::zh::zh::zh::zh::zh::zh::zh::zh::zh::zh::zh::zh::zh::zh::zh::zh::zh::zh::zh::zh::zh::zh::zh::zh::zh::zh::zh::zh::zh::zh::zh::zh::zh::zh::zh::zh::zh::zh::zh::[]):=⟨_,rfl⟩
 have hr:zD zi O false zB.code T zu.empty=zD zi O false zB.code T zu.empty:=rfl
 have g0:=X5 a b
 have g1:=VJ a b
 have c1:=fun S=>zF.v ha.b hb.b S
 have e1:=fun S=>(aey a.tx b.tx S).1
 have hc:[mv a,mv b].all (jg 16)=true:=all2 (wI ha.b.okl.le) (wI hb.b.okl.le)
 by_cases h1:a.kind=b.kind
 rotate_left
 ·
  rw [show yX a b=false from by simp [yX,h1]]
  conv at hr =>
   rhs
   rw [hTe]
   simp only [zB.code,zB.rs,zSs,reduceIte,zk,zn,zo,zq,xq,ZK,zI,jV g0,jV g1,decide_eq_false h1]
  rw [hTe] at hr
  exact zB.runs hr (.inr rfl) hc rfl
 by_cases h2:a.frm=b.frm
 rotate_left
 ·
  rw [show yX a b=false from by simp [yX,h1,h2]]
  conv at hr =>
   rhs
   rw [hTe]
   simp only [zB.code,zB.rs,zSs,reduceIte,zk,zn,zo,zq,xq,ZK,zI,jV g0,jV g1,decide_eq_true h1,zT,wM g0,wM g1,decide_eq_false h2]
  rw [hTe] at hr
  exact zB.runs hr (.inr rfl) hc rfl
 by_cases h3:a.index=b.index
 rotate_left
 ·
  rw [show yX a b=false from by simp [yX,h1,h2,h3]]
  conv at hr =>
   rhs
   rw [hTe]
   simp only [zB.code,zB.rs,zSs,reduceIte,zk,zn,zo,zq,xq,ZK,zI,jV g0,jV g1,decide_eq_true h1,zT,wM g0,wM g1,decide_eq_true h2,zY,yh g0,yh g1,decide_eq_false h3]
  rw [hTe] at hr
  exact zB.runs hr (.inr rfl) hc rfl
 by_cases h4:a.view=b.view
 rotate_left
 ·
  rw [show yX a b=false from by simp [yX,h1,h2,h3,h4]]
  conv at hr =>
   rhs
   rw [hTe]
   simp only [zB.code,zB.rs,zSs,reduceIte,zk,zn,zo,zq,xq,ZK,zI,jV g0,jV g1,decide_eq_true h1,zT,wM g0,wM g1,decide_eq_true h2,zY,yh g0,yh g1,decide_eq_true h3,jf,yJ g0,yJ g1,decide_eq_false h4]
  rw [hTe] at hr
  exact zB.runs hr (.inr rfl) hc rfl
 by_cases h5:a.value=b.value
 rotate_left
 ·
  rw [show yX a b=false from by simp [yX,h1,h2,h3,h4,h5]]
  conv at hr =>
   rhs
   rw [hTe]
   simp only [zB.code,zB.rs,zSs,reduceIte,zk,zn,zo,zq,xq,ZK,zI,jV g0,jV g1,decide_eq_true h1,zT,wM g0,wM g1,decide_eq_true h2,zY,yh g0,yh g1,decide_eq_true h3,jf,yJ g0,yJ g1,decide_eq_true h4,zM,wE g0,wE g1,decide_eq_false h5]
  rw [hTe] at hr
  exact zB.runs hr (.inr rfl) hc rfl
 by_cases h6:a.prep=b.prep
 rotate_left
 ·
  rw [show yX a b=false from by simp [yX,h1,h2,h3,h4,h5,h6]]
  conv at hr =>
   rhs
   rw [hTe]
   simp only [zB.code,zB.rs,zSs,reduceIte,zk,zn,zo,zq,xq,ZK,zI,jV g0,jV g1,decide_eq_true h1,zT,wM g0,wM g1,decide_eq_true h2,zY,yh g0,yh g1,decide_eq_true h3,jf,yJ g0,yJ g1,decide_eq_true h4,zM,wE g0,wE g1,decide_eq_true h5,jm,qK g0,qK g1,decide_eq_false h6]
  rw [hTe] at hr
  exact zB.runs hr (.inr rfl) hc rfl
 by_cases h7:a.tx=b.tx
 rotate_left
 ·
  rw [show yX a b=false from by simp [yX,h7]]
  conv at hr =>
   rhs
   rw [hTe]
   simp only [zB.code,zB.rs,zSs,reduceIte,zk,zn,zo,zq,xq,ZK,zI,jV g0,jV g1,decide_eq_true h1,zT,wM g0,wM g1,decide_eq_true h2,zY,yh g0,yh g1,decide_eq_true h3,jf,yJ g0,yJ g1,decide_eq_true h4,zM,wE g0,wE g1,decide_eq_true h5,jm,qK g0,qK g1,decide_eq_true h6,jv,jk,qU g0,qU g1,e1,decide_eq_false h7]
  rw [hTe] at hr
  exact zB.runs hr (.inr rfl) hc rfl
 rw [show yX a b=vC a.b b.b from by simp [yX,h1,h2,h3,h4,h5,h6,h7]]
 conv at hr =>
  rhs
  rw [hTe]
  simp only [zB.code,zB.rs,zSs,reduceIte,zk,zn,zo,zq,xq,ZK,zI,jV g0,jV g1,decide_eq_true h1,zT,wM g0,wM g1,decide_eq_true h2,zY,yh g0,yh g1,decide_eq_true h3,jf,yJ g0,yJ g1,decide_eq_true h4,zM,wE g0,wE g1,decide_eq_true h5,jm,qK g0,qK g1,decide_eq_true h6,jv,jk,qU g0,qU g1,kG g0 ha.b.ne,kG g1 hb.b.ne,e1,decide_eq_true h7,c1]
 rw [hTe] at hr
 exact zB.runs hr (.inr rfl) hc rfl
end Go.Proofs.Ytbgcphbbchndkaa
namespace Go.Proofs.Ytbgcphbbchndkaa
open Go.Abs
def Jo (m:jK):Bool:=decide (m.kind=4) || decide (m.kind=5)
def yD (m:jK):Bool:=decide (m.value=0) || decide (0 < Js m.value) || (Jo m && decide (m.value=-1))
theorem zZ.v {m:jK} (hm:m.Ok) (S:zu):jc zi O zZ.id [mv m] S=some (.bool (yD m),S):=by
 obtain ⟨T,hTe⟩:∃ T,T=(mv m::zh::zh::zh::zh::zh::zh::zh::zh::zh::zh::zh::zh::zh::zh::zh::zh::zh::zh::zh::zh::zh::zh::zh::zh::zh::zh::zh::zh::[]):=⟨_,rfl⟩
 have hr:zD zi O false zZ.code T zu.empty=zD zi O false zZ.code T zu.empty:=rfl
 have g0:=Q5 m
 have c1:=fun S=>jG.v m.value S
 have hc:[mv m].all (jg 16)=true:=all1 (wI hm.b.okl.le)
 by_cases k4:m.kind=4
 ·
  have hvote:Jo m=true:=by simp [Jo,k4]
  by_cases v0:m.value=0
  ·
   rw [show yD m=true from by simp [yD,v0]]
   conv at hr =>
    rhs
    rw [hTe]
    simp only [zZ.code,zZ.rs,zSs,reduceIte,zk,zn,zo,zq,xq,zI,zM,jV g0,wE g0,decide_eq_true k4,decide_eq_true v0]
   rw [hTe] at hr
   exact zZ.runs hr (.inr rfl) hc rfl
  by_cases v1:0 < Js m.value
  ·
   rw [show yD m=true from by simp [yD,v1]]
   conv at hr =>
    rhs
    rw [hTe]
    simp only [zZ.code,zZ.rs,zSs,reduceIte,zk,zn,zo,zq,xq,zI,zM,jV g0,wE g0,decide_eq_true k4,decide_eq_false v0,c1,decide_eq_true v1]
   rw [hTe] at hr
   exact zZ.runs hr (.inr rfl) hc rfl
  by_cases v2:m.value=-1
  ·
   rw [show yD m=true from by simp [yD,v2,hvote]]
   conv at hr =>
    rhs
    rw [hTe]
    simp only [zZ.code,zZ.rs,zSs,reduceIte,zk,zn,zo,zq,xq,zI,zM,jV g0,wE g0,decide_eq_true k4,decide_eq_false v0,c1,decide_eq_false v1,decide_eq_true v2]
   rw [hTe] at hr
   exact zZ.runs hr (.inr rfl) hc rfl
  rw [show yD m=false from by simp [yD,v0,v1,v2]]
  conv at hr =>
   rhs
   rw [hTe]
   simp only [zZ.code,zZ.rs,zSs,reduceIte,zk,zn,zo,zq,xq,zI,zM,jV g0,wE g0,decide_eq_true k4,decide_eq_false v0,c1,decide_eq_false v1,decide_eq_false v2]
  rw [hTe] at hr
  exact zZ.runs hr (.inr rfl) hc rfl
 by_cases k5:m.kind=5
 ·
  have hvote:Jo m=true:=by simp [Jo,k5]
  by_cases v0:m.value=0
  ·
   rw [show yD m=true from by simp [yD,v0]]
   conv at hr =>
    rhs
    rw [hTe]
    simp only [zZ.code,zZ.rs,zSs,reduceIte,zk,zn,zo,zq,xq,zI,zM,jV g0,wE g0,decide_eq_false k4,decide_eq_true k5,decide_eq_true v0]
   rw [hTe] at hr
   exact zZ.runs hr (.inr rfl) hc rfl
  by_cases v1:0 < Js m.value
  ·
   rw [show yD m=true from by simp [yD,v1]]
   conv at hr =>
    rhs
    rw [hTe]
    simp only [zZ.code,zZ.rs,zSs,reduceIte,zk,zn,zo,zq,xq,zI,zM,jV g0,wE g0,decide_eq_false k4,decide_eq_true k5,decide_eq_false v0,c1,decide_eq_true v1]
   rw [hTe] at hr
   exact zZ.runs hr (.inr rfl) hc rfl
  by_cases v2:m.value=-1
  ·
   rw [show yD m=true from by simp [yD,v2,hvote]]
   conv at hr =>
    rhs
    rw [hTe]
    simp only [zZ.code,zZ.rs,zSs,reduceIte,zk,zn,zo,zq,xq,zI,zM,jV g0,wE g0,decide_eq_false k4,decide_eq_true k5,decide_eq_false v0,c1,decide_eq_false v1,decide_eq_true v2]
   rw [hTe] at hr
   exact zZ.runs hr (.inr rfl) hc rfl
  rw [show yD m=false from by simp [yD,v0,v1,v2]]
  conv at hr =>
   rhs
   rw [hTe]
   simp only [zZ.code,zZ.rs,zSs,reduceIte,zk,zn,zo,zq,xq,zI,zM,jV g0,wE g0,decide_eq_false k4,decide_eq_true k5,decide_eq_false v0,c1,decide_eq_false v1,decide_eq_false v2]
  rw [hTe] at hr
  exact zZ.runs hr (.inr rfl) hc rfl
 have hvote:Jo m=false:=by simp [Jo,k4,k5]
 by_cases v0:m.value=0
 ·
  rw [show yD m=true from by simp [yD,v0]]
  conv at hr =>
   rhs
   rw [hTe]
   simp only [zZ.code,zZ.rs,zSs,reduceIte,zk,zn,zo,zq,xq,zI,zM,jV g0,wE g0,decide_eq_false k4,decide_eq_false k5,decide_eq_true v0]
  rw [hTe] at hr
  exact zZ.runs hr (.inr rfl) hc rfl
 by_cases v1:0 < Js m.value
 ·
  rw [show yD m=true from by simp [yD,v1]]
  conv at hr =>
   rhs
   rw [hTe]
   simp only [zZ.code,zZ.rs,zSs,reduceIte,zk,zn,zo,zq,xq,zI,zM,jV g0,wE g0,decide_eq_false k4,decide_eq_false k5,decide_eq_false v0,c1,decide_eq_true v1]
  rw [hTe] at hr
  exact zZ.runs hr (.inr rfl) hc rfl
 rw [show yD m=false from by simp [yD,v0,v1,hvote]]
 conv at hr =>
  rhs
  rw [hTe]
  simp only [zZ.code,zZ.rs,zSs,reduceIte,zk,zn,zo,zq,xq,zI,zM,jV g0,wE g0,decide_eq_false k4,decide_eq_false k5,decide_eq_false v0,c1,decide_eq_false v1]
 rw [hTe] at hr
 exact zZ.runs hr (.inr rfl) hc rfl
def jW (m:jK):jK :=
 if m.kind=0 then ⟨m.kind,m.frm,0,0,0,0,m.tx,bk0⟩
 else if m.kind=1 then ⟨m.kind,m.frm,0,0,0,0,⟨0,0⟩,m.b⟩
 else if m.kind=2 then ⟨m.kind,m.frm,0,0,m.value,0,⟨0,0⟩,bk0⟩
 else if m.kind=3 then ⟨m.kind,m.frm,m.index,m.view,m.value,m.prep,⟨0,0⟩,bk0⟩
 else if m.kind=4 then ⟨m.kind,m.frm,m.index,m.view,m.value,0,⟨0,0⟩,bk0⟩
 else if m.kind=5 then ⟨m.kind,m.frm,m.index,m.view,m.value,0,⟨0,0⟩,bk0⟩
 else ⟨m.kind,m.frm,m.index,0,m.value,0,⟨0,0⟩,bk0⟩
abbrev yS (S:zu) (q:Nat) (x:jK):zu:=(S.kills []).set q (.cells (fM x) (.own []) 0)
theorem jX (S:zu) (q:Nat) (x:jK):(yS S q x).get q=some (.cells (fM x) (.own []) 0):=by rw [zu.jU,if_pos rfl]
theorem jO {S:zu} {q k:Nat} {x:jK} (h:k≠q):(yS S q x).get k=S.get k:=by rw [zu.jU,if_neg h];rfl
theorem Zx {S:zu} {q k o:Nat} {x y:jK} (h:S.get k=some (.cells (fM y) (.own []) 0)) (hk:k≠q):kZ (.pointer (some ⟨k,o,none⟩)) S (yS S q x)=true:=by
 have hl:(yS S q x).log=q::S.log:=rfl
 simp only [kZ,h,hl,List.length_cons,Nat.add_sub_cancel_left,List.take_succ_cons,List.take_zero]
 simp [hk]
section
variable {S:zu} {q:Nat} {x:jK}
theorem V9 (h:S.get q=some (.cells (fM x) (.own []) 0)) (y:jK):wo zi 30 (.pointer (some ⟨q,0,none⟩)) (mv y) S=some (zh,yS S q y):=by
 rw [qo (x:=mv y) (n:=13) h vw (by rw [yV];rfl) (by rw [yV,List.toList_toArray];exact agV y) (by simp [fM]),yV,List.toList_toArray];rfl
theorem aeT (h:S.get q=some (.cells (fM x) (.own []) 0)) (v:Int):wo zi 3 (.pointer (some ⟨q,0+2,none⟩)) (.int .i64 v) S=some (zh,yS S q { x with index:=v }):=by
 rw [qo (n:=1) h aa3 rfl rfl (by simp [fM])];rfl
theorem agP (h:S.get q=some (.cells (fM x) (.own []) 0)) (v:Int):wo zi 3 (.pointer (some ⟨q,0+3,none⟩)) (.int .i64 v) S=some (zh,yS S q { x with view:=v }):=by
 rw [qo (n:=1) h aa3 rfl rfl (by simp [fM])];rfl
theorem adg (h:S.get q=some (.cells (fM x) (.own []) 0)) (v:Int):wo zi 3 (.pointer (some ⟨q,0+4,none⟩)) (.int .i64 v) S=some (zh,yS S q { x with value:=v }):=by
 rw [qo (n:=1) h aa3 rfl rfl (by simp [fM])];rfl
theorem aic (h:S.get q=some (.cells (fM x) (.own []) 0)) (v:Int):wo zi 3 (.pointer (some ⟨q,0+5,none⟩)) (.int .i64 v) S=some (zh,yS S q { x with prep:=v }):=by
 rw [qo (n:=1) h aa3 rfl rfl (by simp [fM])];rfl
theorem aiq (h:S.get q=some (.cells (fM x) (.own []) 0)) (t:TxV):wo zi 25 (.pointer (some ⟨q,0+6,none⟩)) (tv t) S=some (zh,yS S q { x with tx:=t }):=by
 rw [qo (n:=2) h kR rfl rfl (by simp [fM])];rfl
theorem aif (h:S.get q=some (.cells (fM x) (.own []) 0)) (b:xC):wo zi 28 (.pointer (some ⟨q,0+8,none⟩)) (bv b) S=some (zh,yS S q { x with b:=b }):=by
 rw [qo (x:=bv b) (n:=5) h xg (by rw [yV];rfl) (by rw [yV,List.toList_toArray];exact ahe b) (by simp [fM]),yV,List.toList_toArray];rfl
end
theorem zC.v0 {m:jK} (hm:m.Ok) (hk:m.kind=0) (S:zu):jc zi O zC.id [mv m] S=some (mv (jW m),S):=by
 obtain ⟨T,hTe⟩:∃ T,T=(mv m::zh::zh::zh::zh::zh::zh::zh::zh::zh::zh::zh::zh::zh::zh::zh::zh::zh::zh::zh::zh::zh::zh::zh::zh::zh::zh::zh::zh::zh::zh::zh::zh::zh::zh::zh::zh::zh::zh::zh::zh::zh::zh::zh::zh::zh::[]):=⟨_,rfl⟩
 have hr:zD zi O false zC.code T zu.empty=zD zi O false zC.code T zu.empty:=rfl
 obtain ⟨A1,hA1⟩:∃ A,A=(Y5 m).push (.cells (fM m0) (.own []) 0):=⟨_,rfl⟩
 have a1:yc zi 30 (Y5 m)=some (.pointer (some ⟨1,0,none⟩),A1):=by rw [hA1];exact Qq _
 have p0:A1.get 0=some (.cells (fM m) (.own []) 0):=by rw [hA1];kernel_rfl
 obtain ⟨A2,hA2⟩:∃ A,A=A1.push (.cells (fM m0) (.own []) 0):=⟨_,rfl⟩
 have a2:yc zi 30 A1=some (.pointer (some ⟨2,0,none⟩),A2):=by rw [hA2,hA1];exact Qq _
 have q0:A2.get 0=some (.cells (fM m) (.own []) 0):=by rw [hA2,hA1];kernel_rfl
 have q1:A2.get 1=some (.cells (fM m0) (.own []) 0):=by rw [hA2,hA1];kernel_rfl
 have q2:A2.get 2=some (.cells (fM m0) (.own []) 0):=by rw [hA2,hA1];kernel_rfl
 have s0:wo zi 30 (.pointer (some ⟨2,0,none⟩)) (.agg [Value.int .i64 m.kind,.int .i64 m.frm,.int .i64 0,.int .i64 0,.int .i64 0,.int .i64 0,.int .i64 0,.int .i64 0,.int .i64 0,.int .i64 0,.int .i64 0,.int .i64 0,.slice none 0 0].toArray) A2=some (zh,yS A2 2 (⟨m.kind,m.frm,0,0,0,0,⟨0,0⟩,bk0⟩:jK)):=V9 q2 (⟨m.kind,m.frm,0,0,0,0,⟨0,0⟩,bk0⟩:jK)
 have b0:(yS A2 2 (⟨m.kind,m.frm,0,0,0,0,⟨0,0⟩,bk0⟩:jK)).get 0=some (.cells (fM m) (.own []) 0):=(jO (by decide)).trans q0
 have b1:(yS A2 2 (⟨m.kind,m.frm,0,0,0,0,⟨0,0⟩,bk0⟩:jK)).get 1=some (.cells (fM m0) (.own []) 0):=(jO (by decide)).trans q1
 have b2:=jX A2 2 (⟨m.kind,m.frm,0,0,0,0,⟨0,0⟩,bk0⟩:jK)
 generalize hB0:yS A2 2 (⟨m.kind,m.frm,0,0,0,0,⟨0,0⟩,bk0⟩:jK)=B0 at s0 b0 b1 b2
 have s1:=aiq b2 m.tx
 have c1_0:(yS B0 2 (⟨m.kind,m.frm,0,0,0,0,m.tx,bk0⟩:jK)).get 0=some (.cells (fM m) (.own []) 0):=(jO (by decide)).trans b0
 have c1_1:(yS B0 2 (⟨m.kind,m.frm,0,0,0,0,m.tx,bk0⟩:jK)).get 1=some (.cells (fM m0) (.own []) 0):=(jO (by decide)).trans b1
 have c1_2:=jX B0 2 (⟨m.kind,m.frm,0,0,0,0,m.tx,bk0⟩:jK)
 dsimp only at s1
 generalize hB1:yS B0 2 (⟨m.kind,m.frm,0,0,0,0,m.tx,bk0⟩:jK)=B1 at s1  c1_0 c1_1 c1_2
 have eb:(⟨m.kind,m.frm,0,0,0,0,m.tx,bk0⟩:jK)=jW m:=by simp [jW,hk]
 rw [eb] at c1_2
 have hbk:(jW m).b.k≠2:=by simp [jW,hk]
 have ld:=kQ c1_2 hbk
 have sl:=V9 c1_1 (jW m)
 have fin:=kQ (jX B1 1 (jW m)) hbk
 have hcb:(jW m).b.k≤2:=by simp [jW,hk]
 conv at hr =>
  rhs
  rw [hTe]
  simp only [zC.code,zC.rs,zSs,reduceIte,zk,zn,zo,zq,xq,a1,a2,zI,zT,jV p0,wM p0,yO (y0:=.int .i64 m.kind) (y1:=.int .i64 m.frm) rfl rfl,s0,jV b0,jv,s1,qU b0,decide_eq_true hk,vM,ld,sl]
 rw [hTe] at hr
 exact zC.runs hr (.inr rfl) fin (all1 (wI hm.b.okl.le)) (wI hcb)
theorem zC.v1 {m:jK} (hm:m.Ok) (hk:m.kind=1) (S:zu):jc zi O zC.id [mv m] S=some (mv (jW m),S):=by
 obtain ⟨T,hTe⟩:∃ T,T=(mv m::zh::zh::zh::zh::zh::zh::zh::zh::zh::zh::zh::zh::zh::zh::zh::zh::zh::zh::zh::zh::zh::zh::zh::zh::zh::zh::zh::zh::zh::zh::zh::zh::zh::zh::zh::zh::zh::zh::zh::zh::zh::zh::zh::zh::zh::[]):=⟨_,rfl⟩
 have hr:zD zi O false zC.code T zu.empty=zD zi O false zC.code T zu.empty:=rfl
 obtain ⟨A1,hA1⟩:∃ A,A=(Y5 m).push (.cells (fM m0) (.own []) 0):=⟨_,rfl⟩
 have a1:yc zi 30 (Y5 m)=some (.pointer (some ⟨1,0,none⟩),A1):=by rw [hA1];exact Qq _
 have p0:A1.get 0=some (.cells (fM m) (.own []) 0):=by rw [hA1];kernel_rfl
 obtain ⟨A2,hA2⟩:∃ A,A=A1.push (.cells (fM m0) (.own []) 0):=⟨_,rfl⟩
 have a2:yc zi 30 A1=some (.pointer (some ⟨2,0,none⟩),A2):=by rw [hA2,hA1];exact Qq _
 have q0:A2.get 0=some (.cells (fM m) (.own []) 0):=by rw [hA2,hA1];kernel_rfl
 have q1:A2.get 1=some (.cells (fM m0) (.own []) 0):=by rw [hA2,hA1];kernel_rfl
 have q2:A2.get 2=some (.cells (fM m0) (.own []) 0):=by rw [hA2,hA1];kernel_rfl
 have s0:wo zi 30 (.pointer (some ⟨2,0,none⟩)) (.agg [Value.int .i64 m.kind,.int .i64 m.frm,.int .i64 0,.int .i64 0,.int .i64 0,.int .i64 0,.int .i64 0,.int .i64 0,.int .i64 0,.int .i64 0,.int .i64 0,.int .i64 0,.slice none 0 0].toArray) A2=some (zh,yS A2 2 (⟨m.kind,m.frm,0,0,0,0,⟨0,0⟩,bk0⟩:jK)):=V9 q2 (⟨m.kind,m.frm,0,0,0,0,⟨0,0⟩,bk0⟩:jK)
 have b0:(yS A2 2 (⟨m.kind,m.frm,0,0,0,0,⟨0,0⟩,bk0⟩:jK)).get 0=some (.cells (fM m) (.own []) 0):=(jO (by decide)).trans q0
 have b1:(yS A2 2 (⟨m.kind,m.frm,0,0,0,0,⟨0,0⟩,bk0⟩:jK)).get 1=some (.cells (fM m0) (.own []) 0):=(jO (by decide)).trans q1
 have b2:=jX A2 2 (⟨m.kind,m.frm,0,0,0,0,⟨0,0⟩,bk0⟩:jK)
 generalize hB0:yS A2 2 (⟨m.kind,m.frm,0,0,0,0,⟨0,0⟩,bk0⟩:jK)=B0 at s0 b0 b1 b2
 have s1:=aif b2 m.b
 have c1_0:(yS B0 2 (⟨m.kind,m.frm,0,0,0,0,⟨0,0⟩,m.b⟩:jK)).get 0=some (.cells (fM m) (.own []) 0):=(jO (by decide)).trans b0
 have c1_1:(yS B0 2 (⟨m.kind,m.frm,0,0,0,0,⟨0,0⟩,m.b⟩:jK)).get 1=some (.cells (fM m0) (.own []) 0):=(jO (by decide)).trans b1
 have c1_2:=jX B0 2 (⟨m.kind,m.frm,0,0,0,0,⟨0,0⟩,m.b⟩:jK)
 dsimp only at s1
 generalize hB1:yS B0 2 (⟨m.kind,m.frm,0,0,0,0,⟨0,0⟩,m.b⟩:jK)=B1 at s1  c1_0 c1_1 c1_2
 have eb:(⟨m.kind,m.frm,0,0,0,0,⟨0,0⟩,m.b⟩:jK)=jW m:=by simp [jW,hk]
 rw [eb] at c1_2
 have hbk:(jW m).b.k≠2:=by simp [jW,hk,hm.b.ne]
 have ld:=kQ c1_2 hbk
 have sl:=V9 c1_1 (jW m)
 have fin:=kQ (jX B1 1 (jW m)) hbk
 have hcb:(jW m).b.k≤2:=by simp [jW,hk,hm.b.okl.le]
 conv at hr =>
  rhs
  rw [hTe]
  simp only [zC.code,zC.rs,zSs,reduceIte,zk,zn,zo,zq,xq,a1,a2,zI,zT,jV p0,wM p0,yO (y0:=.int .i64 m.kind) (y1:=.int .i64 m.frm) rfl rfl,s0,jV b0,jk,s1,kG b0 hm.b.ne,decide_eq_false (show ¬ m.kind=0 by omega),decide_eq_true hk,vM,ld,sl]
 rw [hTe] at hr
 exact zC.runs hr (.inr rfl) fin (all1 (wI hm.b.okl.le)) (wI hcb)
theorem zC.v2 {m:jK} (hm:m.Ok) (hk:m.kind=2) (S:zu):jc zi O zC.id [mv m] S=some (mv (jW m),S):=by
 obtain ⟨T,hTe⟩:∃ T,T=(mv m::zh::zh::zh::zh::zh::zh::zh::zh::zh::zh::zh::zh::zh::zh::zh::zh::zh::zh::zh::zh::zh::zh::zh::zh::zh::zh::zh::zh::zh::zh::zh::zh::zh::zh::zh::zh::zh::zh::zh::zh::zh::zh::zh::zh::zh::[]):=⟨_,rfl⟩
 have hr:zD zi O false zC.code T zu.empty=zD zi O false zC.code T zu.empty:=rfl
 obtain ⟨A1,hA1⟩:∃ A,A=(Y5 m).push (.cells (fM m0) (.own []) 0):=⟨_,rfl⟩
 have a1:yc zi 30 (Y5 m)=some (.pointer (some ⟨1,0,none⟩),A1):=by rw [hA1];exact Qq _
 have p0:A1.get 0=some (.cells (fM m) (.own []) 0):=by rw [hA1];kernel_rfl
 obtain ⟨A2,hA2⟩:∃ A,A=A1.push (.cells (fM m0) (.own []) 0):=⟨_,rfl⟩
 have a2:yc zi 30 A1=some (.pointer (some ⟨2,0,none⟩),A2):=by rw [hA2,hA1];exact Qq _
 have q0:A2.get 0=some (.cells (fM m) (.own []) 0):=by rw [hA2,hA1];kernel_rfl
 have q1:A2.get 1=some (.cells (fM m0) (.own []) 0):=by rw [hA2,hA1];kernel_rfl
 have q2:A2.get 2=some (.cells (fM m0) (.own []) 0):=by rw [hA2,hA1];kernel_rfl
 have s0:wo zi 30 (.pointer (some ⟨2,0,none⟩)) (.agg [Value.int .i64 m.kind,.int .i64 m.frm,.int .i64 0,.int .i64 0,.int .i64 0,.int .i64 0,.int .i64 0,.int .i64 0,.int .i64 0,.int .i64 0,.int .i64 0,.int .i64 0,.slice none 0 0].toArray) A2=some (zh,yS A2 2 (⟨m.kind,m.frm,0,0,0,0,⟨0,0⟩,bk0⟩:jK)):=V9 q2 (⟨m.kind,m.frm,0,0,0,0,⟨0,0⟩,bk0⟩:jK)
 have b0:(yS A2 2 (⟨m.kind,m.frm,0,0,0,0,⟨0,0⟩,bk0⟩:jK)).get 0=some (.cells (fM m) (.own []) 0):=(jO (by decide)).trans q0
 have b1:(yS A2 2 (⟨m.kind,m.frm,0,0,0,0,⟨0,0⟩,bk0⟩:jK)).get 1=some (.cells (fM m0) (.own []) 0):=(jO (by decide)).trans q1
 have b2:=jX A2 2 (⟨m.kind,m.frm,0,0,0,0,⟨0,0⟩,bk0⟩:jK)
 generalize hB0:yS A2 2 (⟨m.kind,m.frm,0,0,0,0,⟨0,0⟩,bk0⟩:jK)=B0 at s0 b0 b1 b2
 have s1:=adg b2 m.value
 have c1_0:(yS B0 2 (⟨m.kind,m.frm,0,0,m.value,0,⟨0,0⟩,bk0⟩:jK)).get 0=some (.cells (fM m) (.own []) 0):=(jO (by decide)).trans b0
 have c1_1:(yS B0 2 (⟨m.kind,m.frm,0,0,m.value,0,⟨0,0⟩,bk0⟩:jK)).get 1=some (.cells (fM m0) (.own []) 0):=(jO (by decide)).trans b1
 have c1_2:=jX B0 2 (⟨m.kind,m.frm,0,0,m.value,0,⟨0,0⟩,bk0⟩:jK)
 dsimp only at s1
 generalize hB1:yS B0 2 (⟨m.kind,m.frm,0,0,m.value,0,⟨0,0⟩,bk0⟩:jK)=B1 at s1  c1_0 c1_1 c1_2
 have eb:(⟨m.kind,m.frm,0,0,m.value,0,⟨0,0⟩,bk0⟩:jK)=jW m:=by simp [jW,hk]
 rw [eb] at c1_2
 have hbk:(jW m).b.k≠2:=by simp [jW,hk]
 have ld:=kQ c1_2 hbk
 have sl:=V9 c1_1 (jW m)
 have fin:=kQ (jX B1 1 (jW m)) hbk
 have hcb:(jW m).b.k≤2:=by simp [jW,hk]
 conv at hr =>
  rhs
  rw [hTe]
  simp only [zC.code,zC.rs,zSs,reduceIte,zk,zn,zo,zq,xq,a1,a2,zI,zT,jV p0,wM p0,yO (y0:=.int .i64 m.kind) (y1:=.int .i64 m.frm) rfl rfl,s0,jV b0,zM,s1,wE b0,decide_eq_false (show ¬ m.kind=0 by omega),decide_eq_false (show ¬ m.kind=1 by omega),decide_eq_true hk,vM,ld,sl]
 rw [hTe] at hr
 exact zC.runs hr (.inr rfl) fin (all1 (wI hm.b.okl.le)) (wI hcb)
theorem zC.v3 {m:jK} (hm:m.Ok) (hk:m.kind=3) (S:zu):jc zi O zC.id [mv m] S=some (mv (jW m),S):=by
 obtain ⟨T,hTe⟩:∃ T,T=(mv m::zh::zh::zh::zh::zh::zh::zh::zh::zh::zh::zh::zh::zh::zh::zh::zh::zh::zh::zh::zh::zh::zh::zh::zh::zh::zh::zh::zh::zh::zh::zh::zh::zh::zh::zh::zh::zh::zh::zh::zh::zh::zh::zh::zh::zh::[]):=⟨_,rfl⟩
 have hr:zD zi O false zC.code T zu.empty=zD zi O false zC.code T zu.empty:=rfl
 obtain ⟨A1,hA1⟩:∃ A,A=(Y5 m).push (.cells (fM m0) (.own []) 0):=⟨_,rfl⟩
 have a1:yc zi 30 (Y5 m)=some (.pointer (some ⟨1,0,none⟩),A1):=by rw [hA1];exact Qq _
 have p0:A1.get 0=some (.cells (fM m) (.own []) 0):=by rw [hA1];kernel_rfl
 obtain ⟨A2,hA2⟩:∃ A,A=A1.push (.cells (fM m0) (.own []) 0):=⟨_,rfl⟩
 have a2:yc zi 30 A1=some (.pointer (some ⟨2,0,none⟩),A2):=by rw [hA2,hA1];exact Qq _
 have q0:A2.get 0=some (.cells (fM m) (.own []) 0):=by rw [hA2,hA1];kernel_rfl
 have q1:A2.get 1=some (.cells (fM m0) (.own []) 0):=by rw [hA2,hA1];kernel_rfl
 have q2:A2.get 2=some (.cells (fM m0) (.own []) 0):=by rw [hA2,hA1];kernel_rfl
 have s0:wo zi 30 (.pointer (some ⟨2,0,none⟩)) (.agg [Value.int .i64 m.kind,.int .i64 m.frm,.int .i64 0,.int .i64 0,.int .i64 0,.int .i64 0,.int .i64 0,.int .i64 0,.int .i64 0,.int .i64 0,.int .i64 0,.int .i64 0,.slice none 0 0].toArray) A2=some (zh,yS A2 2 (⟨m.kind,m.frm,0,0,0,0,⟨0,0⟩,bk0⟩:jK)):=V9 q2 (⟨m.kind,m.frm,0,0,0,0,⟨0,0⟩,bk0⟩:jK)
 have b0:(yS A2 2 (⟨m.kind,m.frm,0,0,0,0,⟨0,0⟩,bk0⟩:jK)).get 0=some (.cells (fM m) (.own []) 0):=(jO (by decide)).trans q0
 have b1:(yS A2 2 (⟨m.kind,m.frm,0,0,0,0,⟨0,0⟩,bk0⟩:jK)).get 1=some (.cells (fM m0) (.own []) 0):=(jO (by decide)).trans q1
 have b2:=jX A2 2 (⟨m.kind,m.frm,0,0,0,0,⟨0,0⟩,bk0⟩:jK)
 generalize hB0:yS A2 2 (⟨m.kind,m.frm,0,0,0,0,⟨0,0⟩,bk0⟩:jK)=B0 at s0 b0 b1 b2
 have s1:=aic b2 m.prep
 have c1_0:(yS B0 2 (⟨m.kind,m.frm,0,0,0,m.prep,⟨0,0⟩,bk0⟩:jK)).get 0=some (.cells (fM m) (.own []) 0):=(jO (by decide)).trans b0
 have c1_1:(yS B0 2 (⟨m.kind,m.frm,0,0,0,m.prep,⟨0,0⟩,bk0⟩:jK)).get 1=some (.cells (fM m0) (.own []) 0):=(jO (by decide)).trans b1
 have c1_2:=jX B0 2 (⟨m.kind,m.frm,0,0,0,m.prep,⟨0,0⟩,bk0⟩:jK)
 dsimp only at s1
 generalize hB1:yS B0 2 (⟨m.kind,m.frm,0,0,0,m.prep,⟨0,0⟩,bk0⟩:jK)=B1 at s1  c1_0 c1_1 c1_2
 have s2:=agP c1_2 m.view
 have c2_0:(yS B1 2 (⟨m.kind,m.frm,0,m.view,0,m.prep,⟨0,0⟩,bk0⟩:jK)).get 0=some (.cells (fM m) (.own []) 0):=(jO (by decide)).trans c1_0
 have c2_1:(yS B1 2 (⟨m.kind,m.frm,0,m.view,0,m.prep,⟨0,0⟩,bk0⟩:jK)).get 1=some (.cells (fM m0) (.own []) 0):=(jO (by decide)).trans c1_1
 have c2_2:=jX B1 2 (⟨m.kind,m.frm,0,m.view,0,m.prep,⟨0,0⟩,bk0⟩:jK)
 dsimp only at s2
 generalize hB2:yS B1 2 (⟨m.kind,m.frm,0,m.view,0,m.prep,⟨0,0⟩,bk0⟩:jK)=B2 at s2  c2_0 c2_1 c2_2
 have s3:=aeT c2_2 m.index
 have sq:=Zx (o:=0+4) (x:=(⟨m.kind,m.frm,m.index,m.view,0,m.prep,⟨0,0⟩,bk0⟩:jK)) c2_0 (show (0:Nat)≠2 by decide)
 have c3_0:(yS B2 2 (⟨m.kind,m.frm,m.index,m.view,0,m.prep,⟨0,0⟩,bk0⟩:jK)).get 0=some (.cells (fM m) (.own []) 0):=(jO (by decide)).trans c2_0
 have c3_1:(yS B2 2 (⟨m.kind,m.frm,m.index,m.view,0,m.prep,⟨0,0⟩,bk0⟩:jK)).get 1=some (.cells (fM m0) (.own []) 0):=(jO (by decide)).trans c2_1
 have c3_2:=jX B2 2 (⟨m.kind,m.frm,m.index,m.view,0,m.prep,⟨0,0⟩,bk0⟩:jK)
 dsimp only at s3
 generalize hB3:yS B2 2 (⟨m.kind,m.frm,m.index,m.view,0,m.prep,⟨0,0⟩,bk0⟩:jK)=B3 at s3 sq c3_0 c3_1 c3_2
 have s4:=adg c3_2 m.value
 have c4_0:(yS B3 2 (⟨m.kind,m.frm,m.index,m.view,m.value,m.prep,⟨0,0⟩,bk0⟩:jK)).get 0=some (.cells (fM m) (.own []) 0):=(jO (by decide)).trans c3_0
 have c4_1:(yS B3 2 (⟨m.kind,m.frm,m.index,m.view,m.value,m.prep,⟨0,0⟩,bk0⟩:jK)).get 1=some (.cells (fM m0) (.own []) 0):=(jO (by decide)).trans c3_1
 have c4_2:=jX B3 2 (⟨m.kind,m.frm,m.index,m.view,m.value,m.prep,⟨0,0⟩,bk0⟩:jK)
 dsimp only at s4
 generalize hB4:yS B3 2 (⟨m.kind,m.frm,m.index,m.view,m.value,m.prep,⟨0,0⟩,bk0⟩:jK)=B4 at s4  c4_0 c4_1 c4_2
 have eb:(⟨m.kind,m.frm,m.index,m.view,m.value,m.prep,⟨0,0⟩,bk0⟩:jK)=jW m:=by simp [jW,hk]
 rw [eb] at c4_2
 have hbk:(jW m).b.k≠2:=by simp [jW,hk]
 have ld:=kQ c4_2 hbk
 have sl:=V9 c4_1 (jW m)
 have fin:=kQ (jX B4 1 (jW m)) hbk
 have hcb:(jW m).b.k≤2:=by simp [jW,hk]
 conv at hr =>
  rhs
  rw [hTe]
  simp only [zC.code,zC.rs,zSs,reduceIte,zk,zn,zo,zq,xq,a1,a2,zI,zT,jV p0,wM p0,yO (y0:=.int .i64 m.kind) (y1:=.int .i64 m.frm) rfl rfl,s0,jV b0,jm,s1,qK b0,jf,s2,yJ b0,yJ c1_0,zY,s3,sq,yh c1_0,yh c2_0,wE c2_0,zM,zM,s4,wE c2_0,wE c3_0,decide_eq_false (show ¬ m.kind=0 by omega),decide_eq_false (show ¬ m.kind=1 by omega),decide_eq_false (show ¬ m.kind=2 by omega),decide_eq_true hk,vM,ld,sl]
 rw [hTe] at hr
 exact zC.runs hr (.inr rfl) fin (all1 (wI hm.b.okl.le)) (wI hcb)
theorem zC.v4 {m:jK} (hm:m.Ok) (hk:m.kind=4) (S:zu):jc zi O zC.id [mv m] S=some (mv (jW m),S):=by
 obtain ⟨T,hTe⟩:∃ T,T=(mv m::zh::zh::zh::zh::zh::zh::zh::zh::zh::zh::zh::zh::zh::zh::zh::zh::zh::zh::zh::zh::zh::zh::zh::zh::zh::zh::zh::zh::zh::zh::zh::zh::zh::zh::zh::zh::zh::zh::zh::zh::zh::zh::zh::zh::zh::[]):=⟨_,rfl⟩
 have hr:zD zi O false zC.code T zu.empty=zD zi O false zC.code T zu.empty:=rfl
 obtain ⟨A1,hA1⟩:∃ A,A=(Y5 m).push (.cells (fM m0) (.own []) 0):=⟨_,rfl⟩
 have a1:yc zi 30 (Y5 m)=some (.pointer (some ⟨1,0,none⟩),A1):=by rw [hA1];exact Qq _
 have p0:A1.get 0=some (.cells (fM m) (.own []) 0):=by rw [hA1];kernel_rfl
 obtain ⟨A2,hA2⟩:∃ A,A=A1.push (.cells (fM m0) (.own []) 0):=⟨_,rfl⟩
 have a2:yc zi 30 A1=some (.pointer (some ⟨2,0,none⟩),A2):=by rw [hA2,hA1];exact Qq _
 have q0:A2.get 0=some (.cells (fM m) (.own []) 0):=by rw [hA2,hA1];kernel_rfl
 have q1:A2.get 1=some (.cells (fM m0) (.own []) 0):=by rw [hA2,hA1];kernel_rfl
 have q2:A2.get 2=some (.cells (fM m0) (.own []) 0):=by rw [hA2,hA1];kernel_rfl
 have s0:wo zi 30 (.pointer (some ⟨2,0,none⟩)) (.agg [Value.int .i64 m.kind,.int .i64 m.frm,.int .i64 0,.int .i64 0,.int .i64 0,.int .i64 0,.int .i64 0,.int .i64 0,.int .i64 0,.int .i64 0,.int .i64 0,.int .i64 0,.slice none 0 0].toArray) A2=some (zh,yS A2 2 (⟨m.kind,m.frm,0,0,0,0,⟨0,0⟩,bk0⟩:jK)):=V9 q2 (⟨m.kind,m.frm,0,0,0,0,⟨0,0⟩,bk0⟩:jK)
 have b0:(yS A2 2 (⟨m.kind,m.frm,0,0,0,0,⟨0,0⟩,bk0⟩:jK)).get 0=some (.cells (fM m) (.own []) 0):=(jO (by decide)).trans q0
 have b1:(yS A2 2 (⟨m.kind,m.frm,0,0,0,0,⟨0,0⟩,bk0⟩:jK)).get 1=some (.cells (fM m0) (.own []) 0):=(jO (by decide)).trans q1
 have b2:=jX A2 2 (⟨m.kind,m.frm,0,0,0,0,⟨0,0⟩,bk0⟩:jK)
 generalize hB0:yS A2 2 (⟨m.kind,m.frm,0,0,0,0,⟨0,0⟩,bk0⟩:jK)=B0 at s0 b0 b1 b2
 have s1:=agP b2 m.view
 have c1_0:(yS B0 2 (⟨m.kind,m.frm,0,m.view,0,0,⟨0,0⟩,bk0⟩:jK)).get 0=some (.cells (fM m) (.own []) 0):=(jO (by decide)).trans b0
 have c1_1:(yS B0 2 (⟨m.kind,m.frm,0,m.view,0,0,⟨0,0⟩,bk0⟩:jK)).get 1=some (.cells (fM m0) (.own []) 0):=(jO (by decide)).trans b1
 have c1_2:=jX B0 2 (⟨m.kind,m.frm,0,m.view,0,0,⟨0,0⟩,bk0⟩:jK)
 dsimp only at s1
 generalize hB1:yS B0 2 (⟨m.kind,m.frm,0,m.view,0,0,⟨0,0⟩,bk0⟩:jK)=B1 at s1  c1_0 c1_1 c1_2
 have s2:=aeT c1_2 m.index
 have sq:=Zx (o:=0+4) (x:=(⟨m.kind,m.frm,m.index,m.view,0,0,⟨0,0⟩,bk0⟩:jK)) c1_0 (show (0:Nat)≠2 by decide)
 have c2_0:(yS B1 2 (⟨m.kind,m.frm,m.index,m.view,0,0,⟨0,0⟩,bk0⟩:jK)).get 0=some (.cells (fM m) (.own []) 0):=(jO (by decide)).trans c1_0
 have c2_1:(yS B1 2 (⟨m.kind,m.frm,m.index,m.view,0,0,⟨0,0⟩,bk0⟩:jK)).get 1=some (.cells (fM m0) (.own []) 0):=(jO (by decide)).trans c1_1
 have c2_2:=jX B1 2 (⟨m.kind,m.frm,m.index,m.view,0,0,⟨0,0⟩,bk0⟩:jK)
 dsimp only at s2
 generalize hB2:yS B1 2 (⟨m.kind,m.frm,m.index,m.view,0,0,⟨0,0⟩,bk0⟩:jK)=B2 at s2 sq c2_0 c2_1 c2_2
 have s3:=adg c2_2 m.value
 have c3_0:(yS B2 2 (⟨m.kind,m.frm,m.index,m.view,m.value,0,⟨0,0⟩,bk0⟩:jK)).get 0=some (.cells (fM m) (.own []) 0):=(jO (by decide)).trans c2_0
 have c3_1:(yS B2 2 (⟨m.kind,m.frm,m.index,m.view,m.value,0,⟨0,0⟩,bk0⟩:jK)).get 1=some (.cells (fM m0) (.own []) 0):=(jO (by decide)).trans c2_1
 have c3_2:=jX B2 2 (⟨m.kind,m.frm,m.index,m.view,m.value,0,⟨0,0⟩,bk0⟩:jK)
 dsimp only at s3
 generalize hB3:yS B2 2 (⟨m.kind,m.frm,m.index,m.view,m.value,0,⟨0,0⟩,bk0⟩:jK)=B3 at s3  c3_0 c3_1 c3_2
 have eb:(⟨m.kind,m.frm,m.index,m.view,m.value,0,⟨0,0⟩,bk0⟩:jK)=jW m:=by simp [jW,hk]
 rw [eb] at c3_2
 have hbk:(jW m).b.k≠2:=by simp [jW,hk]
 have ld:=kQ c3_2 hbk
 have sl:=V9 c3_1 (jW m)
 have fin:=kQ (jX B3 1 (jW m)) hbk
 have hcb:(jW m).b.k≤2:=by simp [jW,hk]
 conv at hr =>
  rhs
  rw [hTe]
  simp only [zC.code,zC.rs,zSs,reduceIte,zk,zn,zo,zq,xq,a1,a2,zI,zT,jV p0,wM p0,yO (y0:=.int .i64 m.kind) (y1:=.int .i64 m.frm) rfl rfl,s0,jV b0,jf,s1,yJ b0,zY,s2,sq,yh b0,yh c1_0,wE c1_0,zM,zM,s3,wE c1_0,wE c2_0,decide_eq_false (show ¬ m.kind=0 by omega),decide_eq_false (show ¬ m.kind=1 by omega),decide_eq_false (show ¬ m.kind=2 by omega),decide_eq_false (show ¬ m.kind=3 by omega),decide_eq_true hk,decide_eq_false (show ¬ m.kind=5 by omega),decide_eq_false (show ¬ m.kind=6 by omega),vM,ld,sl]
 rw [hTe] at hr
 exact zC.runs hr (.inr rfl) fin (all1 (wI hm.b.okl.le)) (wI hcb)
theorem zC.v5 {m:jK} (hm:m.Ok) (hk:m.kind=5) (S:zu):jc zi O zC.id [mv m] S=some (mv (jW m),S):=by
 obtain ⟨T,hTe⟩:∃ T,T=(mv m::zh::zh::zh::zh::zh::zh::zh::zh::zh::zh::zh::zh::zh::zh::zh::zh::zh::zh::zh::zh::zh::zh::zh::zh::zh::zh::zh::zh::zh::zh::zh::zh::zh::zh::zh::zh::zh::zh::zh::zh::zh::zh::zh::zh::zh::[]):=⟨_,rfl⟩
 have hr:zD zi O false zC.code T zu.empty=zD zi O false zC.code T zu.empty:=rfl
 obtain ⟨A1,hA1⟩:∃ A,A=(Y5 m).push (.cells (fM m0) (.own []) 0):=⟨_,rfl⟩
 have a1:yc zi 30 (Y5 m)=some (.pointer (some ⟨1,0,none⟩),A1):=by rw [hA1];exact Qq _
 have p0:A1.get 0=some (.cells (fM m) (.own []) 0):=by rw [hA1];kernel_rfl
 obtain ⟨A2,hA2⟩:∃ A,A=A1.push (.cells (fM m0) (.own []) 0):=⟨_,rfl⟩
 have a2:yc zi 30 A1=some (.pointer (some ⟨2,0,none⟩),A2):=by rw [hA2,hA1];exact Qq _
 have q0:A2.get 0=some (.cells (fM m) (.own []) 0):=by rw [hA2,hA1];kernel_rfl
 have q1:A2.get 1=some (.cells (fM m0) (.own []) 0):=by rw [hA2,hA1];kernel_rfl
 have q2:A2.get 2=some (.cells (fM m0) (.own []) 0):=by rw [hA2,hA1];kernel_rfl
 have s0:wo zi 30 (.pointer (some ⟨2,0,none⟩)) (.agg [Value.int .i64 m.kind,.int .i64 m.frm,.int .i64 0,.int .i64 0,.int .i64 0,.int .i64 0,.int .i64 0,.int .i64 0,.int .i64 0,.int .i64 0,.int .i64 0,.int .i64 0,.slice none 0 0].toArray) A2=some (zh,yS A2 2 (⟨m.kind,m.frm,0,0,0,0,⟨0,0⟩,bk0⟩:jK)):=V9 q2 (⟨m.kind,m.frm,0,0,0,0,⟨0,0⟩,bk0⟩:jK)
 have b0:(yS A2 2 (⟨m.kind,m.frm,0,0,0,0,⟨0,0⟩,bk0⟩:jK)).get 0=some (.cells (fM m) (.own []) 0):=(jO (by decide)).trans q0
 have b1:(yS A2 2 (⟨m.kind,m.frm,0,0,0,0,⟨0,0⟩,bk0⟩:jK)).get 1=some (.cells (fM m0) (.own []) 0):=(jO (by decide)).trans q1
 have b2:=jX A2 2 (⟨m.kind,m.frm,0,0,0,0,⟨0,0⟩,bk0⟩:jK)
 generalize hB0:yS A2 2 (⟨m.kind,m.frm,0,0,0,0,⟨0,0⟩,bk0⟩:jK)=B0 at s0 b0 b1 b2
 have s1:=agP b2 m.view
 have c1_0:(yS B0 2 (⟨m.kind,m.frm,0,m.view,0,0,⟨0,0⟩,bk0⟩:jK)).get 0=some (.cells (fM m) (.own []) 0):=(jO (by decide)).trans b0
 have c1_1:(yS B0 2 (⟨m.kind,m.frm,0,m.view,0,0,⟨0,0⟩,bk0⟩:jK)).get 1=some (.cells (fM m0) (.own []) 0):=(jO (by decide)).trans b1
 have c1_2:=jX B0 2 (⟨m.kind,m.frm,0,m.view,0,0,⟨0,0⟩,bk0⟩:jK)
 dsimp only at s1
 generalize hB1:yS B0 2 (⟨m.kind,m.frm,0,m.view,0,0,⟨0,0⟩,bk0⟩:jK)=B1 at s1  c1_0 c1_1 c1_2
 have s2:=aeT c1_2 m.index
 have sq:=Zx (o:=0+4) (x:=(⟨m.kind,m.frm,m.index,m.view,0,0,⟨0,0⟩,bk0⟩:jK)) c1_0 (show (0:Nat)≠2 by decide)
 have c2_0:(yS B1 2 (⟨m.kind,m.frm,m.index,m.view,0,0,⟨0,0⟩,bk0⟩:jK)).get 0=some (.cells (fM m) (.own []) 0):=(jO (by decide)).trans c1_0
 have c2_1:(yS B1 2 (⟨m.kind,m.frm,m.index,m.view,0,0,⟨0,0⟩,bk0⟩:jK)).get 1=some (.cells (fM m0) (.own []) 0):=(jO (by decide)).trans c1_1
 have c2_2:=jX B1 2 (⟨m.kind,m.frm,m.index,m.view,0,0,⟨0,0⟩,bk0⟩:jK)
 dsimp only at s2
 generalize hB2:yS B1 2 (⟨m.kind,m.frm,m.index,m.view,0,0,⟨0,0⟩,bk0⟩:jK)=B2 at s2 sq c2_0 c2_1 c2_2
 have s3:=adg c2_2 m.value
 have c3_0:(yS B2 2 (⟨m.kind,m.frm,m.index,m.view,m.value,0,⟨0,0⟩,bk0⟩:jK)).get 0=some (.cells (fM m) (.own []) 0):=(jO (by decide)).trans c2_0
 have c3_1:(yS B2 2 (⟨m.kind,m.frm,m.index,m.view,m.value,0,⟨0,0⟩,bk0⟩:jK)).get 1=some (.cells (fM m0) (.own []) 0):=(jO (by decide)).trans c2_1
 have c3_2:=jX B2 2 (⟨m.kind,m.frm,m.index,m.view,m.value,0,⟨0,0⟩,bk0⟩:jK)
 dsimp only at s3
 generalize hB3:yS B2 2 (⟨m.kind,m.frm,m.index,m.view,m.value,0,⟨0,0⟩,bk0⟩:jK)=B3 at s3  c3_0 c3_1 c3_2
 have eb:(⟨m.kind,m.frm,m.index,m.view,m.value,0,⟨0,0⟩,bk0⟩:jK)=jW m:=by simp [jW,hk]
 rw [eb] at c3_2
 have hbk:(jW m).b.k≠2:=by simp [jW,hk]
 have ld:=kQ c3_2 hbk
 have sl:=V9 c3_1 (jW m)
 have fin:=kQ (jX B3 1 (jW m)) hbk
 have hcb:(jW m).b.k≤2:=by simp [jW,hk]
 conv at hr =>
  rhs
  rw [hTe]
  simp only [zC.code,zC.rs,zSs,reduceIte,zk,zn,zo,zq,xq,a1,a2,zI,zT,jV p0,wM p0,yO (y0:=.int .i64 m.kind) (y1:=.int .i64 m.frm) rfl rfl,s0,jV b0,jf,s1,yJ b0,zY,s2,sq,yh b0,yh c1_0,wE c1_0,zM,zM,s3,wE c1_0,wE c2_0,decide_eq_false (show ¬ m.kind=0 by omega),decide_eq_false (show ¬ m.kind=1 by omega),decide_eq_false (show ¬ m.kind=2 by omega),decide_eq_false (show ¬ m.kind=3 by omega),decide_eq_false (show ¬ m.kind=4 by omega),decide_eq_true hk,vM,ld,sl]
 rw [hTe] at hr
 exact zC.runs hr (.inr rfl) fin (all1 (wI hm.b.okl.le)) (wI hcb)
theorem zC.v6 {m:jK} (hm:m.Ok) (hk:m.kind=6) (S:zu):jc zi O zC.id [mv m] S=some (mv (jW m),S):=by
 obtain ⟨T,hTe⟩:∃ T,T=(mv m::zh::zh::zh::zh::zh::zh::zh::zh::zh::zh::zh::zh::zh::zh::zh::zh::zh::zh::zh::zh::zh::zh::zh::zh::zh::zh::zh::zh::zh::zh::zh::zh::zh::zh::zh::zh::zh::zh::zh::zh::zh::zh::zh::zh::zh::[]):=⟨_,rfl⟩
 have hr:zD zi O false zC.code T zu.empty=zD zi O false zC.code T zu.empty:=rfl
 obtain ⟨A1,hA1⟩:∃ A,A=(Y5 m).push (.cells (fM m0) (.own []) 0):=⟨_,rfl⟩
 have a1:yc zi 30 (Y5 m)=some (.pointer (some ⟨1,0,none⟩),A1):=by rw [hA1];exact Qq _
 have p0:A1.get 0=some (.cells (fM m) (.own []) 0):=by rw [hA1];kernel_rfl
 obtain ⟨A2,hA2⟩:∃ A,A=A1.push (.cells (fM m0) (.own []) 0):=⟨_,rfl⟩
 have a2:yc zi 30 A1=some (.pointer (some ⟨2,0,none⟩),A2):=by rw [hA2,hA1];exact Qq _
 have q0:A2.get 0=some (.cells (fM m) (.own []) 0):=by rw [hA2,hA1];kernel_rfl
 have q1:A2.get 1=some (.cells (fM m0) (.own []) 0):=by rw [hA2,hA1];kernel_rfl
 have q2:A2.get 2=some (.cells (fM m0) (.own []) 0):=by rw [hA2,hA1];kernel_rfl
 have s0:wo zi 30 (.pointer (some ⟨2,0,none⟩)) (.agg [Value.int .i64 m.kind,.int .i64 m.frm,.int .i64 0,.int .i64 0,.int .i64 0,.int .i64 0,.int .i64 0,.int .i64 0,.int .i64 0,.int .i64 0,.int .i64 0,.int .i64 0,.slice none 0 0].toArray) A2=some (zh,yS A2 2 (⟨m.kind,m.frm,0,0,0,0,⟨0,0⟩,bk0⟩:jK)):=V9 q2 (⟨m.kind,m.frm,0,0,0,0,⟨0,0⟩,bk0⟩:jK)
 have b0:(yS A2 2 (⟨m.kind,m.frm,0,0,0,0,⟨0,0⟩,bk0⟩:jK)).get 0=some (.cells (fM m) (.own []) 0):=(jO (by decide)).trans q0
 have b1:(yS A2 2 (⟨m.kind,m.frm,0,0,0,0,⟨0,0⟩,bk0⟩:jK)).get 1=some (.cells (fM m0) (.own []) 0):=(jO (by decide)).trans q1
 have b2:=jX A2 2 (⟨m.kind,m.frm,0,0,0,0,⟨0,0⟩,bk0⟩:jK)
 generalize hB0:yS A2 2 (⟨m.kind,m.frm,0,0,0,0,⟨0,0⟩,bk0⟩:jK)=B0 at s0 b0 b1 b2
 have s1:=aeT b2 m.index
 have sq:=Zx (o:=0+4) (x:=(⟨m.kind,m.frm,m.index,0,0,0,⟨0,0⟩,bk0⟩:jK)) b0 (show (0:Nat)≠2 by decide)
 have c1_0:(yS B0 2 (⟨m.kind,m.frm,m.index,0,0,0,⟨0,0⟩,bk0⟩:jK)).get 0=some (.cells (fM m) (.own []) 0):=(jO (by decide)).trans b0
 have c1_1:(yS B0 2 (⟨m.kind,m.frm,m.index,0,0,0,⟨0,0⟩,bk0⟩:jK)).get 1=some (.cells (fM m0) (.own []) 0):=(jO (by decide)).trans b1
 have c1_2:=jX B0 2 (⟨m.kind,m.frm,m.index,0,0,0,⟨0,0⟩,bk0⟩:jK)
 dsimp only at s1
 generalize hB1:yS B0 2 (⟨m.kind,m.frm,m.index,0,0,0,⟨0,0⟩,bk0⟩:jK)=B1 at s1 sq c1_0 c1_1 c1_2
 have s2:=adg c1_2 m.value
 have c2_0:(yS B1 2 (⟨m.kind,m.frm,m.index,0,m.value,0,⟨0,0⟩,bk0⟩:jK)).get 0=some (.cells (fM m) (.own []) 0):=(jO (by decide)).trans c1_0
 have c2_1:(yS B1 2 (⟨m.kind,m.frm,m.index,0,m.value,0,⟨0,0⟩,bk0⟩:jK)).get 1=some (.cells (fM m0) (.own []) 0):=(jO (by decide)).trans c1_1
 have c2_2:=jX B1 2 (⟨m.kind,m.frm,m.index,0,m.value,0,⟨0,0⟩,bk0⟩:jK)
 dsimp only at s2
 generalize hB2:yS B1 2 (⟨m.kind,m.frm,m.index,0,m.value,0,⟨0,0⟩,bk0⟩:jK)=B2 at s2  c2_0 c2_1 c2_2
 have eb:(⟨m.kind,m.frm,m.index,0,m.value,0,⟨0,0⟩,bk0⟩:jK)=jW m:=by simp [jW,hk]
 rw [eb] at c2_2
 have hbk:(jW m).b.k≠2:=by simp [jW,hk]
 have ld:=kQ c2_2 hbk
 have sl:=V9 c2_1 (jW m)
 have fin:=kQ (jX B2 1 (jW m)) hbk
 have hcb:(jW m).b.k≤2:=by simp [jW,hk]
 conv at hr =>
  rhs
  rw [hTe]
  simp only [zC.code,zC.rs,zSs,reduceIte,zk,zn,zo,zq,xq,a1,a2,zI,zT,jV p0,wM p0,yO (y0:=.int .i64 m.kind) (y1:=.int .i64 m.frm) rfl rfl,s0,jV b0,zY,s1,sq,yh b0,wE b0,zM,zM,s2,wE b0,wE c1_0,decide_eq_false (show ¬ m.kind=0 by omega),decide_eq_false (show ¬ m.kind=1 by omega),decide_eq_false (show ¬ m.kind=2 by omega),decide_eq_false (show ¬ m.kind=3 by omega),decide_eq_false (show ¬ m.kind=4 by omega),decide_eq_false (show ¬ m.kind=5 by omega),decide_eq_true hk,vM,ld,sl]
 rw [hTe] at hr
 exact zC.runs hr (.inr rfl) fin (all1 (wI hm.b.okl.le)) (wI hcb)
theorem zC.v {m:jK} (hm:m.Ok) (h0:0≤m.kind) (h6:m.kind≤6) (S:zu):jc zi O zC.id [mv m] S=some (mv (jW m),S):=by
 have:m.kind=0∨m.kind=1∨m.kind=2∨m.kind=3∨m.kind=4∨m.kind=5∨m.kind=6:=by omega
 rcases this with h | h | h | h | h | h | h
 ·
  exact zC.v0 hm h S
 ·
  exact zC.v1 hm h S
 ·
  exact zC.v2 hm h S
 ·
  exact zC.v3 hm h S
 ·
  exact zC.v4 hm h S
 ·
  exact zC.v5 hm h S
 ·
  exact zC.v6 hm h S
end Go.Proofs.Ytbgcphbbchndkaa
namespace Go.Abs
open Go.RowKit
def gv (x b:Bool) (v:Value):Value:=if x=b then v else zh
theorem afr (x b:Bool) (v:Value):dem (gv x b v)=gv x b (dem v):=by
 unfold gv;split
 ·
  rfl
 ·
  exact Yu
theorem YG {R:Type} {K:Value→zu→Option R} {p:Jd K} {m:M Value} {S:zu} (x b:Bool):gdK (.bool x) b m S K p=if x=b then zN (m S) K p else K zh S:=by
 cases x <;> cases b <;> rfl
section
variable {R:Type} {K:Value→zu→Option R} {p:Jd K} {S:zu} {x b c y z:Bool} {m m':M Value} {P:Program} {O:Ora} {t:TypeId} {v w u:Value}
theorem wX (h:x=b→m S=m' S):gdK (.bool x) b m S K p=gdK (.bool x) b m' S K p:=by
 rw [YG,YG]
 split
 ·
  rename_i hx;rw [h hx]
 ·
  rfl
theorem zK (h:m S=some (v,S)):gdK (.bool x) b m S K p=K (gv x b v) S:=by
 rw [YG]
 unfold gv
 split
 ·
  rw [h];rfl
 ·
  rfl
theorem Zq (h:m S=some (v,S)) (hq:okq 3 v=true):XY (.bool x) b m S K p=K (gv x b v) S:=by
 unfold gv
 cases x <;> cases b <;> first | rfl | (simp only [VD,X8,h,Yp,ahA hq,if_true])
theorem Zg (h:x=b):gv x b v=v:=if_pos h
theorem acs {fx:Bool}:gdK (.bool x) b (zQ P fx t (gv x b v)) S K p=gdK (.bool x) b (zQ P fx t v) S K p:=wX fun h=>by rw [Zg h]
theorem Wl {f:Nat}:gdK (.bool x) b (zA P t (gv x b v) f) S K p=gdK (.bool x) b (zA P t v f) S K p:=wX fun h=>by rw [Zg h]
theorem YC:gdK (.bool x) b (Zj (gv x b v)) S K p=gdK (.bool x) b (Zj v) S K p:=wX fun h=>by rw [Zg h]
theorem afx:gdK (.bool x) b (ZO P t (gv x b v)) S K p=gdK (.bool x) b (ZO P t v) S K p:=wX fun h=>by rw [Zg h]
theorem Jc:gdK (.bool x) b (jw P t (gv x b v) w) S K p=gdK (.bool x) b (jw P t v w) S K p:=wX fun h=>by rw [Zg h]
theorem JD:gdK (.bool x) b (jw P t v (gv x b w)) S K p=gdK (.bool x) b (jw P t v w) S K p:=wX fun h=>by rw [Zg h]
theorem ahN {op:UnOp}:gdK (.bool x) b (aUn P op (gv x b v)) S K p=gdK (.bool x) b (aUn P op v) S K p:=wX fun h=>by rw [Zg h]
theorem acK {hp dr:Bool} {t2:TypeId}:gdK (.bool x) b (qG P hp dr t t2 (gv x b v)) S K p=gdK (.bool x) b (qG P hp dr t t2 v) S K p:=wX fun h=>by rw [Zg h]
theorem adz {op:BinOp}:gdK (.bool x) b (jY P op t (gv x b v) w) S K p=gdK (.bool x) b (jY P op t v w) S K p:=wX fun h=>by rw [Zg h]
theorem ac6 {op:BinOp}:gdK (.bool x) b (jY P op t v (gv x b w)) S K p=gdK (.bool x) b (jY P op t v w) S K p:=wX fun h=>by rw [Zg h]
theorem V4 {g:FuncId} {l:List Value}:gdK (.bool x) b (jc P O g (gv x b v::l)) S K p=gdK (.bool x) b (jc P O g (v::l)) S K p:=wX fun h=>by rw [Zg h]
theorem aat {g:FuncId} {l:List Value}:gdK (.bool x) b (jc P O g (u::gv x b v::l)) S K p=gdK (.bool x) b (jc P O g (u::v::l)) S K p:=wX fun h=>by rw [Zg h]
theorem XO {g:FuncId} {l:List Value}:gdK (.bool x) b (vT (jc P O) g (gv x b v::l)) S K p=gdK (.bool x) b (vT (jc P O) g (v::l)) S K p:=wX fun h=>by rw [Zg h]
theorem XV {g:FuncId} {l:List Value}:gdK (.bool x) b (vT (jc P O) g (u::gv x b v::l)) S K p=gdK (.bool x) b (vT (jc P O) g (u::v::l)) S K p:=wX fun h=>by rw [Zg h]
theorem afu:gdK (.bool x) b (ret v) S K p=K (gv x b v) S:=zK rfl
theorem ahI:gv x b (gv x b v)=gv x b v:=by unfold gv;split <;> rfl
theorem aap:gdK (gv x c (.bool y)) b m S K p=gdK (.bool ((x == c) && (y == b))) true m S K p:=by
 unfold gv
 cases x <;> cases c <;> cases y <;> cases b <;> rfl
theorem abK {fx:Bool}:gdK (.bool ((x == c) && (y == b))) true (zQ P fx t (gv x c v)) S K p=gdK (.bool ((x == c) && (y == b))) true (zQ P fx t v) S K p:=wX fun h=>by rw [Zg (by simp at h;exact h.1)]
theorem abE {op:BinOp}:gdK (.bool ((x == c) && (y == b))) true (jY P op t (gv x c v) w) S K p=gdK (.bool ((x == c) && (y == b))) true (jY P op t v w) S K p:=wX fun h=>by rw [Zg (by simp at h;exact h.1)]
theorem ab4 {op:BinOp}:gdK (.bool ((x == c) && (y == b))) true (jY P op t v (gv x c w)) S K p=gdK (.bool ((x == c) && (y == b))) true (jY P op t v w) S K p:=wX fun h=>by rw [Zg (by simp at h;exact h.1)]
theorem afm:gdK (.bool x) c (yj (gv x c (.bool y)) (.bool true) (gv ((x == c) && (y == false)) true (.bool z))) S K p=K (gv x c (.bool (y || z))) S:=by
 unfold gv
 cases x <;> cases c <;> cases y <;> cases z <;> rfl
theorem adf:gdK (.bool x) c (yj (gv x c (.bool y)) (gv ((x == c) && (y == true)) true (.bool z)) (.bool false)) S K p=K (gv x c (.bool (y && z))) S:=by
 unfold gv
 cases x <;> cases c <;> cases y <;> cases z <;> rfl
theorem ahQ:(if x=true then Value.bool true else gv x false (.bool y))=.bool (x || y):=by cases x <;> rfl
theorem afo:(if x=true then gv x true (.bool y) else Value.bool false)=.bool (x && y):=by cases x <;> rfl
theorem ahW:gv true true v=v:=rfl
theorem ahX:gv false false v=v:=rfl
theorem ahi:gv true false v=zh:=rfl
theorem ahs:gv false true v=zh:=rfl
theorem afQ {k:IntKind} {a d:Int}:gdK (.bool x) b (jY P .lss t (.int k a) (.int k d)) S K p=K (gv x b (.bool (decide (a < d)))) S:=zK (QB k a d)
theorem afA {k:IntKind} {a d:Int}:gdK (.bool x) b (jY P .leq t (.int k a) (.int k d)) S K p=K (gv x b (.bool (decide (a≤d)))) S:=zK (Kv k a d)
theorem afa {k:IntKind} {a d:Int}:gdK (.bool x) b (jY P .gtr t (.int k a) (.int k d)) S K p=K (gv x b (.bool (decide (d < a)))) S:=zK (Qy k a d)
theorem afd {k:IntKind} {a d:Int}:gdK (.bool x) b (jY P .geq t (.int k a) (.int k d)) S K p=K (gv x b (.bool (decide (d≤a)))) S:=zK (Kz k a d)
theorem afz {k:IntKind} {a d:Int}:gdK (.bool x) b (jY P .eql t (.int k a) (.int k d)) S K p=K (gv x b (.bool (decide (a=d)))) S:=zK (QX k a d)
theorem afB {k:IntKind} {a d:Int}:gdK (.bool x) b (jY P .neq t (.int k a) (.int k d)) S K p=K (gv x b (.bool (!decide (a=d)))) S:=zK (QD k a d)
theorem afy {k:IntKind} {a d:Int}:gdK (.bool x) b (jY P .add t (.int k a) (.int k d)) S K p=K (gv x b (.int k (k.wrap (a+d)))) S:=zK (Ko k a d)
theorem aft {k:IntKind} {a d:Int}:gdK (.bool x) b (jY P .sub t (.int k a) (.int k d)) S K p=K (gv x b (.int k (k.wrap (a - d)))) S:=zK (QV k a d)
theorem afM:gdK (.bool x) b (aUn P .not (.bool y)) S K p=K (gv x b (.bool (!y))) S:=zK (by cases y <;> rfl)
end
theorem gvw:type_of% (aiJ @afr (aiJ @acs (aiJ @Wl (aiJ @YC (aiJ @afx (aiJ @Jc (aiJ @JD (aiJ @ahN (aiJ @acK (aiJ @adz (aiJ @ac6 (aiJ @V4 (aiJ @aat (aiJ @XO (aiJ @XV (aiJ @afu (aiJ @ahI (aiJ @aap (aiJ @abK (aiJ @abE (aiJ @ab4 (aiJ @afm (aiJ @adf (aiJ @ahQ (aiJ @afo (aiJ @ahW (aiJ @ahX (aiJ @ahi (aiJ @ahs (aiJ @afQ (aiJ @afA (aiJ @afa (aiJ @afd (aiJ @afz (aiJ @afB (aiJ @afy (aiJ @aft @afM))))))))))))))))))))))))))))))))))))) :=
 aiJ @afr (aiJ @acs (aiJ @Wl (aiJ @YC (aiJ @afx (aiJ @Jc (aiJ @JD (aiJ @ahN (aiJ @acK (aiJ @adz (aiJ @ac6 (aiJ @V4 (aiJ @aat (aiJ @XO (aiJ @XV (aiJ @afu (aiJ @ahI (aiJ @aap (aiJ @abK (aiJ @abE (aiJ @ab4 (aiJ @afm (aiJ @adf (aiJ @ahQ (aiJ @afo (aiJ @ahW (aiJ @ahX (aiJ @ahi (aiJ @ahs (aiJ @afQ (aiJ @afA (aiJ @afa (aiJ @afd (aiJ @afz (aiJ @afB (aiJ @afy (aiJ @aft @afM))))))))))))))))))))))))))))))))))))
end Go.Abs
namespace Go.Proofs.Ytbgcphbbchndkaa
open Go.Abs
def nameB (n:Int):Bool:=decide (n=0) || vY n
theorem aem (n:Int):decide (0 < Js n)=vY n:=by
 rw [Bool.eq_iff_iff,decide_eq_true_eq]
 unfold Js
 constructor
 ·
  intro h;split at h
  ·
   assumption
  ·
   omega
 ·
  intro h
  have:=Zr.1 h
  rw [if_pos h];omega
def abM (m:jK):Bool:=((!decide (m.kind=0) && !decide (m.tx=⟨0,0⟩)) || (!decide (m.kind=1) && !vC m.b bk0)) || (!decide (m.kind=3) && !decide (m.prep=0))
def ac0 (m:jK):Bool:=decide (0≤m.index) && decide (m.index≤1000)
def vwB (m:jK):Bool:=decide (0≤m.view) && decide (m.view≤1000)
def WQ (m:jK):Bool :=
 if m.kind=0 then ((decide (m.index=0) && decide (m.view=0)) && decide (m.value=0)) && qp m.tx
 else if m.kind=1 then ((decide (m.index=0) && decide (m.view=0)) && decide (m.value=0)) && wz m.b
 else if m.kind=2 then (decide (m.index=0) && decide (m.view=0)) && nameB m.value
 else if m.kind=3 then ((((ac0 m) && (vwB m)) && nameB m.value) && decide (-1≤m.prep)) && decide (m.prep < m.view)
 else if m.kind=4∨m.kind=5 then ((ac0 m) && (vwB m)) && (decide (m.value=-1) || nameB m.value)
 else if m.kind=6 then ((ac0 m) && decide (m.view=0)) && nameB m.value
 else false
def adu (m:jK):Bool:=if decide (m.frm < 0) || decide (6 < m.frm) then false else if abM m then false else WQ m
theorem J6 (m:jK):okq 3 (mv m)=true:=by
 have h:=ahy (f:=fT) (e:=2) (k:=m.b.k) (l:=m.b.txs) (d:=2)
 simp only [okq,List.toList_toArray,List.all_cons,List.all_nil,h,Bool.and_true]
def y7 (m:jK):Bool :=
 if m.kind < 0∨6 < m.kind then false
 else if (decide (m.frm < 0) || decide (7≤m.frm)) || !yX m (jW m) then false
 else if m.kind=0 then qp m.tx
 else if m.kind=1 then wz m.b
 else if m.kind=3∧(decide (m.prep < -1) || decide (m.view≤m.prep))=true then false
 else (((decide (0≤m.index) && decide (m.index≤1000)) && decide (0≤m.view)) && decide (m.view≤1000)) && yD m
theorem agk {m:jK} (hm:m.Ok):(jW m).Ok:=by
 have z:Big 0:=⟨by omega,by omega⟩
 have zt:TxV.Ok ⟨0,0⟩:=⟨z,z⟩
 unfold jW
 split
 ·
  exact ⟨ok0,hm.tx,hm.kind,hm.frm,z,z,z,z⟩
 split
 ·
  exact ⟨hm.b,zt,hm.kind,hm.frm,z,z,z,z⟩
 split
 ·
  exact ⟨ok0,zt,hm.kind,hm.frm,z,z,hm.value,z⟩
 split
 ·
  exact ⟨ok0,zt,hm.kind,hm.frm,hm.index,hm.view,hm.value,hm.prep⟩
 split
 ·
  exact ⟨ok0,zt,hm.kind,hm.frm,hm.index,hm.view,hm.value,z⟩
 split
 ·
  exact ⟨ok0,zt,hm.kind,hm.frm,hm.index,hm.view,hm.value,z⟩
 ·
  exact ⟨ok0,zt,hm.kind,hm.frm,hm.index,z,hm.value,z⟩
theorem zJ.v {m:jK} (hm:m.Ok) (S:zu):jc zi O zJ.id [mv m] S=some (.bool (y7 m),S):=by
 obtain ⟨T,hTe⟩:∃ T,T=(mv m::zh::zh::zh::zh::zh::zh::zh::zh::zh::zh::zh::zh::zh::zh::zh::zh::zh::zh::zh::zh::zh::zh::zh::zh::zh::zh::zh::zh::zh::zh::zh::zh::zh::zh::zh::zh::zh::zh::zh::zh::zh::zh::zh::zh::zh::zh::zh::zh::zh::zh::zh::zh::zh::zh::zh::zh::zh::zh::zh::zh::zh::zh::zh::zh::zh::zh::zh::zh::zh::zh::zh::zh::zh::[]):=⟨_,rfl⟩
 have hr:zD zi O false zJ.code T zu.empty=zD zi O false zJ.code T zu.empty:=rfl
 have g0:=Q5 m
 have c3:=fun S=>wH.v m.tx S
 have c4:=fun S=>zH.v hm.b S
 have c5:=fun S=>zZ.v hm S
 have hc:[mv m].all (jg 16)=true:=all1 (wI hm.b.okl.le)
 unfold y7
 by_cases k0:m.kind < 0
 ·
  rw [if_pos (.inl k0)]
  have e0:=decide_eq_true k0
  conv at hr =>
   rhs
   rw [hTe]
   simp only [zJ.code,zJ.rs,zSs,reduceIte,zk,zn,zo,zq,xq,zI,zT,zY,jf,zM,jm,jv,jk,jV g0,wM g0,yh g0,yJ g0,wE g0,qK g0,qU g0,kG g0 hm.b.ne,kQ g0 hm.b.ne,zK (zI _ _ _),zK (zT _ _ _),zK (zY _ _ _),zK (jf _ _ _),zK (zM _ _ _),zK (jm _ _ _),zK (jv _ _ _),zK (jk _ _ _),zK (jV g0),zK (wM g0),zK (yh g0),zK (yJ g0),zK (wE g0),zK (qK g0),zK (qU g0),zK (kG g0 hm.b.ne),zK (kQ g0 hm.b.ne),Zq (kQ g0 hm.b.ne) (J6 m),qy g0,gvw,e0]
  rw [hTe] at hr
  exact zJ.runs hr (.inr rfl) hc rfl
 by_cases k6:6 < m.kind
 ·
  rw [if_pos (.inr k6)]
  have e0:=decide_eq_false k0
  have e6:=decide_eq_true k6
  conv at hr =>
   rhs
   rw [hTe]
   simp only [zJ.code,zJ.rs,zSs,reduceIte,zk,zn,zo,zq,xq,zI,zT,zY,jf,zM,jm,jv,jk,jV g0,wM g0,yh g0,yJ g0,wE g0,qK g0,qU g0,kG g0 hm.b.ne,kQ g0 hm.b.ne,zK (zI _ _ _),zK (zT _ _ _),zK (zY _ _ _),zK (jf _ _ _),zK (zM _ _ _),zK (jm _ _ _),zK (jv _ _ _),zK (jk _ _ _),zK (jV g0),zK (wM g0),zK (yh g0),zK (yJ g0),zK (wE g0),zK (qK g0),zK (qU g0),zK (kG g0 hm.b.ne),zK (kQ g0 hm.b.ne),Zq (kQ g0 hm.b.ne) (J6 m),qy g0,gvw,e0,e6]
  rw [hTe] at hr
  exact zJ.runs hr (.inr rfl) hc rfl
 rw [if_neg (by omega)]
 have e0:=decide_eq_false k0
 have e6:=decide_eq_false k6
 have c1:=fun S=>zC.v hm (by omega) (by omega) S
 have c2:=fun S=>jr.v hm (agk hm) S
 obtain ⟨c,hc0⟩:∃ b,((decide (m.frm < 0) || decide (7≤m.frm)) || !yX m (jW m))=b:=⟨_,rfl⟩
 rw [hc0]
 cases c
 ·
  rw [if_neg (by decide)]
  by_cases z0:m.kind=0
  ·
   rw [if_pos z0]
   conv at hr =>
    rhs
    rw [hTe]
    simp only [zJ.code,zJ.rs,zSs,reduceIte,zk,zn,zo,zq,xq,zI,zT,zY,jf,zM,jm,jv,jk,jV g0,wM g0,yh g0,yJ g0,wE g0,qK g0,qU g0,kG g0 hm.b.ne,kQ g0 hm.b.ne,zK (zI _ _ _),zK (zT _ _ _),zK (zY _ _ _),zK (jf _ _ _),zK (zM _ _ _),zK (jm _ _ _),zK (jv _ _ _),zK (jk _ _ _),zK (jV g0),zK (wM g0),zK (yh g0),zK (yJ g0),zK (wE g0),zK (qK g0),zK (qU g0),zK (kG g0 hm.b.ne),zK (kQ g0 hm.b.ne),Zq (kQ g0 hm.b.ne) (J6 m),qy g0,gvw,e0,e6,c1,c2,zK (c1 _),zK (c2 _),hc0,decide_eq_true z0,c3]
   rw [hTe] at hr
   exact zJ.runs hr (.inr rfl) hc rfl
  rw [if_neg z0]
  by_cases z1:m.kind=1
  ·
   rw [if_pos z1]
   conv at hr =>
    rhs
    rw [hTe]
    simp only [zJ.code,zJ.rs,zSs,reduceIte,zk,zn,zo,zq,xq,zI,zT,zY,jf,zM,jm,jv,jk,jV g0,wM g0,yh g0,yJ g0,wE g0,qK g0,qU g0,kG g0 hm.b.ne,kQ g0 hm.b.ne,zK (zI _ _ _),zK (zT _ _ _),zK (zY _ _ _),zK (jf _ _ _),zK (zM _ _ _),zK (jm _ _ _),zK (jv _ _ _),zK (jk _ _ _),zK (jV g0),zK (wM g0),zK (yh g0),zK (yJ g0),zK (wE g0),zK (qK g0),zK (qU g0),zK (kG g0 hm.b.ne),zK (kQ g0 hm.b.ne),Zq (kQ g0 hm.b.ne) (J6 m),qy g0,gvw,e0,e6,c1,c2,zK (c1 _),zK (c2 _),hc0,decide_eq_false z0,decide_eq_true z1,c4]
   rw [hTe] at hr
   exact zJ.runs hr (.inr rfl) hc rfl
  rw [if_neg z1]
  by_cases z3:m.kind=3
  ·
   obtain ⟨d,hd0⟩:∃ b,(decide (m.prep < -1) || decide (m.view≤m.prep))=b:=⟨_,rfl⟩
   rw [hd0]
   cases d
   ·
    rw [if_neg (by simp)]
    conv at hr =>
     rhs
     rw [hTe]
     simp only [zJ.code,zJ.rs,zSs,reduceIte,zk,zn,zo,zq,xq,zI,zT,zY,jf,zM,jm,jv,jk,jV g0,wM g0,yh g0,yJ g0,wE g0,qK g0,qU g0,kG g0 hm.b.ne,kQ g0 hm.b.ne,zK (zI _ _ _),zK (zT _ _ _),zK (zY _ _ _),zK (jf _ _ _),zK (zM _ _ _),zK (jm _ _ _),zK (jv _ _ _),zK (jk _ _ _),zK (jV g0),zK (wM g0),zK (yh g0),zK (yJ g0),zK (wE g0),zK (qK g0),zK (qU g0),zK (kG g0 hm.b.ne),zK (kQ g0 hm.b.ne),Zq (kQ g0 hm.b.ne) (J6 m),qy g0,gvw,e0,e6,c1,c2,zK (c1 _),zK (c2 _),hc0,decide_eq_false z0,decide_eq_false z1,decide_eq_true z3,hd0,c5,zK (c5 _)]
    rw [hTe] at hr
    exact zJ.runs hr (.inr rfl) hc rfl
   ·
    rw [if_pos ⟨z3,rfl⟩]
    conv at hr =>
     rhs
     rw [hTe]
     simp only [zJ.code,zJ.rs,zSs,reduceIte,zk,zn,zo,zq,xq,zI,zT,zY,jf,zM,jm,jv,jk,jV g0,wM g0,yh g0,yJ g0,wE g0,qK g0,qU g0,kG g0 hm.b.ne,kQ g0 hm.b.ne,zK (zI _ _ _),zK (zT _ _ _),zK (zY _ _ _),zK (jf _ _ _),zK (zM _ _ _),zK (jm _ _ _),zK (jv _ _ _),zK (jk _ _ _),zK (jV g0),zK (wM g0),zK (yh g0),zK (yJ g0),zK (wE g0),zK (qK g0),zK (qU g0),zK (kG g0 hm.b.ne),zK (kQ g0 hm.b.ne),Zq (kQ g0 hm.b.ne) (J6 m),qy g0,gvw,e0,e6,c1,c2,zK (c1 _),zK (c2 _),hc0,decide_eq_false z0,decide_eq_false z1,decide_eq_true z3,hd0]
    rw [hTe] at hr
    exact zJ.runs hr (.inr rfl) hc rfl
  rw [if_neg (fun h=>z3 h.1)]
  conv at hr =>
   rhs
   rw [hTe]
   simp only [zJ.code,zJ.rs,zSs,reduceIte,zk,zn,zo,zq,xq,zI,zT,zY,jf,zM,jm,jv,jk,jV g0,wM g0,yh g0,yJ g0,wE g0,qK g0,qU g0,kG g0 hm.b.ne,kQ g0 hm.b.ne,zK (zI _ _ _),zK (zT _ _ _),zK (zY _ _ _),zK (jf _ _ _),zK (zM _ _ _),zK (jm _ _ _),zK (jv _ _ _),zK (jk _ _ _),zK (jV g0),zK (wM g0),zK (yh g0),zK (yJ g0),zK (wE g0),zK (qK g0),zK (qU g0),zK (kG g0 hm.b.ne),zK (kQ g0 hm.b.ne),Zq (kQ g0 hm.b.ne) (J6 m),qy g0,gvw,e0,e6,c1,c2,zK (c1 _),zK (c2 _),hc0,decide_eq_false z0,decide_eq_false z1,decide_eq_false z3,c5,zK (c5 _)]
  rw [hTe] at hr
  exact zJ.runs hr (.inr rfl) hc rfl
 ·
  rw [if_pos rfl]
  conv at hr =>
   rhs
   rw [hTe]
   simp only [zJ.code,zJ.rs,zSs,reduceIte,zk,zn,zo,zq,xq,zI,zT,zY,jf,zM,jm,jv,jk,jV g0,wM g0,yh g0,yJ g0,wE g0,qK g0,qU g0,kG g0 hm.b.ne,kQ g0 hm.b.ne,zK (zI _ _ _),zK (zT _ _ _),zK (zY _ _ _),zK (jf _ _ _),zK (zM _ _ _),zK (jm _ _ _),zK (jv _ _ _),zK (jk _ _ _),zK (jV g0),zK (wM g0),zK (yh g0),zK (yJ g0),zK (wE g0),zK (qK g0),zK (qU g0),zK (kG g0 hm.b.ne),zK (kQ g0 hm.b.ne),Zq (kQ g0 hm.b.ne) (J6 m),qy g0,gvw,e0,e6,c1,c2,zK (c1 _),zK (c2 _),hc0]
  rw [hTe] at hr
  exact zJ.runs hr (.inr rfl) hc rfl
theorem kC (b:xC):vC b b=true:=by simp [vC]
theorem right_eq (m:jK):y7 m=adu m:=by
 unfold y7 adu abM
 by_cases hk:m.kind < 0∨6 < m.kind
 ·
  rw [if_pos hk]
  have:WQ m=false:=by simp only [WQ,if_neg (show ¬ m.kind=0 by omega),if_neg (show ¬ m.kind=1 by omega),if_neg (show ¬ m.kind=2 by omega),if_neg (show ¬ m.kind=3 by omega),if_neg (show ¬ (m.kind=4∨m.kind=5) by omega),if_neg (show ¬ m.kind=6 by omega)]
  rw [this]
  simp
 rw [if_neg hk]
 by_cases f0:m.frm < 0
 ·
  simp [f0]
 by_cases f7:6 < m.frm
 ·
  simp [f0,f7,show 7≤m.frm by omega]
 have f8:¬ 7≤m.frm:=by omega
 have hv:decide (0 < Js m.value)=vY m.value:=aem m.value
 have:m.kind=0∨m.kind=1∨m.kind=2∨m.kind=3∨m.kind=4∨m.kind=5∨m.kind=6:=by omega
 rcases this with h | h | h | h | h | h | h
 ·
  simp only [yX,jW,WQ,h,decide_true,decide_false,Bool.true_and,Bool.false_and,Bool.not_true,Bool.not_false,zn,zo,if_true,if_false,reduceIte,ac0,vwB,yD,Jo,nameB,hv,f0,f7,f8,or_true,true_or,or_false,false_or,or_self,Bool.or_false,Bool.false_or,kC,false_and,true_and]
  grind
 ·
  simp only [yX,jW,WQ,h,decide_true,decide_false,Bool.true_and,Bool.false_and,Bool.not_true,Bool.not_false,zn,zo,if_true,if_false,reduceIte,ac0,vwB,yD,Jo,nameB,hv,f0,f7,f8,or_true,true_or,or_false,false_or,or_self,Bool.or_false,Bool.false_or,kC,false_and,true_and]
  grind
 ·
  simp only [yX,jW,WQ,h,decide_true,decide_false,Bool.true_and,Bool.false_and,Bool.not_true,Bool.not_false,zn,zo,if_true,if_false,reduceIte,ac0,vwB,yD,Jo,nameB,hv,f0,f7,f8,or_true,true_or,or_false,false_or,or_self,Bool.or_false,Bool.false_or,kC,false_and,true_and]
  grind
 ·
  simp only [yX,jW,WQ,h,decide_true,decide_false,Bool.true_and,Bool.false_and,Bool.not_true,Bool.not_false,zn,zo,if_true,if_false,reduceIte,ac0,vwB,yD,Jo,nameB,hv,f0,f7,f8,or_true,true_or,or_false,false_or,or_self,Bool.or_false,Bool.false_or,kC,false_and,true_and]
  grind
 ·
  simp only [yX,jW,WQ,h,decide_true,decide_false,Bool.true_and,Bool.false_and,Bool.not_true,Bool.not_false,zn,zo,if_true,if_false,reduceIte,ac0,vwB,yD,Jo,nameB,hv,f0,f7,f8,or_true,true_or,or_false,false_or,or_self,Bool.or_false,Bool.false_or,kC,false_and,true_and]
  grind
 ·
  simp only [yX,jW,WQ,h,decide_true,decide_false,Bool.true_and,Bool.false_and,Bool.not_true,Bool.not_false,zn,zo,if_true,if_false,reduceIte,ac0,vwB,yD,Jo,nameB,hv,f0,f7,f8,or_true,true_or,or_false,false_or,or_self,Bool.or_false,Bool.false_or,kC,false_and,true_and]
  grind
 ·
  simp only [yX,jW,WQ,h,decide_true,decide_false,Bool.true_and,Bool.false_and,Bool.not_true,Bool.not_false,zn,zo,if_true,if_false,reduceIte,ac0,vwB,yD,Jo,nameB,hv,f0,f7,f8,or_true,true_or,or_false,false_or,or_self,Bool.or_false,Bool.false_or,kC,false_and,true_and]
  grind
end Go.Proofs.Ytbgcphbbchndkaa
namespace Go.Proofs.Ytbgcphbbchndkaa
open Go.Abs
theorem abd {n:Int} (h:nameB n=true):0≤n∧n≤268435455:=by
 unfold nameB at h
 simp only [Bool.or_eq_true,decide_eq_true_eq] at h
 rcases h with h | h
 ·
  omega
 ·
  have:=Zr.1 h;omega
structure XU (m:jK):Prop where
 kind:0≤m.kind∧m.kind≤6
 frm:0≤m.frm∧m.frm≤6
 index:0≤m.index∧m.index≤1000
 view:0≤m.view∧m.view≤1000
 value:-1≤m.value∧m.value≤268435455
 prep:-1≤m.prep∧m.prep≤1000
 tx:m.kind=0→qp m.tx=true
 blk:m.kind=1→wz m.b=true
 notx:m.kind≠0→m.tx=⟨0,0⟩
 noblk:m.kind≠1→vC m.b bk0=true
 noprep:m.kind≠3→m.prep=0
theorem WT {m:jK} (h:y7 m=true):XU m:=by
 rw [right_eq] at h
 unfold adu at h
 split at h
 ·
  cases h
 rename_i hf
 split at h
 ·
  cases h
 rename_i ho
 simp only [Bool.or_eq_true,decide_eq_true_eq,not_or] at hf
 have ho:(m.kind≠0→m.tx=⟨0,0⟩)∧(m.kind≠1→vC m.b bk0=true)∧(m.kind≠3→m.prep=0):=by
  unfold abM at ho
  simp only [Bool.or_eq_true,Bool.and_eq_true,Bool.not_eq_true',decide_eq_false_iff_not,not_or,not_and,Decidable.not_not,Bool.not_eq_false] at ho
  exact ⟨ho.1.1,ho.1.2,ho.2⟩
 unfold WQ ac0 vwB at h
 have nr:=fun hn=>abd (n:=m.value) hn
 have k:m.kind=0∨m.kind=1∨m.kind=2∨m.kind=3∨m.kind=4∨m.kind=5∨m.kind=6:=by
  by_cases a:m.kind=0∨m.kind=1∨m.kind=2∨m.kind=3∨m.kind=4∨m.kind=5∨m.kind=6
  ·
   exact a
  ·
   simp only [if_neg (show ¬ m.kind=0 by omega),if_neg (show ¬ m.kind=1 by omega),if_neg (show ¬ m.kind=2 by omega),if_neg (show ¬ m.kind=3 by omega),if_neg (show ¬ (m.kind=4∨m.kind=5) by omega),if_neg (show ¬ m.kind=6 by omega)] at h
   cases h
 rcases k with k | k | k | k | k | k | k
 ·
  simp only [k,zn,if_true,if_false,reduceIte,or_true,true_or,or_false,or_self,Bool.and_eq_true,Bool.or_eq_true,decide_eq_true_eq] at h
  have hp:=ho.2.2
  have hv:-1≤m.value∧m.value≤268435455:=by grind
  refine ⟨by omega,by omega,by omega,by omega,hv,by grind,fun e=>by grind,fun e=>by grind,ho.1,ho.2.1,ho.2.2⟩
 ·
  simp only [k,zn,if_true,if_false,reduceIte,or_true,true_or,or_false,or_self,Bool.and_eq_true,Bool.or_eq_true,decide_eq_true_eq] at h
  have hp:=ho.2.2
  have hv:-1≤m.value∧m.value≤268435455:=by grind
  refine ⟨by omega,by omega,by omega,by omega,hv,by grind,fun e=>by grind,fun e=>by grind,ho.1,ho.2.1,ho.2.2⟩
 ·
  simp only [k,zn,if_true,if_false,reduceIte,or_true,true_or,or_false,or_self,Bool.and_eq_true,Bool.or_eq_true,decide_eq_true_eq] at h
  have hp:=ho.2.2
  have hv:-1≤m.value∧m.value≤268435455:=by grind
  refine ⟨by omega,by omega,by omega,by omega,hv,by grind,fun e=>by grind,fun e=>by grind,ho.1,ho.2.1,ho.2.2⟩
 ·
  simp only [k,zn,if_true,if_false,reduceIte,or_true,true_or,or_false,or_self,Bool.and_eq_true,Bool.or_eq_true,decide_eq_true_eq] at h
  have hp:=ho.2.2
  have hv:-1≤m.value∧m.value≤268435455:=by grind
  refine ⟨by omega,by omega,by omega,by omega,hv,by grind,fun e=>by grind,fun e=>by grind,ho.1,ho.2.1,ho.2.2⟩
 ·
  simp only [k,zn,if_true,if_false,reduceIte,or_true,true_or,or_false,or_self,Bool.and_eq_true,Bool.or_eq_true,decide_eq_true_eq] at h
  have hp:=ho.2.2
  have hv:-1≤m.value∧m.value≤268435455:=by grind
  refine ⟨by omega,by omega,by omega,by omega,hv,by grind,fun e=>by grind,fun e=>by grind,ho.1,ho.2.1,ho.2.2⟩
 ·
  simp only [k,zn,if_true,if_false,reduceIte,or_true,true_or,or_false,or_self,Bool.and_eq_true,Bool.or_eq_true,decide_eq_true_eq] at h
  have hp:=ho.2.2
  have hv:-1≤m.value∧m.value≤268435455:=by grind
  refine ⟨by omega,by omega,by omega,by omega,hv,by grind,fun e=>by grind,fun e=>by grind,ho.1,ho.2.1,ho.2.2⟩
 ·
  simp only [k,zn,if_true,if_false,reduceIte,or_true,true_or,or_false,or_self,Bool.and_eq_true,Bool.or_eq_true,decide_eq_true_eq] at h
  have hp:=ho.2.2
  have hv:-1≤m.value∧m.value≤268435455:=by grind
  refine ⟨by omega,by omega,by omega,by omega,hv,by grind,fun e=>by grind,fun e=>by grind,ho.1,ho.2.1,ho.2.2⟩
def Wq (m:jK):List UInt8:=if m.kind=0 then txB m.tx else if m.kind=1 then adn m.b else []
def Wu (m:jK):List Int:=[m.kind,m.frm,m.index,m.view,m.value,m.prep]
def xu (m:jK):List UInt8:=encs (Wu m)++Wq m
def mkM (m:jK):Nat:=(Wv (adS m.frm) (xu m)).toNat
def XW (m:jK):List UInt8:=enc (mkM m)++xu m
def Jg (m:jK):Value:=if y7 m then .tuple #[by_ 2 (XW m),.int .i64 0] else .tuple #[.slice none 0 0,.int .i64 121]
theorem VU (key:Int) (b:List UInt8):0≤Wv key b∧Wv key b < 18446744073709551616:=aeI _ _
theorem af9 (key:Int) (b:List UInt8):((Wv key b).toNat:Int)=Wv key b:=Int.toNat_of_nonneg (VU key b).1
theorem af4 (key:Int) (b:List UInt8):(Wv key b).toNat < 2 ^ 64:=by have:=VU key b;omega
theorem YL {m:jK} (h:XU m):∀ n ∈ Wu m,-1≤n∧n≤268435455:=by
 intro n hn
 have h1:=h.kind;have h2:=h.frm;have h3:=h.index;have h4:=h.view;have h5:=h.value;have h6:=h.prep
 simp only [Wu,List.mem_cons,List.not_mem_nil,or_false] at hn
 rcases hn with rfl | rfl | rfl | rfl | rfl | rfl <;> omega
theorem KI {m:jK} (h:XU m):(encs (Wu m)).length≤60:=by
 have h1:=YL h
 exact vN (l:=Wu m) (fun n hn=>by have:=h1 n hn;omega)
theorem aac {b:xC} (h:wz b=true):(adn b).length≤140:=by
 have hh:headB b=true∧Jw b.txs=true:=by simpa [wz] using h
 unfold adn
 have:=aal hh.1;have:=aas hh.2
 rw [List.length_append];omega
theorem aeD {m:jK} (h:XU m):(Wq m).length≤140:=by
 unfold Wq
 split
 ·
  rename_i h0;have:=VI (h.tx h0);omega
 split
 ·
  rename_i h1;exact aac (h.blk h1)
 ·
  simp
theorem Q9 {m:jK} (h:XU m):(xu m).length≤200:=by
 unfold xu;have:=KI h;have:=aeD h;rw [List.length_append];omega
theorem bs6 (a b c d e f:Int) (S:zu):jT zi 57 6 [(0,.int .i64 a),(1,.int .i64 b),(2,.int .i64 c),(3,.int .i64 d),(4,.int .i64 e),(5,.int .i64 f)] S=some (iz 2 [a,b,c,d,e,f],S):=by kernel_rfl
theorem zV.v {m:jK} (hm:m.Ok) (S:zu):jc zi O zV.id [mv m] S=some (Jg m,S):=by
 obtain ⟨T,hTe⟩:∃ T,T=(mv m::zh::zh::zh::zh::zh::zh::zh::zh::zh::zh::zh::zh::zh::zh::zh::zh::zh::zh::zh::zh::zh::zh::zh::zh::zh::zh::zh::zh::zh::zh::zh::zh::zh::zh::zh::zh::zh::zh::zh::zh::zh::zh::zh::zh::zh::zh::zh::zh::zh::zh::zh::zh::zh::zh::zh::zh::zh::zh::zh::zh::zh::zh::[]):=⟨_,rfl⟩
 have hr:zD zi O false zV.code T zu.empty=zD zi O false zV.code T zu.empty:=rfl
 have g0:=Q5 m
 have hc:[mv m].all (jg 16)=true:=all1 (wI hm.b.okl.le)
 have c0:∀ S,jc zi O 14 [mv m] S=some (.bool (y7 m),S):=fun S=>zJ.v hm S
 unfold Jg
 cases hR:y7 m
 ·
  rw [hR] at c0
  conv at hr =>
   rhs
   rw [hTe]
   simp only [zV.code,zV.rs,zSs,reduceIte,zk,zn,zo,zq,xq,zI,zT,zY,jf,zM,jm,jv,jk,jV g0,wM g0,yh g0,yJ g0,wE g0,qK g0,qU g0,kG g0 hm.b.ne,kQ g0 hm.b.ne,c0]
  rw [hTe] at hr
  exact zV.runs hr (.inr rfl) rfl rfl hc rfl
 ·
  rw [hR] at c0
  have hf:=WT hR
  have few:=YL hf
  have c2:∀ S,jc zi O 32 [iz 1 [m.kind,m.frm,m.index,m.view,m.value,m.prep]] S=some (.tuple #[by_ 2 (encs (Wu m)),.int .i64 0],S):=fun S=>by
   rw [zG.v (l:=[m.kind,m.frm,m.index,m.view,m.value,m.prep]) Okl.read (by decide) (fun n hn=>by have:=few n hn;omega) S,WH (l:=[m.kind,m.frm,m.index,m.view,m.value,m.prep]) (by simp) (fun n hn=>(few n hn).1) (by simp)];rfl
  have ck:∀ S,jc zi O 27 [.int .i64 m.frm] S=some (.int .u64 (adS m.frm),S):=fun S=>yQ.v m.frm S
  have cn:∀ b S,jc zi O 35 [.int .u64 (Wv (adS m.frm) b)] S=some (by_ 2 (enc (Wv (adS m.frm) b).toNat),S):=fun b S=>by
   have:=jH.v (Wv (adS m.frm) b).toNat (af4 _ _) S
   rw [af9] at this
   exact this
  have a0:∀ S,yw zi 23 23 (by_ 2 (enc (mkM m))) (by_ 1 (xu m)) S=some (by_ 2 (XW m),S):=fun S=>by
   rw [xB Okl.own (by decide) Okl.read (by have:=Q9 hf;have:=Zn (af4 (adS m.frm) (xu m));unfold mkM;omega)];rfl
  have em:enc (Wv (adS m.frm) (xu m)).toNat=enc (mkM m):=rfl
  have cof:∀ S,jc zi O 36 [.int .u64 (adS m.frm),sv 1 1 1 [by_ 1 (xu m)]] S=some (.int .u64 (Wv (adS m.frm) (xu m)),S):=fun S=>jl.v (by have:=Q9 hf;omega) S
  have hcv:jg 16 (.tuple #[by_ 2 (XW m),.int .i64 0])=true:=vP (all2 (WI (k:=2) (Nat.le_refl 2)) rfl)
  by_cases k0:m.kind=0
  ·
   have c3:∀ S,jc zi O 33 [tv m.tx] S=some (.tuple #[by_ 2 (txB m.tx),.int .i64 0],S):=fun S=>by
    rw [jP.v m.tx S,ahF,if_pos (hf.tx k0)]
   have a1:∀ S,yw zi 23 23 (by_ 2 (encs (Wu m))) (by_ 1 (txB m.tx)) S=some (by_ 2 (xu m),S):=fun S=>by
    rw [xB Okl.own (by decide) Okl.read (by have:=KI hf;have:=VI (hf.tx k0);omega)]
    rw [if_neg (by omega)];simp only [xu,Wq,if_pos k0]
   conv at hr =>
    rhs
    rw [hTe]
    simp only [zV.code,zV.rs,zSs,reduceIte,zk,zn,zo,zq,xq,zI,zT,zY,jf,zM,jm,jv,jk,jV g0,wM g0,yh g0,yJ g0,wE g0,qK g0,qU g0,kG g0 hm.b.ne,kQ g0 hm.b.ne,c0,bs6,c2,decide_eq_true k0,c3,a1,ck,QG,cof,cn,em,a0]
   rw [hTe] at hr
   exact zV.runs hr (.inr rfl) (by simp only [List.getD_cons_succ,List.getD_cons_zero,yP,yx,wF,wW,yA]) rfl hc hcv
  by_cases k1:m.kind=1
  ·
   have c3:∀ S,jc zi O 34 [bv m.b] S=some (.tuple #[by_ 2 (adn m.b),.int .i64 0],S):=fun S=>by
    rw [ji.v hm.b S,agn,if_pos (hf.blk k1)]
   have a1:∀ S,yw zi 23 23 (by_ 2 (encs (Wu m))) (by_ 1 (adn m.b)) S=some (by_ 2 (xu m),S):=fun S=>by
    rw [xB Okl.own (by decide) Okl.read (by have:=KI hf;have:=aac (hf.blk k1);omega)]
    rw [if_neg (by omega)];simp only [xu,Wq,if_neg k0,if_pos k1]
   conv at hr =>
    rhs
    rw [hTe]
    simp only [zV.code,zV.rs,zSs,reduceIte,zk,zn,zo,zq,xq,zI,zT,zY,jf,zM,jm,jv,jk,jV g0,wM g0,yh g0,yJ g0,wE g0,qK g0,qU g0,kG g0 hm.b.ne,kQ g0 hm.b.ne,c0,bs6,c2,decide_eq_false k0,decide_eq_true k1,c3,a1,ck,QG,cof,cn,em,a0]
   rw [hTe] at hr
   exact zV.runs hr (.inr rfl) (by simp only [List.getD_cons_succ,List.getD_cons_zero,yP,yx,wF,wW,yA]) rfl hc hcv
  have eb:encs (Wu m)=xu m:=by simp only [xu,Wq,if_neg k0,if_neg k1,List.append_nil]
  conv at hr =>
   rhs
   rw [hTe]
   simp only [zV.code,zV.rs,zSs,reduceIte,zk,zn,zo,zq,xq,zI,zT,zY,jf,zM,jm,jv,jk,jV g0,wM g0,yh g0,yJ g0,wE g0,qK g0,qU g0,kG g0 hm.b.ne,kQ g0 hm.b.ne,c0,bs6,c2,decide_eq_false k0,decide_eq_false k1,eb,ck,QG,cof,cn,em,a0]
  rw [hTe] at hr
  exact zV.runs hr (.inr rfl) (by simp only [List.getD_cons_succ,List.getD_cons_zero,yP,yx,wF,wW,yA]) rfl hc hcv
end Go.Proofs.Ytbgcphbbchndkaa
namespace Go.Proofs.Ytbgcphbbchndkaa
open Go.Abs
theorem vF {a b:xC}:vC a b=true ↔ a.slot=b.slot∧a.miner=b.miner∧a.variant=b.variant∧a.parent=b.parent∧a.txs=b.txs:=by
 simp [vC]
theorem agw {m:jK} {b:xC} (h:vC m.b b=true):y7 { m with b:=b }=y7 m:=by
 rw [right_eq,right_eq]
 obtain ⟨k,f,i,v,w,p,t,c⟩:=m
 obtain ⟨c1,c2,c3,c4,c5,c6⟩:=c
 obtain ⟨b1,b2,b3,b4,b5,b6⟩:=b
 obtain ⟨e1,e2,e3,e4,e5⟩:=vF.1 h
 dsimp only at e1 e2 e3 e4 e5
 subst e1 e2 e3 e4 e5
 rfl
theorem Xl {x:jK} (hx:y7 x=true):XD 6 (xu x)=some (Wu x,Wq x):=by
 have f1:=YL (WT hx)
 exact (JV _ _ _ _).mpr ⟨rfl,rfl,fun n hn=>by have:=f1 n hn;unfold Few;omega⟩
section
variable {l r:List UInt8} {a b c d e f:Int}
end
end Go.Proofs.Ytbgcphbbchndkaa
namespace Go.Proofs.Ytbgcphbbchndkaa
open Go.Abs
theorem YA {x y:jK}:yX x y=true ↔ x.kind=y.kind∧x.frm=y.frm∧x.index=y.index∧x.view=y.view∧x.value=y.value∧x.prep=y.prep∧x.tx=y.tx∧vC x.b y.b=true:=by
 simp [yX]
theorem aaZ {a b:xC} (h:vC a b=true):vC b a=true:=by
 rw [vF] at h ⊢;exact ⟨h.1.symm,h.2.1.symm,h.2.2.1.symm,h.2.2.2.1.symm,h.2.2.2.2.symm⟩
theorem X9 {a b c:xC} (h:vC a b=true) (k:vC b c=true):vC a c=true:=by
 rw [vF] at h k ⊢;exact ⟨h.1.trans k.1,h.2.1.trans k.2.1,h.2.2.1.trans k.2.2.1,h.2.2.2.1.trans k.2.2.2.1,h.2.2.2.2.trans k.2.2.2.2⟩
theorem like {x y:jK} (h:yX x y=true):y7 y=y7 x∧xu y=xu x∧XW y=XW x:=by
 obtain ⟨h1,h2,h3,h4,h5,h6,h7,h8⟩:=YA.1 h
 have e:y={ x with b:=y.b }:=mk_eq h1.symm h2.symm h3.symm h4.symm h5.symm h6.symm h7.symm rfl
 have hb:xu y=xu x:=by
  obtain ⟨s1,s2,s3,s4,s5⟩:=vF.1 h8
  simp only [xu,Wu,Wq,adn,← h1,← h2,← h3,← h4,← h5,← h6,← h7,← s1,← s2,← s3,← s4,← s5]
 refine ⟨?_,hb,?_⟩
 ·
  rw [e];exact agw h8
 ·
  simp only [XW,mkM,hb,← h2]
theorem aeZ {x y:jK} (hx:y7 x=true) (hy:y7 y=true) (h:xu x=xu y):yX x y=true:=by
 have e:=Xl hx
 rw [h,Xl hy] at e
 simp only [Option.some.injEq,Prod.mk.injEq,Wu,List.cons.injEq,and_true] at e
 obtain ⟨⟨h1,h2,h3,h4,h5,h6⟩,h7⟩:=e
 have fx:=WT hx;have fy:=WT hy
 refine YA.2 ⟨h1.symm,h2.symm,h3.symm,h4.symm,h5.symm,h6.symm,?_,?_⟩
 ·
  by_cases k:x.kind=0
  ·
   have ky:y.kind=0:=by omega
   rw [Wq,Wq,if_pos k,if_pos ky] at h7
   exact (agM (r:=[]) (s:=[]) (fx.tx k) (fy.tx ky) (by rw [List.append_nil,List.append_nil,h7])).1
  ·
   rw [fx.notx k,fy.notx (by omega)]
 ·
  by_cases k:x.kind=1
  ·
   have ky:y.kind=1:=by omega
   rw [Wq,Wq,if_neg (show ¬ y.kind=0 by omega),if_neg (show ¬ x.kind=0 by omega),if_pos ky,if_pos k] at h7
   exact vF.2 (aeY (r:=[]) (s:=[]) (fx.blk k) (fy.blk ky) (by rw [List.append_nil,List.append_nil,h7])).1
  ·
   exact X9 (fx.noblk k) (aaZ (fy.noblk (by omega)))
theorem acI (m:jK):mkM m < 2 ^ 64:=af4 _ _
theorem aef {x y:jK} (hx:y7 x=true) (hy:y7 y=true) (h:XW x=XW y):yX x y=true :=
 aeZ hx hy (afZ (acI x) (acI y) h).2
end Go.Proofs.Ytbgcphbbchndkaa
