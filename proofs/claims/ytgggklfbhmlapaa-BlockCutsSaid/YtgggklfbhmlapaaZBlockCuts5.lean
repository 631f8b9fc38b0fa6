/-
The law BlockCuts returns true for every input, and leaves it as it was; no condition. Part 5 of 5 of the texts (put together by a program: own names are short, what isn't needed is left out).
-/
import Derived.Test.YtgggklfbhmlapaaZBlockCuts4
import Derived.Test.YtgggklfbhmlapaaChecked
import Derived.KernelRfl
import Derived.Test.YtgggklfbhmlapaaRows
import Derived.WalkKit
import Derived.ProofKit
import Derived.OpenShut
import Derived.ShutString
import Derived.ChangeOld
import Derived.Below
import Derived.SizedLaws
import Derived.Carry
set_option linter.unusedVariables false
set_option linter.unusedSimpArgs false
set_option maxRecDepth 100000
open Go renaming undef → zh
open Go.Proofs.Try renaming prog → zi
open Nat renaming reduceEqDiff → zk
open Int renaming reduceEq → zn
open Int renaming reduceLT → zo
open Int renaming reduceLE → zq
namespace Go.Proofs.Ytgggklfbhmlapaa
open Go.Abs
abbrev jL.id:FuncId:=47
noncomputable def jL.code:Code:=(.seq (.region 0 (reg Try.f47 0) false) (.seq (.region 1 (reg Try.f47 1) false) Code.ret))
theorem jL.body:Try.f47.body=some jL.code:=by kernel_rfl
variable (c i Y J K L M N P Q l m n o p q r s t u w:Value) (S:zx)
theorem jL.r0 :jq zi ⟨false,false,false⟩ (zU zi O) (reg Try.f47 0) (reg Try.f47 0).toList ([c,i,Y,J,K,L,M,N,P,Q,l,m,n,o,p,q,r,s,t,u,w]) S =
  (zO (Qg (dem c) S) (fun x d=>some ([c,x,Value.bool false,J,K,L,M,N,P,Q,l,m,n,o,p,q,r,s,t,u,w],d)) ()):=by
 kernel_rfl
theorem jL.r1 :jq zi ⟨false,false,false⟩ (zU zi O) (reg Try.f47 1) (reg Try.f47 1).toList ([c,i,Y,J,K,L,M,N,P,Q,l,m,n,o,p,q,r,s,t,u,w]) S =
  (zO (zS zi 47 i 0 S) (fun x d=>zO (jk zi false 3 x d) (fun R Z=>zO (wJ zi BinOp.geq 3 R (.int .i64 1) Z) (fun f S3=>gdK (dem f) true (zS zi 47 i 0) S3 (fun U S4=>gdK (dem f) true (jk zi false 3 U) S4 (fun V S5=>gdK (dem f) true (wJ zi BinOp.leq 3 V (.int .i64 1000000)) S5 (fun W S6=>zO (qh (dem f) W (Value.bool false) S6) (fun g S7=>gdK (dem g) true (zS zi 47 i 1) S7 (fun X S8=>gdK (dem g) true (jk zi false 3 X) S8 (fun y S9=>gdK (dem g) true (wJ zi BinOp.geq 3 y (.int .i64 0)) S9 (fun z D=>zO (qh (dem g) z (Value.bool false) D) (fun b E=>gdK (dem b) true (zS zi 47 i 1) E (fun A F=>gdK (dem b) true (jk zi false 3 A) F (fun B G=>gdK (dem b) true (wJ zi BinOp.leq 3 B (.int .i64 1000)) G (fun C H=>zO (qh (dem b) C (Value.bool false) H) (fun k I=>some ([c,i,k,x,R,f,dem f,U,V,W,g,dem g,X,y,z,b,dem b,A,B,C,dem k],I)) ()) ()) ()) ()) ()) ()) ()) ()) ()) ()) ()) ()) ()) ()) ()):=by
 refine sD Try.f47 1 0 (fun x d=>?_)
 refine sD Try.f47 1 1 (fun R Z=>?_)
 refine sD Try.f47 1 2 (fun f S3=>?_)
 refine sP Try.f47 1 3 (v:=f) ?_
 refine sG Try.f47 1 4 (j:=3) (fun U S4=>?_)
 refine sG Try.f47 1 5 (j:=3) (fun V S5=>?_)
 refine sG Try.f47 1 6 (j:=3) (fun W S6=>?_)
 refine sD Try.f47 1 7 (fun g S7=>?_)
 refine sP Try.f47 1 8 (v:=g) ?_
 refine sG Try.f47 1 9 (j:=8) (fun X S8=>?_)
 refine sG Try.f47 1 10 (j:=8) (fun y S9=>?_)
 refine sG Try.f47 1 11 (j:=8) (fun z D=>?_)
 refine sD Try.f47 1 12 (fun b E=>?_)
 refine sP Try.f47 1 13 (v:=b) ?_
 refine sG Try.f47 1 14 (j:=13) (fun A F=>?_)
 refine sG Try.f47 1 15 (j:=13) (fun B G=>?_)
 refine sG Try.f47 1 16 (j:=13) (fun C H=>?_)
 refine sD Try.f47 1 17 (fun k I=>?_)
 refine sP Try.f47 1 18 (v:=k) ?_
 kernel_rfl
theorem jL.rs:type_of% (agH @jL.r0 (@jL.r1)):=agH @jL.r0 (@jL.r1)
theorem jL.runs {c:Value} {S d:zx} {e:AEx} {T:List Value} (h:zI zi O false jL.code ([c,zh,zh,zh,zh,zh,zh,zh,zh,zh,zh,zh,zh,zh,zh,zh,zh,zh,zh,zh,zh]) zx.empty=some (e,T,d)) (he:e=.normal∨e=.ret) (hca:[c].all (zT 16)=true) (hcv:zT 16 (T.getD 2 zh)=true):zU zi O 47 [c] S=some (T.getD 2 zh,S) :=
 yB rfl rfl Try.func47 (by decide) jL.body (by exact h) he (qp (a:=T.getD 2 zh) ((show zN zi T d Try.f47.results.toList=zN zi T d [(ResultVar.tmp 2)] from by kernel_rfl).trans (by simp only [zN])) (by kernel_rfl)) hca hcv
end Go.Proofs.Ytgggklfbhmlapaa
namespace Go.Proofs.Ytgggklfbhmlapaa
open Go.Abs
theorem Wq {a b:Bool} {S:zx}:kV zi .eql 4 (.bool a) (.bool b) S=some (.bool (a == b),S):=by cases a <;> cases b <;> kernel_rfl
end Go.Proofs.Ytgggklfbhmlapaa
namespace Go.Proofs.Ytgggklfbhmlapaa
open Go.Abs
structure TxV where
 id:Int
 fee:Int
 deriving DecidableEq
def fT (t:TxV):List Value:=[.int .i64 t.id,.int .i64 t.fee]
abbrev tv (t:TxV):Value:=.agg [Value.int .i64 t.id,.int .i64 t.fee].toArray
structure TxV.Ok (t:TxV):Prop where
 id:-9223372036854775808≤t.id∧t.id < 9223372036854775808
 fee:-9223372036854775808≤t.fee∧t.fee < 9223372036854775808
abbrev tTx:Ty:=.pair (.int .i64) (.pair (.int .i64) .unit)
def wY (t:TxV):Bool:=decide (1≤t.id) && decide (t.id≤1000000) && decide (0≤t.fee) && decide (t.fee≤1000)
theorem xO {t:TxV}:wY t=true ↔ 1≤t.id∧t.id≤1000000∧0≤t.fee∧t.fee≤1000:=by
 simp [wY,and_assoc]
abbrev mem1 (t:TxV):zx:=zx.empty.push (.cells [Value.int .i64 t.id,.int .i64 t.fee] (.own []) 0)
theorem box1 (t:TxV):Qg (tv t) zx.empty=some (.pointer (some ⟨0,0,none⟩),mem1 t):=rfl
theorem vZ (t:TxV):(mem1 t).get 0=some (.cells [Value.int .i64 t.id,.int .i64 t.fee] (.own []) 0):=rfl
theorem jL.v (t:TxV) (S:zx):zU zi O jL.id [tv t] S=some (.bool (wY t),S):=by
 obtain ⟨T,hTe⟩:∃ T,T=(tv t::zh::zh::zh::zh::zh::zh::zh::zh::zh::zh::zh::zh::zh::zh::zh::zh::zh::zh::zh::zh::[]):=⟨_,rfl⟩
 have hr:zI zi O false jL.code T zx.empty=zI zi O false jL.code T zx.empty:=rfl
 have l0:=ql (t:=3) (o:=0+0) (vZ t) J3 rfl
 have l1:=ql (t:=3) (o:=0+1) (vZ t) J3 rfl
 by_cases h1:1≤t.id <;> by_cases h2:t.id≤1000000 <;> by_cases h3:0≤t.fee <;> by_cases h4:t.fee≤1000
 all_goals
  conv at hr =>
   rhs
   rw [hTe]
   simp only [jL.code,jL.rs,zSs,reduceIte,zk,zn,zo,zq,box1,kH,Jy,l0,l1,h1,h2,h3,h4]
  rw [hTe] at hr
  simp only [wY,h1,h2,h3,h4,decide_true,decide_false,Bool.and_true,Bool.and_false,Bool.false_and]
  exact jL.runs hr (.inr rfl) rfl rfl
theorem af8 (x:tTx.Val) (hg:tTx.Good x):∃ t:TxV,tTx.Z7 x=fT t∧t.Ok:=by
 obtain ⟨a,b,u⟩:=x
 obtain ⟨h1,h2,_⟩:=hg
 exact ⟨⟨a,b⟩,rfl,aa0 h1,aa0 h2⟩
end Go.Proofs.Ytgggklfbhmlapaa
namespace Go.Proofs.Ytgggklfbhmlapaa
open Go.Abs
abbrev zy.id:FuncId:=33
noncomputable def zy.jE:Code:=(.seq (.region 6 (reg Try.f33 6) false) (.seq (.cond (.tmp 22) Code.skip (.exit 0)) (.seq (.block 1 (.seq (.region 7 (reg Try.f33 7) false) (.seq (.seq (.region 8 (reg Try.f33 8) false) (.cond (.tmp 34) (.seq (.region 9 (reg Try.f33 9) false) Code.ret) Code.skip)) (.seq (.region 10 (reg Try.f33 10) false) (.region 11 (reg Try.f33 11) false))))) (.region 12 (reg Try.f33 12) false))))
noncomputable def zy.code:Code:=(.seq (.region 0 (reg Try.f33 0) false) (.seq (.seq (.region 1 (reg Try.f33 1) false) (.cond (.tmp 17) (.seq (.region 2 (reg Try.f33 2) false) Code.ret) Code.skip)) (.seq (.region 3 (reg Try.f33 3) false) (.seq (.region 4 (reg Try.f33 4) false) (.seq (.seq (.region 5 (reg Try.f33 5) false) (.block 0 (.loop zy.jE))) (.seq (.region 13 (reg Try.f33 13) false) Code.ret))))))
theorem zy.body:Try.f33.body=some zy.code:=by kernel_rfl
theorem zy.eta {T:List Value} (h:T.length=45):T=[T.getD 0 zh,T.getD 1 zh,T.getD 2 zh,T.getD 3 zh,T.getD 4 zh,T.getD 5 zh,T.getD 6 zh,T.getD 7 zh,T.getD 8 zh,T.getD 9 zh,T.getD 10 zh,T.getD 11 zh,T.getD 12 zh,T.getD 13 zh,T.getD 14 zh,T.getD 15 zh,T.getD 16 zh,T.getD 17 zh,T.getD 18 zh,T.getD 19 zh,T.getD 20 zh,T.getD 21 zh,T.getD 22 zh,T.getD 23 zh,T.getD 24 zh,T.getD 25 zh,T.getD 26 zh,T.getD 27 zh,T.getD 28 zh,T.getD 29 zh,T.getD 30 zh,T.getD 31 zh,T.getD 32 zh,T.getD 33 zh,T.getD 34 zh,T.getD 35 zh,T.getD 36 zh,T.getD 37 zh,T.getD 38 zh,T.getD 39 zh,T.getD 40 zh,T.getD 41 zh,T.getD 42 zh,T.getD 43 zh,T.getD 44 zh]:=(qG T 45 h).trans (by kernel_rfl)
variable (P N V W X Y Z Q R U b a f g i k l m n o c d p q r s t u w x y z A B C D E F G H I J K L M:Value) (S:zx)
theorem zy.r0 :jq zi ⟨false,false,false⟩ (zU zi O) (reg Try.f33 0) (reg Try.f33 0).toList ([P,N,V,W,X,Y,Z,Q,R,U,b,a,f,g,i,k,l,m,n,o,c,d,p,q,r,s,t,u,w,x,y,z,A,B,C,D,E,F,G,H,I,J,K,L,M]) S =
  ( some ([P,N,V,W,Value.slice none 0 0,Value.slice none 0 0,.int .i64 0,Q,R,U,b,a,f,g,i,k,l,m,n,o,c,d,p,q,r,s,t,u,w,x,y,z,A,B,C,D,E,F,G,H,I,J,K,L,M],S)):=by
 kernel_rfl
theorem zy.r1 :jq zi ⟨false,false,false⟩ (zU zi O) (reg Try.f33 1) (reg Try.f33 1).toList ([P,N,V,W,X,Y,Z,Q,R,U,b,a,f,g,i,k,l,m,n,o,c,d,p,q,r,s,t,u,w,x,y,z,A,B,C,D,E,F,G,H,I,J,K,L,M]) S =
  (zO (wJ zi BinOp.lss 3 (dem N) (.int .i64 0) S) (fun v1 S1=>gdK (dem v1) false (ret N) S1 (fun v3 S2=>gdK (dem v1) false (wJ zi BinOp.gtr 3 (dem v3) (.int .i64 64)) S2 (fun v4 S3=>zO (qh (dem v1) (Value.bool true) v4 S3) (fun v5 S4=>some ([P,N,V,W,X,Y,Z,Q,R,U,b,a,dem N,v1,dem v1,dem v3,v4,v5,n,o,c,d,p,q,r,s,t,u,w,x,y,z,A,B,C,D,E,F,G,H,I,J,K,L,M],S4)) ()) ()) ()) ()):=by
 refine sP Try.f33 1 0 (v:=N) ?_
 refine sD Try.f33 1 1 (fun v1 S1=>?_)
 refine sP Try.f33 1 2 (v:=v1) ?_
 refine sG Try.f33 1 3 (j:=2) (fun v3 S2=>?_)
 refine sG Try.f33 1 4 (j:=2) (fun v4 S3=>?_)
 refine sD Try.f33 1 5 (fun v5 S4=>?_)
 kernel_rfl
theorem zy.r2 :jq zi ⟨false,false,false⟩ (zU zi O) (reg Try.f33 2) (reg Try.f33 2).toList ([P,N,V,W,X,Y,Z,Q,R,U,b,a,f,g,i,k,l,m,n,o,c,d,p,q,r,s,t,u,w,x,y,z,A,B,C,D,E,F,G,H,I,J,K,L,M]) S =
  ( some ([P,N,V,W,Value.slice none 0 0,Value.slice none 0 0,.int .i64 11,Q,R,U,b,a,f,g,i,k,l,m,n,o,c,d,p,q,r,s,t,u,w,x,y,z,A,B,C,D,E,F,G,H,I,J,K,L,M],S)):=by
 kernel_rfl
theorem zy.r3 :jq zi ⟨false,false,false⟩ (zU zi O) (reg Try.f33 3) (reg Try.f33 3).toList ([P,N,V,W,X,Y,Z,Q,R,U,b,a,f,g,i,k,l,m,n,o,c,d,p,q,r,s,t,u,w,x,y,z,A,B,C,D,E,F,G,H,I,J,K,L,M]) S =
  (zO ((zU zi O) 43 [(dem (dem P))] S) (fun v1 S1=>some ([P,N,V,W,X,Y,Z,v1,R,U,b,a,f,g,i,k,l,m,dem P,dem v1,c,d,p,q,r,s,t,u,w,x,y,z,A,B,C,D,E,F,G,H,I,J,K,L,M],S1)) ()):=by
 kernel_rfl
theorem zy.r4 :jq zi ⟨false,false,false⟩ (zU zi O) (reg Try.f33 4) (reg Try.f33 4).toList ([P,N,V,W,X,Y,Z,Q,R,U,b,a,f,g,i,k,l,m,n,o,c,d,p,q,r,s,t,u,w,x,y,z,A,B,C,D,E,F,G,H,I,J,K,L,M]) S =
  ( some ([P,N,V,W,X,Y,Z,Q,Value.slice none 0 0,U,b,a,f,g,i,k,l,m,n,o,c,d,p,q,r,s,t,u,w,x,y,z,A,B,C,D,E,F,G,H,I,J,K,L,M],S)):=by
 kernel_rfl
theorem zy.r5 :jq zi ⟨false,false,false⟩ (zU zi O) (reg Try.f33 5) (reg Try.f33 5).toList ([P,N,V,W,X,Y,Z,Q,R,U,b,a,f,g,i,k,l,m,n,o,c,d,p,q,r,s,t,u,w,x,y,z,A,B,C,D,E,F,G,H,I,J,K,L,M]) S =
  ( some ([P,N,V,W,X,Y,Z,Q,R,U,b,a,f,g,i,k,l,m,n,o,dem N,.int .i64 0,p,q,r,s,t,u,w,x,y,z,A,B,C,D,E,F,G,H,I,J,K,L,M],S)):=by
 kernel_rfl
theorem zy.r6 :jq zi ⟨false,false,false⟩ (zU zi O) (reg Try.f33 6) (reg Try.f33 6).toList ([P,N,V,W,X,Y,Z,Q,R,U,b,a,f,g,i,k,l,m,n,o,c,d,p,q,r,s,t,u,w,x,y,z,A,B,C,D,E,F,G,H,I,J,K,L,M]) S =
  (zO (wJ zi BinOp.lss 3 d c S) (fun v0 S1=>some ([P,N,V,W,X,Y,Z,Q,R,U,b,a,f,g,i,k,l,m,n,o,c,d,v0,q,r,s,t,u,w,x,y,z,A,B,C,D,E,F,G,H,I,J,K,L,M],S1)) ()):=by
 kernel_rfl
theorem zy.r7 :jq zi ⟨false,false,false⟩ (zU zi O) (reg Try.f33 7) (reg Try.f33 7).toList ([P,N,V,W,X,Y,Z,Q,R,U,b,a,f,g,i,k,l,m,n,o,c,d,p,q,r,s,t,u,w,x,y,z,A,B,C,D,E,F,G,H,I,J,K,L,M]) S =
  (zO ((zU zi O) 44 [(dem (dem Q))] S) (fun v1 S1=>zO (zF v1 0 S1) (fun v3 S2=>zO (zF (zM 0 v1) 1 S2) (fun v4 S3=>zO (zF (zM 1 (zM 0 v1)) 2 S3) (fun v5 S4=>some ([P,N,V,W,X,Y,Z,Q,R,v3,v4,v5,f,g,i,k,l,m,n,o,c,d,p,zM 2 (zM 1 (zM 0 v1)),dem Q,dem v1,dem v3,dem v4,dem v5,x,y,z,A,B,C,D,E,F,G,H,I,J,K,L,M],S4)) ()) ()) ()) ()):=by
 kernel_rfl
theorem zy.r8 :jq zi ⟨false,false,false⟩ (zU zi O) (reg Try.f33 8) (reg Try.f33 8).toList ([P,N,V,W,X,Y,Z,Q,R,U,b,a,f,g,i,k,l,m,n,o,c,d,p,q,r,s,t,u,w,x,y,z,A,B,C,D,E,F,G,H,I,J,K,L,M]) S =
  (zO (wJ zi BinOp.neq 34 (dem a) (.int .i64 0) S) (fun v1 S1=>gdK (dem v1) false (ret U) S1 (fun v3 S2=>gdK (dem v1) false (wJ zi BinOp.gtr 68 (dem v3) (Value.int IntKind.u64 4611686018427387905)) S2 (fun v4 S3=>zO (qh (dem v1) (Value.bool true) v4 S3) (fun v5 S4=>some ([P,N,V,W,X,Y,Z,Q,R,U,b,a,f,g,i,k,l,m,n,o,c,d,p,q,r,s,t,u,w,dem a,v1,dem v1,dem v3,v4,v5,D,E,F,G,H,I,J,K,L,M],S4)) ()) ()) ()) ()):=by
 refine sP Try.f33 8 0 (v:=a) ?_
 refine sD Try.f33 8 1 (fun v1 S1=>?_)
 refine sP Try.f33 8 2 (v:=v1) ?_
 refine sG Try.f33 8 3 (j:=2) (fun v3 S2=>?_)
 refine sG Try.f33 8 4 (j:=2) (fun v4 S3=>?_)
 refine sD Try.f33 8 5 (fun v5 S4=>?_)
 kernel_rfl
theorem zy.r9 :jq zi ⟨false,false,false⟩ (zU zi O) (reg Try.f33 9) (reg Try.f33 9).toList ([P,N,V,W,X,Y,Z,Q,R,U,b,a,f,g,i,k,l,m,n,o,c,d,p,q,r,s,t,u,w,x,y,z,A,B,C,D,E,F,G,H,I,J,K,L,M]) S =
  ( some ([P,N,V,W,Value.slice none 0 0,Value.slice none 0 0,.int .i64 11,Q,R,U,b,a,f,g,i,k,l,m,n,o,c,d,p,q,r,s,t,u,w,x,y,z,A,B,C,D,E,F,G,H,I,J,K,L,M],S)):=by
 kernel_rfl
theorem zy.r10 :jq zi ⟨false,false,false⟩ (zU zi O) (reg Try.f33 10) (reg Try.f33 10).toList ([P,N,V,W,X,Y,Z,Q,R,U,b,a,f,g,i,k,l,m,n,o,c,d,p,q,r,s,t,u,w,x,y,z,A,B,C,D,E,F,G,H,I,J,K,L,M]) S =
  (zO (yQ zi false false 68 3 (dem U) S) (fun v2 S1=>zO (wJ zi BinOp.sub 3 v2 (.int .i64 1) S1) (fun v3 S2=>zO (jl zi 53 1 [(0,v3)] S2) (fun v4 S3=>zO (jI zi 53 53 R v4 S3) (fun v5 S4=>some ([P,N,V,W,X,Y,Z,Q,v5,U,b,a,f,g,i,k,l,m,n,o,c,d,p,q,r,s,t,u,w,x,y,z,A,B,C,dem R,dem U,v2,v3,v4,dem v5,J,K,L,M],S4)) ()) ()) ()) ()):=by
 kernel_rfl
theorem zy.r11 :jq zi ⟨false,false,false⟩ (zU zi O) (reg Try.f33 11) (reg Try.f33 11).toList ([P,N,V,W,X,Y,Z,Q,R,U,b,a,f,g,i,k,l,m,n,o,c,d,p,q,r,s,t,u,w,x,y,z,A,B,C,D,E,F,G,H,I,J,K,L,M]) S =
  ( some ([P,N,V,W,X,Y,Z,b,R,U,dem b,a,f,g,i,k,l,m,n,o,c,d,p,q,r,s,t,u,w,x,y,z,A,B,C,D,E,F,G,H,I,dem b,K,L,M],S)):=by
 kernel_rfl
theorem zy.r12 :jq zi ⟨false,false,false⟩ (zU zi O) (reg Try.f33 12) (reg Try.f33 12).toList ([P,N,V,W,X,Y,Z,Q,R,U,b,a,f,g,i,k,l,m,n,o,c,d,p,q,r,s,t,u,w,x,y,z,A,B,C,D,E,F,G,H,I,J,K,L,M]) S =
  (zO (wJ zi BinOp.add 3 d (.int .i64 1) S) (fun v0 S1=>some ([P,N,V,W,X,Y,Z,Q,R,U,b,a,f,g,i,k,l,m,n,o,c,dem v0,p,q,r,s,t,u,w,x,y,z,A,B,C,D,E,F,G,H,I,J,v0,L,M],S1)) ()):=by
 kernel_rfl
theorem zy.r13 :jq zi ⟨false,false,false⟩ (zU zi O) (reg Try.f33 13) (reg Try.f33 13).toList ([P,N,V,W,X,Y,Z,Q,R,U,b,a,f,g,i,k,l,m,n,o,c,d,p,q,r,s,t,u,w,x,y,z,A,B,C,D,E,F,G,H,I,J,K,L,M]) S =
  ( some ([P,N,V,W,R,Q,.int .i64 0,dem Q,dem R,U,b,a,f,g,i,k,l,m,n,o,c,d,p,q,r,s,t,u,w,x,y,z,A,B,C,D,E,F,G,H,I,J,K,dem R,dem Q],S)):=by
 kernel_rfl
theorem zy.rs:type_of% (agH @zy.r0 (agH @zy.r1 (agH @zy.r2 (agH @zy.r3 (agH @zy.r4 (agH @zy.r5 (agH @zy.r6 (agH @zy.r7 (agH @zy.r8 (agH @zy.r9 (agH @zy.r10 (agH @zy.r11 (agH @zy.r12 (@zy.r13)))))))))))))):=agH @zy.r0 (agH @zy.r1 (agH @zy.r2 (agH @zy.r3 (agH @zy.r4 (agH @zy.r5 (agH @zy.r6 (agH @zy.r7 (agH @zy.r8 (agH @zy.r9 (agH @zy.r10 (agH @zy.r11 (agH @zy.r12 (@zy.r13)))))))))))))
theorem zy.runs {P N:Value} {S S1:zx} {e:AEx} {T:List Value} (h:zI zi O false zy.code ([P,N,zh,zh,zh,zh,zh,zh,zh,zh,zh,zh,zh,zh,zh,zh,zh,zh,zh,zh,zh,zh,zh,zh,zh,zh,zh,zh,zh,zh,zh,zh,zh,zh,zh,zh,zh,zh,zh,zh,zh,zh,zh,zh,zh]) S=some (e,T,S1)) (he:e=.normal∨e=.ret)  (h0:jB (T.getD 4 zh)=true) (h1:jB (T.getD 5 zh)=true) (h2:jB (T.getD 6 zh)=true):zU zi O 33 [P,N] S=some (Value.tuple #[T.getD 4 zh,T.getD 5 zh,T.getD 6 zh],S1) :=
 y7 rfl rfl Try.func33 (by decide) zy.body (by exact h) he ((yG ((show zN zi T S1 Try.f33.results.toList=zN zi T S1 [(ResultVar.tmp 4),(ResultVar.tmp 5),(ResultVar.tmp 6)] from by kernel_rfl).trans (by simp only [zN])) (by kernel_rfl) (by simp only [List.all_cons,List.all_nil,h0,h1,h2,Bool.and_true])).trans rfl)
end Go.Proofs.Ytgggklfbhmlapaa
namespace Go.Proofs.Ytgggklfbhmlapaa
open Go.Abs
abbrev zD.id:FuncId:=28
noncomputable def zD.jE:Code:=(.seq (.region 5 (reg Try.f28 5) false) (.seq (.cond (.tmp 13) Code.skip (.exit 0)) (.seq (.block 1 (.seq (.region 6 (reg Try.f28 6) false) (.seq (.seq (.region 7 (reg Try.f28 7) false) (.cond (.tmp 17) (.seq (.region 8 (reg Try.f28 8) false) Code.ret) Code.skip)) (.region 9 (reg Try.f28 9) false)))) (.region 10 (reg Try.f28 10) false))))
noncomputable def zD.code:Code:=(.seq (.region 0 (reg Try.f28 0) false) (.seq (.seq (.region 1 (reg Try.f28 1) false) (.cond (.tmp 9) (.seq (.region 2 (reg Try.f28 2) false) Code.ret) Code.skip)) (.seq (.region 3 (reg Try.f28 3) false) (.seq (.seq (.region 4 (reg Try.f28 4) false) (.block 0 (.loop zD.jE))) (.seq (.region 11 (reg Try.f28 11) false) Code.ret)))))
theorem zD.body:Try.f28.body=some zD.code:=by kernel_rfl
theorem zD.eta {T:List Value} (h:T.length=26):T=[T.getD 0 zh,T.getD 1 zh,T.getD 2 zh,T.getD 3 zh,T.getD 4 zh,T.getD 5 zh,T.getD 6 zh,T.getD 7 zh,T.getD 8 zh,T.getD 9 zh,T.getD 10 zh,T.getD 11 zh,T.getD 12 zh,T.getD 13 zh,T.getD 14 zh,T.getD 15 zh,T.getD 16 zh,T.getD 17 zh,T.getD 18 zh,T.getD 19 zh,T.getD 20 zh,T.getD 21 zh,T.getD 22 zh,T.getD 23 zh,T.getD 24 zh,T.getD 25 zh]:=(qG T 26 h).trans (by kernel_rfl)
variable (s v A B u w t x y z b c a d f g i j k l m n o p q r:Value) (S:zx)
theorem zD.r0 :jq zi ⟨false,false,false⟩ (zU zi O) (reg Try.f28 0) (reg Try.f28 0).toList ([s,v,A,B,u,w,t,x,y,z,b,c,a,d,f,g,i,j,k,l,m,n,o,p,q,r]) S =
  ( some ([s,v,Value.slice none 0 0,.int .i64 0,u,w,t,x,y,z,b,c,a,d,f,g,i,j,k,l,m,n,o,p,q,r],S)):=by
 kernel_rfl
theorem zD.r1 :jq zi ⟨false,false,false⟩ (zU zi O) (reg Try.f28 1) (reg Try.f28 1).toList ([s,v,A,B,u,w,t,x,y,z,b,c,a,d,f,g,i,j,k,l,m,n,o,p,q,r]) S =
  (zO (JI zi 53 (dem s) S) (fun D C=>zO (wJ zi BinOp.gtr 3 D (.int .i64 64) C) (fun G F=>some ([s,v,A,B,u,w,t,dem s,D,G,b,c,a,d,f,g,i,j,k,l,m,n,o,p,q,r],F)) ()) ()):=by
 kernel_rfl
theorem zD.r2 :jq zi ⟨false,false,false⟩ (zU zi O) (reg Try.f28 2) (reg Try.f28 2).toList ([s,v,A,B,u,w,t,x,y,z,b,c,a,d,f,g,i,j,k,l,m,n,o,p,q,r]) S =
  ( some ([s,v,Value.slice none 0 0,.int .i64 11,u,w,t,x,y,z,b,c,a,d,f,g,i,j,k,l,m,n,o,p,q,r],S)):=by
 kernel_rfl
theorem zD.r3 :jq zi ⟨false,false,false⟩ (zU zi O) (reg Try.f28 3) (reg Try.f28 3).toList ([s,v,A,B,u,w,t,x,y,z,b,c,a,d,f,g,i,j,k,l,m,n,o,p,q,r]) S =
  ( some ([s,v,A,B,Value.slice none 0 0,w,t,x,y,z,b,c,a,d,f,g,i,j,k,l,m,n,o,p,q,r],S)):=by
 kernel_rfl
theorem zD.r4 :jq zi ⟨false,false,false⟩ (zU zi O) (reg Try.f28 4) (reg Try.f28 4).toList ([s,v,A,B,u,w,t,x,y,z,b,c,a,d,f,g,i,j,k,l,m,n,o,p,q,r]) S =
  (zO (JI zi 53 (dem s) S) (fun D C=>some ([s,v,A,B,u,w,t,x,y,z,dem s,D,.int .i64 0,d,f,g,i,j,k,l,m,n,o,p,q,r],C)) ()):=by
 kernel_rfl
theorem zD.r5 :jq zi ⟨false,false,false⟩ (zU zi O) (reg Try.f28 5) (reg Try.f28 5).toList ([s,v,A,B,u,w,t,x,y,z,b,c,a,d,f,g,i,j,k,l,m,n,o,p,q,r]) S =
  (zO (wJ zi BinOp.lss 3 a c S) (fun E C=>some ([s,v,A,B,u,w,t,x,y,z,b,c,a,E,f,g,i,j,k,l,m,n,o,p,q,r],C)) ()):=by
 kernel_rfl
theorem zD.r6 :jq zi ⟨false,false,false⟩ (zU zi O) (reg Try.f28 6) (reg Try.f28 6).toList ([s,v,A,B,u,w,t,x,y,z,b,c,a,d,f,g,i,j,k,l,m,n,o,p,q,r]) S =
  (zO (jg zi 53 b a S) (fun E C=>zO (jk zi false 3 E C) (fun D F=>some ([s,v,A,B,u,w,D,x,y,z,b,c,a,d,E,dem D,i,j,k,l,m,n,o,p,q,r],F)) ()) ()):=by
 kernel_rfl
theorem zD.r7 :jq zi ⟨false,false,false⟩ (zU zi O) (reg Try.f28 7) (reg Try.f28 7).toList ([s,v,A,B,u,w,t,x,y,z,b,c,a,d,f,g,i,j,k,l,m,n,o,p,q,r]) S =
  (zO (wJ zi BinOp.lss 3 (dem t) (.int .i64 (-1)) S) (fun D C=>some ([s,v,A,B,u,w,t,x,y,z,b,c,a,d,f,g,dem t,D,k,l,m,n,o,p,q,r],C)) ()):=by
 kernel_rfl
theorem zD.r8 :jq zi ⟨false,false,false⟩ (zU zi O) (reg Try.f28 8) (reg Try.f28 8).toList ([s,v,A,B,u,w,t,x,y,z,b,c,a,d,f,g,i,j,k,l,m,n,o,p,q,r]) S =
  ( some ([s,v,Value.slice none 0 0,.int .i64 11,u,w,t,x,y,z,b,c,a,d,f,g,i,j,k,l,m,n,o,p,q,r],S)):=by
 kernel_rfl
theorem zD.r9 :jq zi ⟨false,false,false⟩ (zU zi O) (reg Try.f28 9) (reg Try.f28 9).toList ([s,v,A,B,u,w,t,x,y,z,b,c,a,d,f,g,i,j,k,l,m,n,o,p,q,r]) S =
  (zO (yQ zi false false 3 68 (dem t) S) (fun G C=>zO (wJ zi BinOp.add 68 G (Value.int IntKind.u64 1) C) (fun H F=>zO ((zU zi O) 40 [(dem H)] F) (fun I K=>zO (jI zi 33 33 u I K) (fun J L=>some ([s,v,A,B,J,w,t,x,y,z,b,c,a,d,f,g,i,j,dem u,dem t,G,H,I,dem J,q,r],L)) ()) ()) ()) ()):=by
 kernel_rfl
theorem zD.r10 :jq zi ⟨false,false,false⟩ (zU zi O) (reg Try.f28 10) (reg Try.f28 10).toList ([s,v,A,B,u,w,t,x,y,z,b,c,a,d,f,g,i,j,k,l,m,n,o,p,q,r]) S =
  (zO (wJ zi BinOp.add 3 a (.int .i64 1) S) (fun E C=>some ([s,v,A,B,u,w,t,x,y,z,b,c,dem E,d,f,g,i,j,k,l,m,n,o,p,E,r],C)) ()):=by
 kernel_rfl
theorem zD.r11 :jq zi ⟨false,false,false⟩ (zU zi O) (reg Try.f28 11) (reg Try.f28 11).toList ([s,v,A,B,u,w,t,x,y,z,b,c,a,d,f,g,i,j,k,l,m,n,o,p,q,r]) S =
  ( some ([s,v,u,.int .i64 0,dem u,w,t,x,y,z,b,c,a,d,f,g,i,j,k,l,m,n,o,p,q,dem u],S)):=by
 kernel_rfl
theorem zD.rs:type_of% (agH @zD.r0 (agH @zD.r1 (agH @zD.r2 (agH @zD.r3 (agH @zD.r4 (agH @zD.r5 (agH @zD.r6 (agH @zD.r7 (agH @zD.r8 (agH @zD.r9 (agH @zD.r10 (@zD.r11)))))))))))):=agH @zD.r0 (agH @zD.r1 (agH @zD.r2 (agH @zD.r3 (agH @zD.r4 (agH @zD.r5 (agH @zD.r6 (agH @zD.r7 (agH @zD.r8 (agH @zD.r9 (agH @zD.r10 (@zD.r11)))))))))))
theorem zD.runs {s:Value} {S C:zx} {e:AEx} {T:List Value} (h:zI zi O false zD.code ([s,zh,zh,zh,zh,zh,zh,zh,zh,zh,zh,zh,zh,zh,zh,zh,zh,zh,zh,zh,zh,zh,zh,zh,zh,zh]) S=some (e,T,C)) (he:e=.normal∨e=.ret)  (h0:jB (T.getD 2 zh)=true) (h1:jB (T.getD 3 zh)=true):zU zi O 28 [s] S=some (Value.tuple #[T.getD 2 zh,T.getD 3 zh],C) :=
 y7 rfl rfl Try.func28 (by decide) zD.body (by exact h) he ((yG ((show zN zi T C Try.f28.results.toList=zN zi T C [(ResultVar.tmp 2),(ResultVar.tmp 3)] from by kernel_rfl).trans (by simp only [zN])) (by kernel_rfl) (by simp only [List.all_cons,List.all_nil,h0,h1,Bool.and_true])).trans rfl)
end Go.Proofs.Ytgggklfbhmlapaa
namespace Go.Proofs.Ytgggklfbhmlapaa
open Go.Abs
abbrev slices_Clone.id:FuncId:=43
noncomputable def slices_Clone.code:Code:=(.seq (.region 0 (reg Try.f43 0) false) (.seq (.seq (.region 1 (reg Try.f43 1) false) (.cond (.tmp 4) (.seq (.region 2 (reg Try.f43 2) false) Code.ret) Code.skip)) (.seq (.region 3 (reg Try.f43 3) false) Code.ret)))
theorem slices_Clone.body:Try.f43.body=some slices_Clone.code:=by kernel_rfl
variable (b c l f g i j k:Value) (S:zx)
theorem slices_Clone.r0 :jq zi ⟨false,false,false⟩ (zU zi O) (reg Try.f43 0) (reg Try.f43 0).toList ([b,c,l,f,g,i,j,k]) S =
  ( some ([b,c,Value.slice none 0 0,f,g,i,j,k],S)):=by
 kernel_rfl
theorem slices_Clone.r1 :jq zi ⟨false,false,false⟩ (zU zi O) (reg Try.f43 1) (reg Try.f43 1).toList ([b,c,l,f,g,i,j,k]) S =
  (zO (wJ zi BinOp.eql 33 (dem b) (Value.slice none 0 0) S) (fun o d=>some ([b,c,l,dem b,o,i,j,k],d)) ()):=by
 kernel_rfl
theorem slices_Clone.r2 :jq zi ⟨false,false,false⟩ (zU zi O) (reg Try.f43 2) (reg Try.f43 2).toList ([b,c,l,f,g,i,j,k]) S =
  ( some ([b,c,Value.slice none 0 0,f,g,i,j,k],S)):=by
 kernel_rfl
theorem slices_Clone.r3 :jq zi ⟨false,false,false⟩ (zU zi O) (reg Try.f43 3) (reg Try.f43 3).toList ([b,c,l,f,g,i,j,k]) S =
  (zO (jl zi 33 0 [] S) (fun m d=>zO (jI zi 33 33 m (dem b) d) (fun n p=>some ([b,c,n,f,g,dem m,dem b,dem n],p)) ()) ()):=by
 kernel_rfl
theorem slices_Clone.runs {b:Value} {S d:zx} {e:AEx} {T:List Value} (h:zI zi O false slices_Clone.code ([b,zh,zh,zh,zh,zh,zh,zh]) S=some (e,T,d)) (he:e=.normal∨e=.ret):zU zi O 43 [b] S=some (T.getD 2 zh,d) :=
 y7 rfl rfl Try.func43 (by decide) slices_Clone.body (by exact h) he (qp (a:=T.getD 2 zh) ((show zN zi T d Try.f43.results.toList=zN zi T d [(ResultVar.tmp 2)] from by kernel_rfl).trans (by simp only [zN])) (by kernel_rfl))
end Go.Proofs.Ytgggklfbhmlapaa
namespace Go.Proofs.Ytgggklfbhmlapaa
open Go.Abs
abbrev zB.id:FuncId:=44
noncomputable def zB.jE:Code:=(.seq (.region 3 (reg Try.f44 3) false) (.seq (.cond (.tmp 11) Code.skip (.exit 0)) (.seq (.block 1 (.seq (.region 4 (reg Try.f44 4) false) (.seq (.seq (.region 5 (reg Try.f44 5) false) (.cond (.tmp 28) (.exit 0) Code.skip)) (.seq (.region 6 (reg Try.f44 6) false) (.seq (.region 7 (reg Try.f44 7) false) (.cond (.tmp 38) (.seq (.region 8 (reg Try.f44 8) false) Code.ret) Code.skip)))))) (.region 9 (reg Try.f44 9) false))))
noncomputable def zB.code:Code:=(.seq (.region 0 (reg Try.f44 0) false) (.seq (.region 1 (reg Try.f44 1) false) (.seq (.seq (.region 2 (reg Try.f44 2) false) (.block 0 (.loop zB.jE))) (.seq (.region 10 (reg Try.f44 10) false) Code.ret))))
theorem zB.body:Try.f44.body=some zB.code:=by kernel_rfl
theorem zB.eta {T:List Value} (h:T.length=46):T=[T.getD 0 zh,T.getD 1 zh,T.getD 2 zh,T.getD 3 zh,T.getD 4 zh,T.getD 5 zh,T.getD 6 zh,T.getD 7 zh,T.getD 8 zh,T.getD 9 zh,T.getD 10 zh,T.getD 11 zh,T.getD 12 zh,T.getD 13 zh,T.getD 14 zh,T.getD 15 zh,T.getD 16 zh,T.getD 17 zh,T.getD 18 zh,T.getD 19 zh,T.getD 20 zh,T.getD 21 zh,T.getD 22 zh,T.getD 23 zh,T.getD 24 zh,T.getD 25 zh,T.getD 26 zh,T.getD 27 zh,T.getD 28 zh,T.getD 29 zh,T.getD 30 zh,T.getD 31 zh,T.getD 32 zh,T.getD 33 zh,T.getD 34 zh,T.getD 35 zh,T.getD 36 zh,T.getD 37 zh,T.getD 38 zh,T.getD 39 zh,T.getD 40 zh,T.getD 41 zh,T.getD 42 zh,T.getD 43 zh,T.getD 44 zh,T.getD 45 zh]:=(qG T 46 h).trans (by kernel_rfl)
theorem zB.list {T:List Value} (h:T.length=46):∃ P V Y Z x4 U Q R W X a b c d f g i k l m n o p q r s t u w x y z A B C D E F G H I J K L M N,T=[P,V,Y,Z,x4,U,Q,R,W,X,a,b,c,d,f,g,i,k,l,m,n,o,p,q,r,s,t,u,w,x,y,z,A,B,C,D,E,F,G,H,I,J,K,L,M,N]:=⟨_,_,_,_,_,_,_,_,_,_,_,_,_,_,_,_,_,_,_,_,_,_,_,_,_,_,_,_,_,_,_,_,_,_,_,_,_,_,_,_,_,_,_,_,_,_,zB.eta h⟩
variable (P V Y Z x4 U Q R W X a b c d f g i k l m n o p q r s t u w x y z A B C D E F G H I J K L M N:Value) (S:zx)
theorem zB.r0 :jq zi ⟨false,false,false⟩ (zU zi O) (reg Try.f44 0) (reg Try.f44 0).toList ([P,V,Y,Z,x4,U,Q,R,W,X,a,b,c,d,f,g,i,k,l,m,n,o,p,q,r,s,t,u,w,x,y,z,A,B,C,D,E,F,G,H,I,J,K,L,M,N]) S =
  ( some ([P,V,Value.int IntKind.u64 0,Value.slice none 0 0,.int .i64 0,U,Q,R,W,X,a,b,c,d,f,g,i,k,l,m,n,o,p,q,r,s,t,u,w,x,y,z,A,B,C,D,E,F,G,H,I,J,K,L,M,N],S)):=by
 kernel_rfl
theorem zB.r1 :jq zi ⟨false,false,false⟩ (zU zi O) (reg Try.f44 1) (reg Try.f44 1).toList ([P,V,Y,Z,x4,U,Q,R,W,X,a,b,c,d,f,g,i,k,l,m,n,o,p,q,r,s,t,u,w,x,y,z,A,B,C,D,E,F,G,H,I,J,K,L,M,N]) S =
  ( some ([P,V,Y,Z,x4,Value.int IntKind.u64 0,Q,R,W,X,a,b,c,d,f,g,i,k,l,m,n,o,p,q,r,s,t,u,w,x,y,z,A,B,C,D,E,F,G,H,I,J,K,L,M,N],S)):=by
 kernel_rfl
theorem zB.r2 :jq zi ⟨false,false,false⟩ (zU zi O) (reg Try.f44 2) (reg Try.f44 2).toList ([P,V,Y,Z,x4,U,Q,R,W,X,a,b,c,d,f,g,i,k,l,m,n,o,p,q,r,s,t,u,w,x,y,z,A,B,C,D,E,F,G,H,I,J,K,L,M,N]) S =
  (zO (JI zi 33 (dem P) S) (fun v1 S1=>some ([P,V,Y,Z,x4,U,Q,R,dem P,v1,.int .i64 0,b,c,d,f,g,i,k,l,m,n,o,p,q,r,s,t,u,w,x,y,z,A,B,C,D,E,F,G,H,I,J,K,L,M,N],S1)) ()):=by
 kernel_rfl
theorem zB.r3 :jq zi ⟨false,false,false⟩ (zU zi O) (reg Try.f44 3) (reg Try.f44 3).toList ([P,V,Y,Z,x4,U,Q,R,W,X,a,b,c,d,f,g,i,k,l,m,n,o,p,q,r,s,t,u,w,x,y,z,A,B,C,D,E,F,G,H,I,J,K,L,M,N]) S =
  (zO (wJ zi BinOp.lss 3 a X S) (fun v0 S1=>some ([P,V,Y,Z,x4,U,Q,R,W,X,a,v0,c,d,f,g,i,k,l,m,n,o,p,q,r,s,t,u,w,x,y,z,A,B,C,D,E,F,G,H,I,J,K,L,M,N],S1)) ()):=by
 kernel_rfl
theorem zB.r4 :jq zi ⟨false,false,false⟩ (zU zi O) (reg Try.f44 4) (reg Try.f44 4).toList ([P,V,Y,Z,x4,U,Q,R,W,X,a,b,c,d,f,g,i,k,l,m,n,o,p,q,r,s,t,u,w,x,y,z,A,B,C,D,E,F,G,H,I,J,K,L,M,N]) S =
  (zO (jg zi 33 W (dem a) S) (fun v1 S1=>zO (jk zi false 5 v1 S1) (fun v2 S2=>some ([P,V,Y,Z,x4,U,a,v2,W,X,dem a,b,dem a,v1,dem v2,g,i,k,l,m,n,o,p,q,r,s,t,u,w,x,y,z,A,B,C,D,E,F,G,H,I,J,K,L,M,N],S2)) ()) ()):=by
 kernel_rfl
theorem zB.r5 :jq zi ⟨false,false,false⟩ (zU zi O) (reg Try.f44 5) (reg Try.f44 5).toList ([P,V,Y,Z,x4,U,Q,R,W,X,a,b,c,d,f,g,i,k,l,m,n,o,p,q,r,s,t,u,w,x,y,z,A,B,C,D,E,F,G,H,I,J,K,L,M,N]) S =
  (zO (wJ zi BinOp.eql 3 (dem Q) (.int .i64 9) S) (fun v1 S1=>gdK (dem v1) true (ret R) S1 (fun v3 S2=>gdK (dem v1) true (wJ zi BinOp.gtr 5 (dem v3) (Value.int IntKind.u8 1)) S2 (fun v4 S3=>zO (qh (dem v1) v4 (Value.bool false) S3) (fun v5 S4=>gdK (dem v5) false (ret Q) S4 (fun v7 S5=>gdK (dem v5) false (wJ zi BinOp.gtr 3 (dem v7) (.int .i64 0)) S5 (fun v8 S6=>gdK (dem v5) false (ret v8) S6 (fun v9 S7=>gdK (dem v9) true (ret R) S7 (fun a0 S8=>gdK (dem v9) true (wJ zi BinOp.eql 5 (dem a0) (Value.int IntKind.u8 0)) S8 (fun a1 S9=>gdK (dem v5) false (qh (dem v9) a1 (Value.bool false)) S9 (fun a2 a3=>zO (qh (dem v5) (Value.bool true) a2 a3) (fun a4 a5=>some ([P,V,Y,Z,x4,U,Q,R,W,X,a,b,c,d,f,dem Q,v1,dem v1,dem v3,v4,v5,dem v5,dem v7,v8,dem v9,dem a0,a1,a2,a4,x,y,z,A,B,C,D,E,F,G,H,I,J,K,L,M,N],a5)) ()) ()) ()) ()) ()) ()) ()) ()) ()) ()) ()):=by
 refine sP Try.f44 5 0 (v:=Q) ?_
 refine sD Try.f44 5 1 (fun v1 S1=>?_)
 refine sP Try.f44 5 2 (v:=v1) ?_
 refine sG Try.f44 5 3 (j:=2) (fun v3 S2=>?_)
 refine sG Try.f44 5 4 (j:=2) (fun v4 S3=>?_)
 refine sD Try.f44 5 5 (fun v5 S4=>?_)
 refine sP Try.f44 5 6 (v:=v5) ?_
 refine sG Try.f44 5 7 (j:=6) (fun v7 S5=>?_)
 refine sG Try.f44 5 8 (j:=6) (fun v8 S6=>?_)
 refine sG Try.f44 5 9 (j:=6) (fun v9 S7=>?_)
 refine sG Try.f44 5 10 (j:=9) (fun a0 S8=>?_)
 refine sG Try.f44 5 11 (j:=9) (fun a1 S9=>?_)
 refine sG Try.f44 5 12 (j:=6) (fun a2 a3=>?_)
 refine sD Try.f44 5 13 (fun a4 a5=>?_)
 kernel_rfl
theorem zB.r6 :jq zi ⟨false,false,false⟩ (zU zi O) (reg Try.f44 6) (reg Try.f44 6).toList ([P,V,Y,Z,x4,U,Q,R,W,X,a,b,c,d,f,g,i,k,l,m,n,o,p,q,r,s,t,u,w,x,y,z,A,B,C,D,E,F,G,H,I,J,K,L,M,N]) S =
  (zO (wJ zi BinOp.and 5 (dem R) (Value.int IntKind.u8 127) S) (fun v2 S1=>zO (yQ zi false false 5 68 v2 S1) (fun v3 S2=>zO (wJ zi BinOp.mul 3 (.int .i64 7) (dem Q) S2) (fun v5 S3=>zO (wJ zi BinOp.shl 68 v3 v5 S3) (fun v6 S4=>zO (wJ zi BinOp.or 68 (dem U) v6 S4) (fun v7 S5=>some ([P,V,Y,Z,x4,v7,Q,R,W,X,a,b,c,d,f,g,i,k,l,m,n,o,p,q,r,s,t,u,w,dem U,dem R,v2,v3,dem Q,v5,v6,dem v7,F,G,H,I,J,K,L,M,N],S5)) ()) ()) ()) ()) ()):=by
 kernel_rfl
theorem zB.r7 :jq zi ⟨false,false,false⟩ (zU zi O) (reg Try.f44 7) (reg Try.f44 7).toList ([P,V,Y,Z,x4,U,Q,R,W,X,a,b,c,d,f,g,i,k,l,m,n,o,p,q,r,s,t,u,w,x,y,z,A,B,C,D,E,F,G,H,I,J,K,L,M,N]) S =
  (zO (wJ zi BinOp.lss 5 (dem R) (Value.int IntKind.u8 128) S) (fun v1 S1=>some ([P,V,Y,Z,x4,U,Q,R,W,X,a,b,c,d,f,g,i,k,l,m,n,o,p,q,r,s,t,u,w,x,y,z,A,B,C,D,E,dem R,v1,H,I,J,K,L,M,N],S1)) ()):=by
 kernel_rfl
theorem zB.r8 :jq zi ⟨false,false,false⟩ (zU zi O) (reg Try.f44 8) (reg Try.f44 8).toList ([P,V,Y,Z,x4,U,Q,R,W,X,a,b,c,d,f,g,i,k,l,m,n,o,p,q,r,s,t,u,w,x,y,z,A,B,C,D,E,F,G,H,I,J,K,L,M,N]) S =
  (zO (wJ zi BinOp.add 3 (dem Q) (.int .i64 1) S) (fun v3 S1=>zO (qF zi false 33 (dem P) (some v3) none S1) (fun v4 S2=>zO ((zU zi O) 43 [(dem v4)] S2) (fun v5 S3=>some ([P,V,U,v5,.int .i64 0,dem U,Q,R,W,X,a,b,c,d,f,g,i,k,l,m,n,o,p,q,r,s,t,u,w,x,y,z,A,B,C,D,E,F,G,dem U,dem P,dem Q,v3,v4,dem v5,N],S3)) ()) ()) ()):=by
 kernel_rfl
theorem zB.r9 :jq zi ⟨false,false,false⟩ (zU zi O) (reg Try.f44 9) (reg Try.f44 9).toList ([P,V,Y,Z,x4,U,Q,R,W,X,a,b,c,d,f,g,i,k,l,m,n,o,p,q,r,s,t,u,w,x,y,z,A,B,C,D,E,F,G,H,I,J,K,L,M,N]) S =
  (zO (wJ zi BinOp.add 3 a (.int .i64 1) S) (fun v0 S1=>some ([P,V,Y,Z,x4,U,Q,R,W,X,dem v0,b,c,d,f,g,i,k,l,m,n,o,p,q,r,s,t,u,w,x,y,z,A,B,C,D,E,F,G,H,I,J,K,L,M,v0],S1)) ()):=by
 kernel_rfl
theorem zB.r10 :jq zi ⟨false,false,false⟩ (zU zi O) (reg Try.f44 10) (reg Try.f44 10).toList ([P,V,Y,Z,x4,U,Q,R,W,X,a,b,c,d,f,g,i,k,l,m,n,o,p,q,r,s,t,u,w,x,y,z,A,B,C,D,E,F,G,H,I,J,K,L,M,N]) S =
  ( some ([P,V,Value.int IntKind.u64 0,Value.slice none 0 0,.int .i64 11,U,Q,R,W,X,a,b,c,d,f,g,i,k,l,m,n,o,p,q,r,s,t,u,w,x,y,z,A,B,C,D,E,F,G,H,I,J,K,L,M,N],S)):=by
 kernel_rfl
theorem zB.runs {P:Value} {S S1:zx} {e:AEx} {T:List Value} (h:zI zi O false zB.code ([P,zh,zh,zh,zh,zh,zh,zh,zh,zh,zh,zh,zh,zh,zh,zh,zh,zh,zh,zh,zh,zh,zh,zh,zh,zh,zh,zh,zh,zh,zh,zh,zh,zh,zh,zh,zh,zh,zh,zh,zh,zh,zh,zh,zh,zh]) S=some (e,T,S1)) (he:e=.normal∨e=.ret)  (h0:jB (T.getD 2 zh)=true) (h1:jB (T.getD 3 zh)=true) (h2:jB (T.getD 4 zh)=true):zU zi O 44 [P] S=some (Value.tuple #[T.getD 2 zh,T.getD 3 zh,T.getD 4 zh],S1) :=
 y7 rfl rfl Try.func44 (by decide) zB.body (by exact h) he ((yG ((show zN zi T S1 Try.f44.results.toList=zN zi T S1 [(ResultVar.tmp 2),(ResultVar.tmp 3),(ResultVar.tmp 4)] from by kernel_rfl).trans (by simp only [zN])) (by kernel_rfl) (by simp only [List.all_cons,List.all_nil,h0,h1,h2,Bool.and_true])).trans rfl)
end Go.Proofs.Ytgggklfbhmlapaa
namespace Go.Proofs.Ytgggklfbhmlapaa
open Go.Abs
abbrev jd.id:FuncId:=40
noncomputable def jd.jE:Code:=(.seq (.seq (.region 2 (reg Try.f40 2) false) (.cond (.tmp 5) Code.skip (.exit 0))) (.block 1 (.seq (.region 3 (reg Try.f40 3) false) (.region 4 (reg Try.f40 4) false))))
noncomputable def jd.code:Code:=(.seq (.region 0 (reg Try.f40 0) false) (.seq (.region 1 (reg Try.f40 1) false) (.seq (.block 0 (.loop jd.jE)) (.seq (.region 5 (reg Try.f40 5) false) Code.ret))))
theorem jd.body:Try.f40.body=some jd.code:=by kernel_rfl
theorem jd.eta {T:List Value} (h:T.length=19):T=[T.getD 0 zh,T.getD 1 zh,T.getD 2 zh,T.getD 3 zh,T.getD 4 zh,T.getD 5 zh,T.getD 6 zh,T.getD 7 zh,T.getD 8 zh,T.getD 9 zh,T.getD 10 zh,T.getD 11 zh,T.getD 12 zh,T.getD 13 zh,T.getD 14 zh,T.getD 15 zh,T.getD 16 zh,T.getD 17 zh,T.getD 18 zh]:=(qG T 19 h).trans (by kernel_rfl)
theorem jd.list {T:List Value} (h:T.length=19):∃ b o v n p q r s t u c d f g i j k l m,T=[b,o,v,n,p,q,r,s,t,u,c,d,f,g,i,j,k,l,m]:=⟨_,_,_,_,_,_,_,_,_,_,_,_,_,_,_,_,_,_,_,jd.eta h⟩
variable (b o v n p q r s t u c d f g i j k l m:Value) (S:zx)
theorem jd.r0 :jq zi ⟨false,false,false⟩ (zU zi O) (reg Try.f40 0) (reg Try.f40 0).toList ([b,o,v,n,p,q,r,s,t,u,c,d,f,g,i,j,k,l,m]) S =
  ( some ([b,o,Value.slice none 0 0,n,p,q,r,s,t,u,c,d,f,g,i,j,k,l,m],S)):=by
 kernel_rfl
theorem jd.r1 :jq zi ⟨false,false,false⟩ (zU zi O) (reg Try.f40 1) (reg Try.f40 1).toList ([b,o,v,n,p,q,r,s,t,u,c,d,f,g,i,j,k,l,m]) S =
  ( some ([b,o,v,Value.slice none 0 0,p,q,r,s,t,u,c,d,f,g,i,j,k,l,m],S)):=by
 kernel_rfl
theorem jd.r2 :jq zi ⟨false,false,false⟩ (zU zi O) (reg Try.f40 2) (reg Try.f40 2).toList ([b,o,v,n,p,q,r,s,t,u,c,d,f,g,i,j,k,l,m]) S =
  (zO (wJ zi BinOp.geq 68 (dem b) (Value.int IntKind.u64 128) S) (fun A w=>some ([b,o,v,n,dem b,A,r,s,t,u,c,d,f,g,i,j,k,l,m],w)) ()):=by
 kernel_rfl
theorem jd.r3 :jq zi ⟨false,false,false⟩ (zU zi O) (reg Try.f40 3) (reg Try.f40 3).toList ([b,o,v,n,p,q,r,s,t,u,c,d,f,g,i,j,k,l,m]) S =
  (zO (yQ zi false false 68 5 (dem b) S) (fun x w=>zO (wJ zi BinOp.or 5 x (Value.int IntKind.u8 128) w) (fun y B=>zO (jl zi 33 1 [(0,y)] B) (fun z C=>zO (jI zi 33 33 n z C) (fun D E=>some ([b,o,v,D,p,q,dem n,dem b,x,y,z,dem D,f,g,i,j,k,l,m],E)) ()) ()) ()) ()):=by
 kernel_rfl
theorem jd.r4 :jq zi ⟨false,false,false⟩ (zU zi O) (reg Try.f40 4) (reg Try.f40 4).toList ([b,o,v,n,p,q,r,s,t,u,c,d,f,g,i,j,k,l,m]) S =
  (zO (wJ zi BinOp.shr 68 (dem b) (Value.int IntKind.u64 7) S) (fun A w=>some ([A,o,v,n,p,q,r,s,t,u,c,d,dem b,dem A,i,j,k,l,m],w)) ()):=by
 kernel_rfl
theorem jd.r5 :jq zi ⟨false,false,false⟩ (zU zi O) (reg Try.f40 5) (reg Try.f40 5).toList ([b,o,v,n,p,q,r,s,t,u,c,d,f,g,i,j,k,l,m]) S =
  (zO (yQ zi false false 68 5 (dem b) S) (fun x w=>zO (jl zi 33 1 [(0,x)] w) (fun y B=>zO (jI zi 33 33 n y B) (fun z C=>some ([b,o,z,dem n,p,q,r,s,t,u,c,d,f,g,dem n,dem b,x,y,dem z],C)) ()) ()) ()):=by
 kernel_rfl
theorem jd.runs {b:Value} {S w:zx} {e:AEx} {T:List Value} (h:zI zi O false jd.code ([b,zh,zh,zh,zh,zh,zh,zh,zh,zh,zh,zh,zh,zh,zh,zh,zh,zh,zh]) S=some (e,T,w)) (he:e=.normal∨e=.ret):zU zi O 40 [b] S=some (T.getD 2 zh,w) :=
 y7 rfl rfl Try.func40 (by decide) jd.body (by exact h) he (qp (a:=T.getD 2 zh) ((show zN zi T w Try.f40.results.toList=zN zi T w [(ResultVar.tmp 2)] from by kernel_rfl).trans (by simp only [zN])) (by kernel_rfl))
end Go.Proofs.Ytgggklfbhmlapaa
namespace Go.Proofs.Ytgggklfbhmlapaa
open Go.Abs
def enc (n:Nat):List UInt8:=if n < 128 then [UInt8.ofNat n] else UInt8.ofNat (n % 128+128)::enc (n / 128)
termination_by n
decreasing_by omega
theorem kD {n:Nat} (h:n < 128):enc n=[UInt8.ofNat n]:=by rw [enc,if_pos h]
theorem JW {n:Nat} (h:¬ n < 128):enc n=UInt8.ofNat (n % 128+128)::enc (n / 128):=by rw [enc,if_neg h]
theorem wrap_u8 (n:Nat):IntKind.u8.wrap (n:Int)=((n % 256:Nat):Int):=by
 simp [IntKind.wrap,IntKind.bits,IntKind.signed]
theorem wrap_u64 (n:Nat):IntKind.u64.wrap (n:Int)=((n % 2 ^ 64:Nat):Int):=by
 simp [IntKind.wrap,IntKind.bits,IntKind.signed]
theorem agk:∀ m:Fin 256,orI .u8 (m.val:Int) 128=((m.val % 128+128:Nat):Int):=by decide +kernel
theorem aeB (n:Nat):orI .u8 (IntKind.u8.wrap (n:Int)) 128=((UInt8.ofNat (n % 128+128)).toNat:Int):=by
 rw [wrap_u8,agk ⟨n % 256,by omega⟩]
 simp only [UInt8.toNat_ofNat']
 omega
theorem ad7 {n:Nat}:IntKind.u8.wrap (n:Int)=((UInt8.ofNat n).toNat:Int):=by
 rw [wrap_u8]
 simp
theorem agD (n:Nat):(n:Int).fdiv (2 ^ min (Int.toNat 7) (IntKind.bits .u64))=((n / 128:Nat):Int):=by
 have:(2:Int) ^ min (Int.toNat 7) (IntKind.bits .u64)=128:=by decide
 rw [this,Int.fdiv_eq_ediv_of_nonneg _ (by omega)]
 omega
theorem adV (k:Nat):∀ n,n < 128 ^ (k+1)→(enc n).length≤k+1:=by
 induction k with
 | zero=>intro n h;rw [kD (by omega)];simp
 | succ k ih =>
  intro n h
  by_cases hn:n < 128
  ·
   rw [kD hn];simp
  ·
   rw [JW hn]
   have:=ih (n / 128) (by rw [Nat.div_lt_iff_lt_mul (by omega)];exact h)
   simp only [List.length_cons];omega
theorem Jp {n:Nat} (h:n < 2 ^ 64):(enc n).length≤10:=adV 9 n (Nat.lt_of_lt_of_le h (by decide))
theorem afr:sv 2 1 0 []=by_ 2 []:=rfl
theorem afu (x:UInt8):sv 2 1 1 [.int .u8 x.toNat]=by_ 2 [x]:=rfl
theorem abn {k:Nat} {l:List UInt8} {x:UInt8} {S:zx} (h:Okl k l) (hk:k≠1) (hl:l.length≤140737488355000):jI zi 33 33 (by_ k l) (by_ 2 [x]) S=some (by_ 2 (l++[x]),S):=by
 rw [qy h hk Okl.own (by simp;omega),if_neg (fun h=>by have:=h.2;simp at this)]
theorem jd.round:∀ (n:Nat) (l:List UInt8) (k:Nat) {T:List Value} {S:zx} {r:St},yM (zI zi O false jd.jE) T S=r→T.length=19→T.getD 0 zh=.int .u64 n→T.getD 3 zh=by_ k l →
  Okl k l→k≠1→n * 2 ^ l.length < 2 ^ 64→∃ T' l' k' n',r=some (.exit 0,T',S)∧T'.length=19∧T'.getD 0 zh=.int .u64 (n':Nat)∧T'.getD 3 zh=by_ k' l' ∧
   Okl k' l'∧k'≠1∧n' < 128∧l'++[UInt8.ofNat n']=l++enc n:=by
 intro n
 induction n using Nat.strongRecOn with
 | _ n ih =>
  intro l k T S r hL hT h0 h3 hs hk hl
  obtain ⟨x0,x1,x2,x3,x4,x5,x6,x7,x8,x9,x10,x11,x12,x13,x14,x15,x16,x17,x18,hTe⟩:=jd.list hT
  rw [hTe] at h0 h3
  simp only [List.getD_cons_succ,List.getD_cons_zero] at h0 h3
  subst h0 h3
  have hr:zI zi O false jd.jE T S=zI zi O false jd.jE T S:=rfl
  by_cases hlt:n < 128
  ·
   have hd:decide ((128:Int)≤(n:Int))=false:=by simp;omega
   conv at hr =>
    rhs
    rw [hTe]
    simp only [jd.jE,zSs,reduceIte,zk,zn,zo,zq,jd.r2,hd]
   exact ⟨_,l,k,n,hL.symm.trans (jH hr (by simp)),rfl,rfl,rfl,hs,hk,hlt,by rw [kD hlt]⟩
  ·
   have hd:decide ((128:Int)≤(n:Int))=true:=by simp;omega
   have hll:l.length < 64:=by
    have:2 ^ l.length < 2 ^ 64:=Nat.lt_of_le_of_lt (Nat.le_mul_of_pos_left _ (by omega)) hl
    exact (Nat.pow_lt_pow_iff_right (by omega)).1 this
   have e1:∀ x S,jI zi 33 33 (by_ k l) (by_ 2 [x]) S=some (by_ 2 (l++[x]),S):=fun x S=>abn hs hk (by omega)
   conv at hr =>
    rhs
    rw [hTe]
    simp only [jd.jE,zSs,reduceIte,zk,zn,zo,zq,jd.r2,hd,jd.r3,xg,aaZ,aeB,ZW,afu,e1,jd.r4,acp _ _ _ _ (show (0:Int)≤7 by omega),agD]
   have hmul:n / 128 * 2 ^ (l.length+1) < 2 ^ 64:=by
    refine Nat.lt_of_le_of_lt ?_ hl
    rw [Nat.pow_succ,Nat.mul_comm (2 ^ l.length) 2,← Nat.mul_assoc]
    exact Nat.mul_le_mul_right _ (by omega)
   obtain ⟨T',l',k',n',g1,g2,g3,g4,g5,g6,g7,g8⟩:=ih (n / 128) (by omega) _ 2 ((yF hr).symm.trans hL) rfl rfl rfl Okl.own (by decide) (by simpa using hmul)
   refine ⟨T',l',k',n',g1,g2,g3,g4,g5,g6,g7,?_⟩
   rw [g8,JW hlt,List.append_assoc];rfl
theorem jd.v (n:Nat) (hn:n < 2 ^ 64) (S:zx):zU zi O jd.id [.int .u64 n] S=some (by_ 2 (enc n),S):=by
 obtain ⟨T,hTe⟩:∃ T,T=(.int .u64 n::zh::zh::zh::zh::zh::zh::zh::zh::zh::zh::zh::zh::zh::zh::zh::zh::zh::zh::[]):=⟨_,rfl⟩
 have hr:zI zi O false jd.code T S=zI zi O false jd.code T S:=rfl
 conv at hr =>
  rhs
  rw [hTe]
  simp only [jd.code,zSs,reduceIte,zk,zn,zo,zq,jd.r0,jd.r1]
 generalize hL:yM (zI zi O false jd.jE) _ _=r at hr
 obtain ⟨T',l',k',n',rfl,g2,g3,g4,g5,g6,g7,g8⟩:=jd.round n [] 0 hL rfl rfl rfl Okl.none (by decide) (by simpa using hn)
 obtain ⟨x0,x1,x2,x3,x4,x5,x6,x7,x8,x9,x10,x11,x12,x13,x14,x15,x16,x17,x18,hT'⟩:=jd.list g2
 rw [hT'] at g3 g4
 simp only [List.getD_cons_succ,List.getD_cons_zero] at g3 g4
 subst g3 g4
 have hlen:l'.length+1=(enc n).length:=by simpa using congrArg List.length g8
 have h10:=Jp hn
 have e1:∀ x S,jI zi 33 33 (by_ k' l') (by_ 2 [x]) S=some (by_ 2 (l'++[x]),S):=fun x S=>abn g5 g6 (by omega)
 conv at hr =>
  rhs
  rw [hT']
  simp only [zSs,reduceIte,zk,zn,zo,zq,jd.r5,xg,ad7,ZW,afu,e1]
 rw [hTe] at hr
 have:=jd.runs hr (.inr rfl)
 rw [List.nil_append] at g8
 rw [← g8]
 exact this
end Go.Proofs.Ytgggklfbhmlapaa
namespace Go.Proofs.Ytgggklfbhmlapaa
open Go.Abs
theorem slices_Clone.v {k:Nat} {l:List UInt8} (h:Okl k l) (hk:k≠2) (hl:l.length≤140737488355328) (S:zx):zU zi O slices_Clone.id [by_ k l] S=some (by_ (if k=0 then 0 else 2) l,S):=by
 obtain ⟨T,hTe⟩:∃ T,T=(by_ k l::zh::zh::zh::zh::zh::zh::zh::[]):=⟨_,rfl⟩
 have hr:zI zi O false slices_Clone.code T S=zI zi O false slices_Clone.code T S:=rfl
 conv at hr =>
  rhs
  rw [hTe]
  simp only [slices_Clone.code,zSs,reduceIte,zk,zn,zo,zq,slices_Clone.r0,slices_Clone.r1,if_neg hk,acd h]
 by_cases h0:k=0
 ·
  have hl0:=h.nil h0
  subst h0 hl0
  conv at hr =>
   rhs
   simp only [decide_true,zSs,reduceIte,zk,zn,zo,zq,slices_Clone.r2]
  rw [hTe] at hr
  exact slices_Clone.runs hr (.inr rfl)
 ·
  have e1:∀ S,jI zi 33 33 (by_ 2 []) (by_ k l) S=some (by_ 2 l,S):=fun S=>by
   rw [qy Okl.own (by decide) h (by simpa using hl)];rfl
  conv at hr =>
   rhs
   simp only [h0,decide_false,zSs,reduceIte,zk,zn,zo,zq,slices_Clone.r3,ZP,afr,if_neg hk,e1]
  rw [hTe] at hr
  rw [if_neg h0]
  exact slices_Clone.runs hr (.inr rfl)
def scan:Nat→Nat→List UInt8→Option (Nat×List UInt8)
 | _,_,[]=>none
 | i,acc,x::r=>if (i=9∧1 < x.toNat)∨(0 < i∧x.toNat=0) then none else if x.toNat < 128 then some (acc+x.toNat * 128 ^ i,r) else scan (i+1) (acc+(x.toNat - 128) * 128 ^ i) r
def acX (l:List UInt8):Value :=
 match scan 0 0 l with
 | none=>.tuple #[.int .u64 0,.slice none 0 0,.int .i64 11]
 | some (m,rest)=>.tuple #[.int .u64 (m:Nat),by_ 2 rest,.int .i64 0]
theorem zB.stop (x0 x1 x2 x3 x4 x5 x6 x7 x8 x9 x10 x11 x12 x13 x14 x15 x16 x17 x18 x19 x20 x21 x22 x23 x24 x25 x26 x27 x28 x29 x30 x31 x32 x33 x34 x35 x36 x37 x38 x39 x40 x41 x42 x43 x44 x45:Value) (i x:Int) (S:zx) (h6:x6=.int .i64 i) (h7:x7=.int .u8 x):∃ y15 y16 y17 y18 y19 y20 y21 y22 y23 y24 y25 y26 y27,jq zi ⟨false,false,false⟩ (zU zi O) (reg Try.f44 5) (reg Try.f44 5).toList (x0::x1::x2::x3::x4::x5::x6::x7::x8::x9::x10::x11::x12::x13::x14::x15::x16::x17::x18::x19::x20::x21::x22::x23::x24::x25::x26::x27::x28::x29::x30::x31::x32::x33::x34::x35::x36::x37::x38::x39::x40::x41::x42::x43::x44::x45::[]) S =
  some ((x0::x1::x2::x3::x4::x5::x6::x7::x8::x9::x10::x11::x12::x13::x14::y15::y16::y17::y18::y19::y20::y21::y22::y23::y24::y25::y26::y27::.bool (decide ((i=9∧1 < x)∨(0 < i∧x=0)))::x29::x30::x31::x32::x33::x34::x35::x36::x37::x38::x39::x40::x41::x42::x43::x44::x45::[]),S):=by
 subst h6 h7
 rw [zB.r5]
 simp only [zSs,reduceIte,zk,zn,zo,zq]
 rcases Bool.eq_false_or_eq_true (decide (i=9)) with d1 | d1 <;> rcases Bool.eq_false_or_eq_true (decide (1 < x)) with d2 | d2 <;> rcases Bool.eq_false_or_eq_true (decide (0 < i)) with d3 | d3 <;> rcases Bool.eq_false_or_eq_true (decide (x=0)) with d4 | d4 <;>
  simp only [d1,d2,d3,d4,zSs,reduceIte,zk,zn,zo,zq] <;> simp only [decide_eq_true_eq,decide_eq_false_iff_not] at d1 d2 d3 d4 <;>
  simp only [d1,d2,d3,d4,true_and,false_and,and_true,and_false,or_true,true_or,or_false,false_or,decide_true,decide_false,not_true,not_false_iff,zo,zn,and_self,or_self] <;> first | exact ⟨_,_,_,_,_,_,_,_,_,_,_,_,_,rfl⟩ | omega
theorem afM:∀ m:Fin 256,af2 .u8 (m.val:Int) 127=((m.val % 128:Nat):Int):=by decide +kernel
theorem acT (x:UInt8):af2 .u8 (x.toNat:Int) 127=((x.toNat % 128:Nat):Int):=afM ⟨x.toNat,x.toNat_lt⟩
theorem Jo {n:Nat} (h:n < 2 ^ 64):IntKind.u64.wrap (n:Int)=(n:Int):=by
 rw [wrap_u64,Nat.mod_eq_of_lt h]
theorem ad4 {a c i:Nat} (ha:a < 2 ^ i) (h:c * 2 ^ i < 2 ^ 64) (h2:a < 2 ^ 64):orI .u64 (a:Int) ((c * 2 ^ i:Nat):Int)=((a+c * 2 ^ i:Nat):Int):=by
 have hor:a ||| c * 2 ^ i=a+c * 2 ^ i:=by
  have:=Nat.shiftLeft_add_eq_or_of_lt ha c
  rw [Nat.shiftLeft_eq] at this
  rw [Nat.or_comm,← this,Nat.add_comm]
 have hlt:a ||| c * 2 ^ i < 2 ^ 64:=Nat.or_lt_two_pow h2 h
 unfold orI
 rw [BitVec.ofInt_natCast,BitVec.ofInt_natCast,BitVec.toNat_or,BitVec.toNat_ofNat,BitVec.toNat_ofNat]
 rw [show IntKind.bits .u64=64 from rfl,Nat.mod_eq_of_lt h2,Nat.mod_eq_of_lt h,Jo hlt,hor]
theorem agF {c i:Nat} (hi:i≤9) (h:c * 128 ^ i < 2 ^ 64):IntKind.u64.wrap ((c:Int) * 2 ^ (min (Int.toNat (7 * (i:Int))) (IntKind.bits .u64)))=((c * 2 ^ (7 * i):Nat):Int):=by
 have e1:min (Int.toNat (7 * (i:Int))) (IntKind.bits .u64)=7 * i:=by
  rw [show IntKind.bits .u64=64 from rfl];omega
 have e2:(128:Nat) ^ i=2 ^ (7 * i):=by rw [Nat.pow_mul]
 rw [e1,show (c:Int) * 2 ^ (7 * i)=((c * 2 ^ (7 * i):Nat):Int) by simp,Jo (by rw [← e2];exact h)]
theorem ac8 {l pre suf:List UInt8} {x:UInt8} (hl:l=pre++x::suf):(l.drop ((pre.length:Int)+1).toNat).take ((l.length:Int).toNat - ((pre.length:Int)+1).toNat)=suf:=by
 rw [show ((pre.length:Int)+1).toNat=pre.length+1 by omega,show (l.length:Int).toNat=l.length by omega,hl]
 rw [show pre++x::suf=(pre++[x])++suf by simp,show pre.length+1=(pre++[x]).length by simp,List.drop_left]
 rw [List.take_of_length_le];simp;omega
theorem zB.round {k:Nat} {l:List UInt8} (hv:Okl k l) (hk:k≠2) (hlen:l.length≤140737488355328) {S:zx}:∀ (suf pre:List UInt8) (acc:Nat) {T:List Value} {r:St},yM (zI zi O false zB.jE) T S=r→T.length=46 →
  T.getD 0 zh=by_ k l→T.getD 8 zh=by_ k l→T.getD 9 zh=.int .i64 l.length→T.getD 10 zh=.int .i64 pre.length→T.getD 5 zh=.int .u64 acc→l=pre++suf→acc < 128 ^ pre.length→pre.length≤9 →
  ∃ e T',r=some (e,T',S)∧match scan pre.length acc suf with
   | none=>e=.exit 0∧T'.length=46
   | some (m,rest)=>e=.ret∧m < 2 ^ 64∧T'.getD 2 zh=.int .u64 m∧T'.getD 3 zh=by_ 2 rest∧T'.getD 4 zh=.int .i64 0:=by
 intro suf
 induction suf with
 | nil =>
  intro pre acc T r hL hT h0 h8 h9 h10 h5 hl hacc hpre
  obtain ⟨x0,x1,x2,x3,x4,x5,x6,x7,x8,x9,x10,x11,x12,x13,x14,x15,x16,x17,x18,x19,x20,x21,x22,x23,x24,x25,x26,x27,x28,x29,x30,x31,x32,x33,x34,x35,x36,x37,x38,x39,x40,x41,x42,x43,x44,x45,hTe⟩:=zB.list hT
  rw [hTe] at h0 h8 h9 h10 h5
  simp only [List.getD_cons_succ,List.getD_cons_zero] at h0 h8 h9 h10 h5
  subst h0 h8 h9 h10 h5
  have hr:zI zi O false zB.jE T S=zI zi O false zB.jE T S:=rfl
  have hd:decide ((pre.length:Int) < (l.length:Int))=false:=by rw [hl];simp
  conv at hr =>
   rhs
   rw [hTe]
   simp only [zB.jE,zSs,reduceIte,zk,zn,zo,zq,zB.r3,hd]
  exact ⟨_,_,hL.symm.trans (jH hr (by simp)),rfl,rfl⟩
 | cons x suf ih =>
  intro pre acc T r hL hT h0 h8 h9 h10 h5 hl hacc hpre
  obtain ⟨x0,x1,x2,x3,x4,x5,x6,x7,x8,x9,x10,x11,x12,x13,x14,x15,x16,x17,x18,x19,x20,x21,x22,x23,x24,x25,x26,x27,x28,x29,x30,x31,x32,x33,x34,x35,x36,x37,x38,x39,x40,x41,x42,x43,x44,x45,hTe⟩:=zB.list hT
  rw [hTe] at h0 h8 h9 h10 h5
  simp only [List.getD_cons_succ,List.getD_cons_zero] at h0 h8 h9 h10 h5
  subst h0 h8 h9 h10 h5
  have hr:zI zi O false zB.jE T S=zI zi O false zB.jE T S:=rfl
  have hlt:(pre.length:Int) < (l.length:Int):=by rw [hl];simp;omega
  have hd:decide ((pre.length:Int) < (l.length:Int))=true:=by simpa using hlt
  have k0:k≠0:=fun h=>by have:=hv.nil h;rw [this] at hl;simp at hl
  have e1:∀ S,jg zi 33 (by_ k l) (.int .i64 pre.length) S=some (EP [.int .u8 x.toNat],S):=fun S=>by
   rw [agb hv (by omega) hlt];rw [adp hl]
  obtain ⟨y15,y16,y17,y18,y19,y20,y21,y22,y23,y24,y25,y26,y27,e3⟩:=zB.stop (by_ k l) x1 x2 x3 x4 (.int .u64 acc) (.int .i64 pre.length) (.int .u8 x.toNat) (by_ k l) (.int .i64 l.length) (.int .i64 pre.length) (.bool true) (.int .i64 pre.length) (EP [.int .u8 x.toNat]) (.int .u8 x.toNat) x15 x16 x17 x18 x19 x20 x21 x22 x23 x24 x25 x26 x27 x28 x29 x30 x31 x32 x33 x34 x35 x36 x37 x38 x39 x40 x41 x42 x43 x44 x45 (pre.length:Int) (x.toNat:Int) S rfl rfl
  conv at hr =>
   rhs
   rw [hTe]
   simp only [zB.jE,zSs,reduceIte,zk,zn,zo,zq,zB.r3,hd,zB.r4,e1,adY,if_neg hk,e3]
  have hst:((pre.length:Int)=9∧1 < (x.toNat:Int)∨0 < (pre.length:Int)∧(x.toNat:Int)=0) ↔ ((pre.length=9∧1 < x.toNat)∨(0 < pre.length∧x.toNat=0)):=by omega
  by_cases hs:(pre.length=9∧1 < x.toNat)∨(0 < pre.length∧x.toNat=0)
  ·
   have hs2:=decide_eq_true (hst.2 hs)
   conv at hr =>
    rhs
    simp only [hs2,zSs,reduceIte,zk,zn,zo,zq]
   refine ⟨_,_,hL.symm.trans (jH hr (by simp)),?_⟩
   rw [scan,if_pos hs]
   exact ⟨rfl,rfl⟩
  ·
   have hs2:=decide_eq_false (fun h=>hs (hst.1 h))
   have hx256:=x.toNat_lt
   have hpw:128 ^ pre.length≤128 ^ 9:=Nat.pow_le_pow_right (by omega) hpre
   have hc64:x.toNat % 128 * 128 ^ pre.length < 2 ^ 64:=by
    by_cases h9:pre.length=9
    ·
     rw [h9];have:x.toNat % 128≤1:=by omega
     exact Nat.lt_of_le_of_lt (Nat.mul_le_mul_right _ this) (by decide)
    ·
     have h8:128 ^ pre.length≤128 ^ 8:=Nat.pow_le_pow_right (by omega) (by omega)
     exact Nat.lt_of_le_of_lt (Nat.mul_le_mul (by omega:x.toNat % 128≤127) h8) (by decide)
   have hm:IntKind.i64.wrap (7 * (pre.length:Int))=7 * (pre.length:Int):=wrap_i64 (by omega) (by omega)
   have e128:(128:Nat) ^ pre.length=2 ^ (7 * pre.length):=by rw [Nat.pow_mul]
   have hor:=ad4 (a:=acc) (c:=x.toNat % 128) (i:=7 * pre.length) (by rw [← e128];exact hacc) (by rw [← e128];exact hc64) (Nat.lt_of_lt_of_le hacc (Nat.le_trans hpw (by decide)))
   conv at hr =>
    rhs
    simp only [hs2,zSs,reduceIte,zk,zn,zo,zq,zB.r6,acW,acT,Jv,Jo (show x.toNat % 128 < 2 ^ 64 by omega),hm,acI _ _ _ _ (show (0:Int)≤7 * (pre.length:Int) by omega),agF hpre hc64,aaZ,hor,zB.r7]
   rw [← e128] at hr
   have hadd:acc+x.toNat % 128 * 128 ^ pre.length < 128 ^ (pre.length+1):=by
    rw [Nat.pow_succ]
    have:x.toNat % 128 * 128 ^ pre.length≤127 * 128 ^ pre.length:=Nat.mul_le_mul_right _ (by omega)
    omega
   have hi1:IntKind.i64.wrap ((pre.length:Int)+1)=(pre.length:Int)+1:=wrap_i64 (by omega) (by omega)
   by_cases hxs:x.toNat < 128
   ·
    have hd2:decide ((x.toNat:Int) < 128)=true:=by simp;omega
    have e4:∀ S,kF zi 33 (by_ k l) (some (.int .i64 ((pre.length:Int)+1))) none S=some (by_ k suf,S):=fun S=>by
     rw [XO hv (lo:=some (.int .i64 ((pre.length:Int)+1))) (hi:=none) (i:=(pre.length:Int)+1) (j:=l.length) rfl rfl (by omega) (by omega) (by omega),ac8 hl,if_neg hk]
    have ok2:Okl k suf:=⟨hv.le,fun h=>absurd h k0⟩
    have e5:∀ S,zU zi O slices_Clone.id [by_ k suf] S=some (by_ 2 suf,S):=fun S=>by
     rw [slices_Clone.v ok2 hk (by have:=congrArg List.length hl;simp at this;omega),if_neg k0]
    conv at hr =>
     rhs
     simp only [hd2,zSs,reduceIte,zk,zn,zo,zq,zB.r8,hi1,if_neg hk,e4,e5]
    refine ⟨_,_,hL.symm.trans (jH hr (by simp)),?_⟩
    rw [scan,if_neg hs,if_pos hxs]
    have hxm:x.toNat % 128=x.toNat:=by omega
    rw [hxm]
    refine ⟨rfl,?_,rfl,rfl,rfl⟩
    rw [hxm] at hadd
    by_cases h9:pre.length=9
    ·
     rw [h9] at hacc ⊢
     have:x.toNat≤1:=by omega
     have h1:x.toNat * 128 ^ 9≤1 * 128 ^ 9:=Nat.mul_le_mul_right _ this
     have h2:(128:Nat) ^ 9+1 * 128 ^ 9=2 ^ 64:=by decide
     omega
    ·
     have h8:128 ^ (pre.length+1)≤128 ^ 9:=Nat.pow_le_pow_right (by omega) (by omega)
     exact Nat.lt_of_lt_of_le hadd (Nat.le_trans h8 (by decide))
   ·
    have hd2:decide ((x.toNat:Int) < 128)=false:=by simp;omega
    conv at hr =>
     rhs
     simp only [hd2,zSs,reduceIte,zk,zn,zo,zq,zB.r9,hi1]
    obtain ⟨e,T',g1,g3⟩:=ih (pre++[x]) (acc+x.toNat % 128 * 128 ^ pre.length) ((yF hr).symm.trans hL) rfl rfl rfl rfl (by simp) rfl (by simp [hl]) (by simpa using hadd) (by simp;omega)
    refine ⟨e,T',g1,?_⟩
    rw [scan,if_neg hs,if_neg hxs]
    have hxm:x.toNat % 128=x.toNat - 128:=by omega
    rw [hxm] at g3
    simpa using g3
theorem zB.v {k:Nat} {l:List UInt8} (hv:Okl k l) (hk:k≠2) (hlen:l.length≤140737488355328) (S:zx):zU zi O zB.id [by_ k l] S=some (acX l,S):=by
 obtain ⟨T,hTe⟩:∃ T,T=(by_ k l::zh::zh::zh::zh::zh::zh::zh::zh::zh::zh::zh::zh::zh::zh::zh::zh::zh::zh::zh::zh::zh::zh::zh::zh::zh::zh::zh::zh::zh::zh::zh::zh::zh::zh::zh::zh::zh::zh::zh::zh::zh::zh::zh::zh::zh::[]):=⟨_,rfl⟩
 have hr:zI zi O false zB.code T S=zI zi O false zB.code T S:=rfl
 conv at hr =>
  rhs
  rw [hTe]
  simp only [zB.code,zSs,reduceIte,zk,zn,zo,zq,zB.r0,zB.r1,zB.r2,if_neg hk,Wn hv]
 generalize hL:yM (zI zi O false zB.jE) _ _=r at hr
 obtain ⟨e,T',rfl,g3⟩:=zB.round hv hk hlen l [] 0 hL rfl rfl rfl rfl rfl rfl rfl (by simp) (by simp)
 simp only [List.length_nil] at g3
 unfold acX
 cases hsc:scan 0 0 l with
 | none =>
  rw [hsc] at g3
  obtain ⟨rfl,hT'⟩:=g3
  obtain ⟨x0,x1,x2,x3,x4,x5,x6,x7,x8,x9,x10,x11,x12,x13,x14,x15,x16,x17,x18,x19,x20,x21,x22,x23,x24,x25,x26,x27,x28,x29,x30,x31,x32,x33,x34,x35,x36,x37,x38,x39,x40,x41,x42,x43,x44,x45,hTe'⟩:=zB.list hT'
  conv at hr =>
   rhs
   rw [hTe']
   simp only [zSs,reduceIte,zk,zn,zo,zq,zB.r10]
  rw [hTe] at hr
  exact zB.runs hr (.inr rfl) rfl rfl rfl
 | some mr =>
  obtain ⟨m,rest⟩:=mr
  rw [hsc] at g3
  obtain ⟨rfl,hm,h2,h3,h4⟩:=g3
  conv at hr =>
   rhs
   simp only [zSs,reduceIte,zk,zn,zo,zq]
  rw [hTe] at hr
  have hrun:=zB.runs hr (.inr rfl) (by rw [h2];rfl) (by rw [h3];exact jD) (by rw [h4];rfl)
  rw [h2,h3,h4] at hrun
  exact hrun
theorem abJ:∀ (suf:List UInt8) (i acc:Nat),acc < 128 ^ i→i≤9→∀ m rest,scan i acc suf=some (m,rest)→m < 2 ^ 64∧rest.length < suf.length:=by
 intro suf
 induction suf with
 | nil=>intro i acc _ _ m rest h;cases h
 | cons x suf ih =>
  intro i acc hacc hi m rest h
  rw [scan] at h
  have hx256:=x.toNat_lt
  split at h
  ·
   cases h
  ·
   rename_i hs
   split at h
   ·
    rename_i hx
    cases h
    refine ⟨?_,by simp⟩
    by_cases h9:i=9
    ·
     subst h9
     have:x.toNat≤1:=by omega
     have h1:x.toNat * 128 ^ 9≤1 * 128 ^ 9:=Nat.mul_le_mul_right _ this
     have h2:(128:Nat) ^ 9+1 * 128 ^ 9=2 ^ 64:=by decide
     omega
    ·
     have h8:128 ^ (i+1)≤128 ^ 9:=Nat.pow_le_pow_right (by omega) (by omega)
     have h3:acc+x.toNat * 128 ^ i < 128 ^ (i+1):=by
      rw [Nat.pow_succ]
      have:x.toNat * 128 ^ i≤127 * 128 ^ i:=Nat.mul_le_mul_right _ (by omega)
      omega
     exact Nat.lt_of_lt_of_le h3 (Nat.le_trans h8 (by decide))
   ·
    rename_i hx
    have h9:i≠9:=by omega
    have hadd:acc+(x.toNat - 128) * 128 ^ i < 128 ^ (i+1):=by
     rw [Nat.pow_succ]
     have:(x.toNat - 128) * 128 ^ i≤127 * 128 ^ i:=Nat.mul_le_mul_right _ (by omega)
     omega
    obtain ⟨h1,h2⟩:=ih (i+1) _ hadd (by omega) m rest h
    exact ⟨h1,by simp;omega⟩
end Go.Proofs.Ytgggklfbhmlapaa
namespace Go.Proofs.Ytgggklfbhmlapaa
open Go.Abs
theorem aeN (n:Nat):0 < (enc n).length:=by
 by_cases h:n < 128
 ·
  rw [kD h];simp
 ·
  rw [JW h];simp
section
variable {k:Nat} {l:List UInt8} {S:zx}
end
end Go.Proofs.Ytgggklfbhmlapaa
namespace Go.Proofs.Ytgggklfbhmlapaa
open Go.Abs
theorem Jf {n:Nat} (h:n < 256):(UInt8.ofNat n).toNat=n:=by rw [UInt8.toNat_ofNat'];omega
theorem Kv:∀ (n i acc:Nat) (r:List UInt8),i≤9→(0 < i→0 < n)→n * 128 ^ i < 2 ^ 64→scan i acc (enc n++r)=some (acc+n * 128 ^ i,r):=by
 intro n
 induction n using Nat.strongRecOn with
 | _ n ih =>
  intro i acc r hi hn hlt
  have h9:i=9→n≤1:=by
   intro h;subst h
   have:(128:Nat) ^ 9=2 ^ 63:=by decide
   omega
  by_cases hs:n < 128
  ·
   rw [kD hs,List.singleton_append,scan,Jf (by omega),if_neg (by rintro (⟨h1,h2⟩ | ⟨h1,h2⟩);exact absurd (h9 h1) (by omega);exact absurd (hn h1) (by omega)),if_pos hs]
  ·
   rw [JW hs,List.cons_append,scan,Jf (by omega)]
   have hi9:i≠9:=fun h=>by have:=h9 h;omega
   rw [if_neg (by rintro (⟨h1,h2⟩ | ⟨h1,h2⟩);exact hi9 h1;omega),if_neg (by omega)]
   have hmul:n / 128 * 128 ^ (i+1)≤n * 128 ^ i:=by
    rw [Nat.pow_succ,← Nat.mul_assoc,Nat.mul_right_comm]
    exact Nat.mul_le_mul_right _ (by omega)
   rw [ih (n / 128) (by omega) (i+1) _ r (by omega) (fun _=>by omega) (Nat.lt_of_le_of_lt hmul hlt)]
   congr 2
   have:n=n % 128+n / 128 * 128:=by omega
   have e1:(n % 128+128 - 128) * 128 ^ i+n / 128 * 128 ^ (i+1)=n * 128 ^ i:=by
    rw [Nat.pow_succ]
    conv=>rhs;rw [this,Nat.add_mul]
    rw [Nat.add_sub_cancel,Nat.mul_comm (128 ^ i) 128,← Nat.mul_assoc]
   omega
theorem acr {n:Nat} (h:n < 2 ^ 64) (r:List UInt8):scan 0 0 (enc n++r)=some (n,r):=by
 rw [Kv n 0 0 r (by omega) (by omega) (by simpa using h)];simp
theorem Qi:∀ (l:List UInt8) (i acc m:Nat) (r:List UInt8),scan i acc l=some (m,r)→∃ n,l=enc n++r∧m=acc+n * 128 ^ i∧(0 < i→0 < n):=by
 intro l
 induction l with
 | nil=>intro i acc m r h;cases h
 | cons x l ih =>
  intro i acc m r h
  rw [scan] at h
  have hx:=x.toNat_lt
  split at h
  ·
   cases h
  ·
   rename_i hs
   split at h
   ·
    rename_i hx2
    cases h
    refine ⟨x.toNat,?_,rfl,fun hi=>by omega⟩
    rw [kD hx2];simp
   ·
    rename_i hx2
    obtain ⟨n,h1,h2,h3⟩:=ih _ _ _ _ h
    refine ⟨x.toNat - 128+n * 128,?_,?_,fun _=>?_⟩
    ·
     have hn:=h3 (by omega)
     rw [JW (by omega),show (x.toNat - 128+n * 128) / 128=n by omega,show (x.toNat - 128+n * 128) % 128+128=x.toNat by omega,h1]
     simp
    ·
     rw [h2,Nat.pow_succ,Nat.add_mul]
     rw [Nat.mul_comm (128 ^ i) 128,← Nat.mul_assoc];omega
    ·
     have:=h3 (by omega);omega
theorem aaW {l r:List UInt8} {m:Nat} (h:scan 0 0 l=some (m,r)):l=enc m++r∧m < 2 ^ 64:=by
 obtain ⟨n,h1,h2,_⟩:=Qi l 0 0 m r h
 have:m=n:=by simpa using h2
 subst this
 exact ⟨h1,(abJ l 0 0 (by decide) (by omega) m r h).1⟩
end Go.Proofs.Ytgggklfbhmlapaa
namespace Go.Proofs.Ytgggklfbhmlapaa
open Go.Abs
structure Tb where
 k:Nat
 b:List UInt8
structure Tb.Ok (t:Tb):Prop where
 okl:Okl t.k t.b
 ne:t.k≠2
 le:t.b.length≤140737488351232
end Go.Proofs.Ytgggklfbhmlapaa
namespace Go.Proofs.Ytgggklfbhmlapaa
open Go.Abs
def encs (l:List Int):List UInt8:=l.flatMap fun n=>enc (n+1).toNat
def acP (k:Nat) (l:List Int):Value:=if 64 < l.length∨∃ n ∈ l,n < -1 then .tuple #[.slice none 0 0,.int .i64 11] else .tuple #[by_ (if l=[] then k else 2) (encs l),.int .i64 0]
theorem VA {n:Int} (h:-1≤n) (h2:n < 9223372036854775808):IntKind.u64.wrap (IntKind.u64.wrap n+1)=((n+1).toNat:Int):=by
 simp [IntKind.wrap,IntKind.bits,IntKind.signed]
 omega
theorem qA (a b:List Int):encs (a++b)=encs a++encs b:=by simp [encs]
theorem ab8 (n:Int):encs [n]=enc (n+1).toNat:=by simp [encs]
theorem xH {l:List Int} (h:∀ n ∈ l,n < 9223372036854775808):(encs l).length≤l.length * 10:=by
 induction l with
 | nil=>simp [encs]
 | cons n l ih =>
  have h1:=ih fun m hm=>h m (by simp [hm])
  have h2:(enc (n+1).toNat).length≤10:=Jp (by have:=h n (by simp);omega)
  simp only [encs,List.flatMap_cons,List.length_append,List.length_cons] at *
  omega
theorem zD.round {k:Nat} {l:List Int} (hv:Okl k l) (hk:k≠2) (h64:l.length≤64) (hb:∀ n ∈ l,n < 9223372036854775808) {S:zx}:∀ (suf pre:List Int) {T:List Value} {r:St},yM (zI zi O false zD.jE) T S=r→T.length=26 →
  T.getD 10 zh=iz k l→T.getD 11 zh=.int .i64 l.length→T.getD 12 zh=.int .i64 pre.length→T.getD 4 zh=by_ (if pre=[] then 0 else 2) (encs pre)→l=pre++suf →
  ∃ e T',r=some (e,T',S)∧if (∃ n ∈ suf,n < -1) then e=.ret∧T'.getD 2 zh=.slice none 0 0∧T'.getD 3 zh=.int .i64 11 else e=.exit 0∧T'.length=26∧T'.getD 4 zh=by_ (if l=[] then 0 else 2) (encs l):=by
 intro suf
 induction suf with
 | nil =>
  intro pre T r hL hT ha hb hc h4 hl
  have hTe:=zD.eta hT
  rw [ha,hb,hc,h4] at hTe
  have hr:zI zi O false zD.jE T S=zI zi O false zD.jE T S:=rfl
  have hd:¬ (pre.length:Int) < (l.length:Int):=by rw [hl];simp
  conv at hr =>
   rhs
   rw [hTe]
   simp only [zD.jE,zD.code,zD.rs,zSs,reduceIte,zk,zn,zo,zq,hd]
  refine ⟨_,_,hL.symm.trans (jH hr (by simp)),?_⟩
  rw [if_neg (by simp)]
  simp only [List.append_nil] at hl
  subst hl
  exact ⟨rfl,rfl,rfl⟩
 | cons n suf ih =>
  intro pre T r hL hT ha hbb hc h4 hl
  have hTe:=zD.eta hT
  rw [ha,hbb,hc,h4] at hTe
  have hr:zI zi O false zD.jE T S=zI zi O false zD.jE T S:=rfl
  have hll:l.length=pre.length+(suf.length+1):=by rw [hl];simp
  have hlt:(pre.length:Int) < (l.length:Int):=by omega
  have e1:∀ S,jg zi 53 (iz k l) (.int .i64 pre.length) S=some (EP [.int .i64 n],S):=fun S=>by
   rw [abQ hv (by omega) hlt];rw [VW hl]
  have hn:=hb n (by rw [hl];simp)
  by_cases h1:n < -1
  ·
   conv at hr =>
    rhs
    rw [hTe]
    simp only [zD.jE,zD.code,zD.rs,zSs,reduceIte,zk,zn,zo,zq,hlt,e1,kK,h1]
   refine ⟨_,_,hL.symm.trans (jH hr (by simp)),?_⟩
   rw [if_pos ⟨n,by simp,h1⟩]
   exact ⟨rfl,rfl,rfl⟩
  ·
   have w1:=VA (n:=n) (by omega) (by omega)
   have hpb:(encs pre).length≤pre.length * 10:=xH fun m hm=>hb m (by rw [hl];simp [hm])
   have hp10:(enc (n+1).toNat).length≤10:=Jp (by omega)
   have hpp:=aeN (n+1).toNat
   have g1:=fun S=>jd.v (n+1).toNat (by omega) S
   have e2:∀ S,jI zi 33 33 (by_ (if pre=[] then 0 else 2) (encs pre)) (by_ 2 (enc (n+1).toNat)) S=some (by_ 2 (encs (pre++[n])),S):=fun S=>by
    have ok:Okl (if pre=[] then 0 else 2) (encs pre):=⟨by split <;> omega,fun h=>by split at h <;> first | (rename_i hp;subst hp;rfl) | omega⟩
    rw [qy ok (by split <;> omega) Okl.own (by omega),if_neg (fun h=>by have:=h.2;omega),qA,ab8]
   have wi:IntKind.i64.wrap ((pre.length:Int)+1)=((pre++[n]).length:Int):=by rw [wrap_i64 (by omega) (by omega)];simp
   conv at hr =>
    rhs
    rw [hTe]
    simp only [zD.jE,zD.code,zD.rs,zSs,reduceIte,zk,zn,zo,zq,hlt,e1,kK,h1,YF,w1,g1,e2,wi]
   obtain ⟨e,T',g1,g2⟩:=ih (pre++[n]) ((yF hr).symm.trans hL) rfl rfl rfl rfl (by rw [if_neg (show ¬ pre++[n]=[] by simp)];rfl) (by simp [hl])
   refine ⟨e,T',g1,?_⟩
   by_cases h2:∃ m ∈ suf,m < -1
   ·
    rw [if_pos h2] at g2
    obtain ⟨m,hm,hm2⟩:=h2
    rw [if_pos ⟨m,by simp [hm],hm2⟩]
    exact g2
   ·
    rw [if_neg h2] at g2
    rw [if_neg (by rintro ⟨m,hm,hm2⟩;rcases List.mem_cons.1 hm with rfl | hm;exact h1 hm2;exact h2 ⟨m,hm,hm2⟩)]
    exact g2
theorem zD.v {k:Nat} {l:List Int} (hv:Okl k l) (hk:k≠2) (hb:∀ n ∈ l,n < 9223372036854775808) (S:zx):zU zi O zD.id [iz k l] S=some (acP 0 l,S):=by
 obtain ⟨T,hTe⟩:∃ T,T=(iz k l::zh::zh::zh::zh::zh::zh::zh::zh::zh::zh::zh::zh::zh::zh::zh::zh::zh::zh::zh::zh::zh::zh::zh::zh::zh::[]):=⟨_,rfl⟩
 have hr:zI zi O false zD.code T S=zI zi O false zD.code T S:=rfl
 unfold acP
 by_cases h1:64 < l.length
 ·
  have d1:(64:Int) < (l.length:Int):=by omega
  conv at hr =>
   rhs
   rw [hTe]
   simp only [zD.code,zD.rs,zSs,reduceIte,zk,zn,zo,zq,if_neg hk,adA hv,goInt,d1]
  rw [hTe] at hr
  rw [if_pos (.inl h1)]
  exact zD.runs hr (.inr rfl) (by simp only [List.getD_cons_succ,List.getD_cons_zero,jD,jv,je,jm,jr]) (by simp only [List.getD_cons_succ,List.getD_cons_zero,jD,jv,je,jm,jr])
 ·
  have d1:¬ (64:Int) < (l.length:Int):=by omega
  conv at hr =>
   rhs
   rw [hTe]
   simp only [zD.code,zD.rs,zSs,reduceIte,zk,zn,zo,zq,if_neg hk,adA hv,goInt,d1,ZP,afr]
  generalize hL:yM (zI zi O false zD.jE) _ _=r at hr
  obtain ⟨e,T',rfl,g⟩:=zD.round hv hk (by omega) hb l [] hL rfl rfl rfl rfl rfl rfl
  by_cases h2:∃ n ∈ l,n < -1
  ·
   rw [if_pos h2] at g
   obtain ⟨rfl,g2,g3⟩:=g
   conv at hr =>
    rhs
    simp only [zSs,reduceIte,zk,zn,zo,zq]
   rw [hTe] at hr
   rw [if_pos (.inr h2)]
   have hrun:=zD.runs hr (.inr rfl) (by rw [g2];rfl) (by rw [g3];rfl)
   rw [g2,g3] at hrun
   exact hrun
  ·
   rw [if_neg h2] at g
   obtain ⟨rfl,g2,g3⟩:=g
   have hTe':=zD.eta g2
   rw [g3] at hTe'
   conv at hr =>
    rhs
    rw [hTe']
    simp only [zD.code,zD.rs,zSs,reduceIte,zk,zn,zo,zq]
   rw [hTe] at hr
   rw [if_neg (by rintro (h | h);exact h1 h;exact h2 h)]
   exact zD.runs hr (.inr rfl) (by simp only [List.getD_cons_succ,List.getD_cons_zero,jD,jv,je,jm,jr]) (by simp only [List.getD_cons_succ,List.getD_cons_zero,jD,jv,je,jm,jr])
end Go.Proofs.Ytgggklfbhmlapaa
namespace Go.Proofs.Ytgggklfbhmlapaa
open Go.Abs
def wB:Nat→List UInt8→Option (List Int×List UInt8)
 | 0,l=>some ([],l)
 | m+1,l=>match scan 0 0 l with
  | some (n,r)=>if n≤4611686018427387905 then (match wB m r with
   | some (a,b)=>some (((n:Int) - 1)::a,b)
   | none=>none) else none
  | none=>none
def vG (k0 k1:Nat) (many:Int) (l:List UInt8):Value :=
 if many < 0∨64 < many then .tuple #[.slice none 0 0,.slice none 0 0,.int .i64 11]
 else match wB many.toNat l with
  | some (a,b)=>.tuple #[iz (if many=0 then k0 else 2) a,by_ (if many=0 then k1 else 2) b,.int .i64 0]
  | none=>.tuple #[.slice none 0 0,.slice none 0 0,.int .i64 11]
theorem zy.round {many:Int} (hmany:many≤64) {S:zx}:∀ (m:Nat) (i:Int) (rest:List UInt8) (kr:Nat) (out:List Int) (ko:Nat) {T:List Value} {r:St},yM (zI zi O false zy.jE) T S=r→T.length=45 →
  T.getD 20 zh=.int .i64 many→T.getD 21 zh=.int .i64 i→T.getD 7 zh=by_ kr rest→T.getD 8 zh=iz ko out→0≤i→many=i+m→Okl kr rest→rest.length≤140737488355328→Okl ko out→ko≠1→(out.length:Int)=i →
  ∃ e T',r=some (e,T',S)∧match wB m rest with
   | none=>e=.ret∧T'.getD 4 zh=.slice none 0 0∧T'.getD 5 zh=.slice none 0 0∧T'.getD 6 zh=.int .i64 11
   | some (a,b)=>e=.exit 0∧T'.length=45∧T'.getD 8 zh=iz (if m=0 then ko else 2) (out++a)∧T'.getD 7 zh=by_ (if m=0 then kr else 2) b:=by
 intro m
 induction m with
 | zero =>
  intro i rest kr out ko T r hL hT h1 h2 h3 h4 h0 hm hkr hlen hko hk1 hol
  have hTe:=zy.eta hT
  rw [h1,h2,h3,h4] at hTe
  have hr:zI zi O false zy.jE T S=zI zi O false zy.jE T S:=rfl
  have hd:¬ i < many:=by omega
  conv at hr =>
   rhs
   rw [hTe]
   simp only [zy.jE,zy.code,zy.rs,zSs,reduceIte,zk,zn,zo,zq,hd]
  exact ⟨_,_,hL.symm.trans (jH hr (by simp)),rfl,rfl,by simp,rfl⟩
 | succ m ih =>
  intro i rest kr out ko T r hL hT h1 h2 h3 h4 h0 hm hkr hlen hko hk1 hol
  have hTe:=zy.eta hT
  rw [h1,h2,h3,h4] at hTe
  have hr:zI zi O false zy.jE T S=zI zi O false zy.jE T S:=rfl
  have hd:i < many:=by omega
  have g1:∀ S,zU zi O zB.id [by_ (if kr=2 then 1 else kr) rest] S=some (acX rest,S):=zB.v hkr.dem (by split <;> omega) hlen
  unfold acX at g1
  rw [wB]
  cases hsc:scan 0 0 rest with
  | none =>
   rw [hsc] at g1
   have d11:¬ (11:Int)=0:=by omega
   conv at hr =>
    rhs
    rw [hTe]
    simp only [zy.jE,zy.code,zy.rs,zSs,reduceIte,zk,zn,zo,zq,adg,hd,g1,d11]
   exact ⟨_,_,hL.symm.trans (jH hr (by simp)),rfl,rfl,rfl,rfl⟩
  | some nr =>
   obtain ⟨n,r'⟩:=nr
   rw [hsc] at g1
   obtain ⟨hn,hrl⟩:=abJ rest 0 0 (by decide) (by omega) n r' hsc
   dsimp only
   by_cases h5:n≤4611686018427387905
   ·
    have d1:¬ (4611686018427387905:Int) < (n:Int):=by omega
    have w1:IntKind.i64.wrap (n:Int)=(n:Int):=wrap_i64 (by omega) (by omega)
    have w2:IntKind.i64.wrap ((n:Int) - 1)=(n:Int) - 1:=wrap_i64 (by omega) (by omega)
    have w3:IntKind.i64.wrap (i+1)=i+1:=wrap_i64 (by omega) (by omega)
    have e1:∀ x S,jI zi 53 53 (iz ko out) (iz 2 [x]) S=some (iz 2 (out++[x]),S):=fun x S=>aex hko hk1 (by omega)
    conv at hr =>
     rhs
     rw [hTe]
     simp only [zy.jE,zy.code,zy.rs,zSs,reduceIte,zk,zn,zo,zq,adg,hd,g1,d1,Yw,w1,w2,w3,Ws,afO,e1]
    obtain ⟨e,T',g2,g3⟩:=ih (i+1) r' 2 (out++[(n:Int) - 1]) 2 ((yF hr).symm.trans hL) rfl rfl rfl rfl rfl (by omega) (by omega) Okl.own (by omega) Okl.own (by decide) (by simp;omega)
    refine ⟨e,T',g2,?_⟩
    rw [if_pos h5]
    cases hrn:wB m r' with
    | none=>rw [hrn] at g3;exact g3
    | some ab =>
     obtain ⟨a,b⟩:=ab
     rw [hrn] at g3
     obtain ⟨q1,q2,q3,q4⟩:=g3
     refine ⟨q1,q2,?_,?_⟩
     ·
      rw [q3];simp
     ·
      rw [q4];simp
   ·
    have d1:(4611686018427387905:Int) < (n:Int):=by omega
    conv at hr =>
     rhs
     rw [hTe]
     simp only [zy.jE,zy.code,zy.rs,zSs,reduceIte,zk,zn,zo,zq,adg,hd,g1,d1]
    refine ⟨_,_,hL.symm.trans (jH hr (by simp)),?_⟩
    rw [if_neg h5]
    exact ⟨rfl,rfl,rfl,rfl⟩
theorem zy.v {k:Nat} {l:List UInt8} {many:Int} (hv:Okl k l) (hk:k≠2) (hlen:l.length≤140737488355328) (S:zx):zU zi O zy.id [by_ k l,.int .i64 many] S=some (vG 0 (if k=0 then 0 else 2) many l,S):=by
 obtain ⟨T,hTe⟩:∃ T,T=(by_ k l::.int .i64 many::zh::zh::zh::zh::zh::zh::zh::zh::zh::zh::zh::zh::zh::zh::zh::zh::zh::zh::zh::zh::zh::zh::zh::zh::zh::zh::zh::zh::zh::zh::zh::zh::zh::zh::zh::zh::zh::zh::zh::zh::zh::zh::zh::[]):=⟨_,rfl⟩
 have hr:zI zi O false zy.code T S=zI zi O false zy.code T S:=rfl
 have c1:∀ S,zU zi O 43 [by_ k l] S=some (by_ (if k=0 then 0 else 2) l,S):=slices_Clone.v hv hk hlen
 unfold vG
 by_cases h1:many < 0
 ·
  conv at hr =>
   rhs
   rw [hTe]
   simp only [zy.code,zy.rs,zSs,reduceIte,zk,zn,zo,zq,h1]
  rw [hTe] at hr
  rw [if_pos (.inl h1)]
  exact zy.runs hr (.inr rfl) (by simp only [List.getD_cons_succ,List.getD_cons_zero,jD,jv,je,jm,jr]) (by simp only [List.getD_cons_succ,List.getD_cons_zero,jD,jv,je,jm,jr]) (by simp only [List.getD_cons_succ,List.getD_cons_zero,jD,jv,je,jm,jr])
 ·
  by_cases h2:64 < many
  ·
   conv at hr =>
    rhs
    rw [hTe]
    simp only [zy.code,zy.rs,zSs,reduceIte,zk,zn,zo,zq,h1,h2]
   rw [hTe] at hr
   rw [if_pos (.inr h2)]
   exact zy.runs hr (.inr rfl) (by simp only [List.getD_cons_succ,List.getD_cons_zero,jD,jv,je,jm,jr]) (by simp only [List.getD_cons_succ,List.getD_cons_zero,jD,jv,je,jm,jr]) (by simp only [List.getD_cons_succ,List.getD_cons_zero,jD,jv,je,jm,jr])
  ·
   rw [if_neg (by omega)]
   conv at hr =>
    rhs
    rw [hTe]
    simp only [zy.code,zy.rs,zSs,reduceIte,zk,zn,zo,zq,h1,h2,if_neg hk,c1]
   generalize hL:yM (zI zi O false zy.jE) _ _=r at hr
   have okr:Okl (if k=0 then 0 else 2) l:=⟨by split <;> omega,fun h=>by split at h <;> first | (rename_i hp;exact hv.nil hp) | omega⟩
   obtain ⟨e,T',rfl,g⟩:=zy.round (many:=many) (by omega) many.toNat 0 l (if k=0 then 0 else 2) [] 0 hL rfl rfl rfl rfl rfl (by omega) (by omega) okr hlen Okl.none (by decide) rfl
   cases hrn:wB many.toNat l with
   | none =>
    rw [hrn] at g
    obtain ⟨rfl,g2,g3,g4⟩:=g
    conv at hr =>
     rhs
     simp only [zSs,reduceIte,zk,zn,zo,zq]
    rw [hTe] at hr
    have hrun:=zy.runs hr (.inr rfl) (by rw [g2];rfl) (by rw [g3];rfl) (by rw [g4];rfl)
    rw [g2,g3,g4] at hrun
    exact hrun
   | some ab =>
    obtain ⟨a,b⟩:=ab
    rw [hrn] at g
    obtain ⟨rfl,g2,g3,g4⟩:=g
    have hTe':=zy.eta g2
    rw [g3,g4] at hTe'
    have hz:(many.toNat=0) ↔ (many=0):=by omega
    simp only [hz,List.nil_append] at hTe'
    conv at hr =>
     rhs
     rw [hTe']
     simp only [zy.code,zy.rs,zSs,reduceIte,zk,zn,zo,zq]
    rw [hTe] at hr
    exact zy.runs hr (.inr rfl) (by simp only [List.getD_cons_succ,List.getD_cons_zero,jD,jv,je,jm,jr]) (by simp only [List.getD_cons_succ,List.getD_cons_zero,jD,jv,je,jm,jr]) (by simp only [List.getD_cons_succ,List.getD_cons_zero,jD,jv,je,jm,jr])
end Go.Proofs.Ytgggklfbhmlapaa
namespace Go.Proofs.Ytgggklfbhmlapaa
open Go.Abs
def Few (n:Int):Prop:=-1≤n∧n≤4611686018427387904
theorem wR:∀ (m:Nat) (l:List UInt8) (a:List Int) (b:List UInt8),wB m l=some (a,b) ↔ a.length=m∧l=encs a++b∧∀ n ∈ a,Few n:=by
 intro m
 induction m with
 | zero =>
  intro l a b
  constructor
  ·
   intro h;cases h;exact ⟨rfl,rfl,fun n h=>by cases h⟩
  ·
   rintro ⟨h1,h2,_⟩
   have:a=[]:=List.length_eq_zero_iff.mp h1
   subst this
   rw [h2];rfl
 | succ m ih =>
  intro l a b
  rw [wB]
  constructor
  ·
   intro h
   cases hsc:scan 0 0 l with
   | none=>rw [hsc] at h;cases h
   | some nr =>
    obtain ⟨n,r⟩:=nr
    rw [hsc] at h
    dsimp only at h
    split at h
    ·
     rename_i hn
     cases hr:wB m r with
     | none=>rw [hr] at h;cases h
     | some ab =>
      obtain ⟨a',b'⟩:=ab
      rw [hr] at h
      obtain ⟨h1,h2,h3⟩:=(ih r a' b').mp hr
      cases h
      obtain ⟨f1,f2⟩:=aaW hsc
      refine ⟨by simp [h1],?_,fun x hx=>?_⟩
      ·
       rw [f1,h2]
       have:((n:Int) - 1+1).toNat=n:=by omega
       simp [encs,this]
      ·
       rcases List.mem_cons.1 hx with rfl | hx
       ·
        unfold Few;omega
       ·
        exact h3 x hx
    ·
     cases h
  ·
   rintro ⟨h1,h2,h3⟩
   cases a with
   | nil=>simp at h1
   | cons x a =>
    have hx:Few x:=h3 x (by simp)
    unfold Few at hx
    have he:encs (x::a)++b=enc (x+1).toNat++(encs a++b):=by simp [encs]
    rw [h2,he,acr (by omega)]
    dsimp only
    rw [if_pos (by omega),(ih (encs a++b) a b).mpr ⟨by simpa using h1,rfl,fun n hn=>h3 n (by simp [hn])⟩]
    have:((x+1).toNat:Int) - 1=x:=by omega
    simp only [this]
theorem ZE {m:Nat} {l:List UInt8} {a:List Int} {b:List UInt8} (h:wB m l=some (a,b)):a.length=m∧b.length≤l.length:=by
 obtain ⟨h1,h2,_⟩:=(wR m l a b).mp h
 exact ⟨h1,by rw [h2];simp⟩
theorem Z4 {a c:List Int} {b d:List UInt8} (h:a.length=c.length) (ha:∀ n ∈ a,Few n) (hc:∀ n ∈ c,Few n) (he:encs a++b=encs c++d):a=c∧b=d:=by
 have h1:=(wR a.length (encs a++b) a b).mpr ⟨rfl,rfl,ha⟩
 have h2:=(wR a.length (encs a++b) c d).mpr ⟨h.symm,he,hc⟩
 rw [h1] at h2
 simpa using h2
theorem Yl {k:Nat} {l:List Int} (h:l.length≤64) (h1:∀ n ∈ l,-1≤n) (h0:l≠[]):acP k l=.tuple #[by_ 2 (encs l),.int .i64 0]:=by
 unfold acP
 rw [if_neg (by rintro (h2 | ⟨n,h2,h3⟩);{ omega };{ have:=h1 n h2;omega }),if_neg h0]
theorem vF {k0 k1 m:Nat} {l:List UInt8} (h0:0 < m) (h:m≤64):vG k0 k1 m l=match wB m l with
  | some (a,b)=>.tuple #[iz 2 a,by_ 2 b,.int .i64 0]
  | none=>.tuple #[.slice none 0 0,.slice none 0 0,.int .i64 11]:=by
 unfold vG
 rw [if_neg (by omega),Int.toNat_natCast]
 have:(m:Int)≠0:=by omega
 simp only [if_neg this]
 all_goals (cases wB m l <;> rfl)
noncomputable def rd {α:Type} (ok:α→Prop) (e:α→List UInt8) (b:List UInt8):Option α:=open Classical in if h:∃ x,ok x∧b=e x then some h.choose else none
theorem adN {α:Type} {ok:α→Prop} {e:α→List UInt8} (inj:∀ x y,ok x→ok y→e x=e y→x=y) (b:List UInt8) (x:α):rd ok e b=some x ↔ ok x∧b=e x:=by
 unfold rd
 constructor
 ·
  intro h
  split at h
  ·
   rename_i he
   cases h
   exact he.choose_spec
  ·
   cases h
 ·
  intro h
  have he:∃ x,ok x∧b=e x:=⟨x,h⟩
  rw [dif_pos he]
  exact congrArg some (inj _ _ he.choose_spec.1 h.1 (he.choose_spec.2.symm.trans h.2))
end Go.Proofs.Ytgggklfbhmlapaa
namespace Go.Proofs.Ytgggklfbhmlapaa
open Go.Abs
def txB (t:TxV):List UInt8:=encs [t.id,t.fee]
def afW (t:TxV):Value:=if wY t then .tuple #[by_ 2 (txB t),.int .i64 0] else .tuple #[.slice none 0 0,.int .i64 61]
theorem adZ {t:TxV} (h:wY t=true):(txB t).length≤20:=by
 obtain ⟨h1,h2,h3,h4⟩:=xO.mp h
 have:=xH (l:=[t.id,t.fee]) (by intro n hn;simp at hn;rcases hn with rfl | rfl <;> omega)
 exact this
theorem aeK (x y:Int):sv 2 1 2 [.int .i64 x,.int .i64 y]=iz 2 [x,y]:=rfl
theorem jy.v (t:TxV) (S:zx):zU zi O jy.id [tv t] S=some (afW t,S):=by
 obtain ⟨T,hTe⟩:∃ T,T=(tv t::zh::zh::zh::zh::zh::zh::zh::zh::zh::zh::zh::zh::zh::zh::zh::zh::zh::zh::[]):=⟨_,rfl⟩
 have hr:zI zi O false jy.code T zx.empty=zI zi O false jy.code T zx.empty:=rfl
 have l0:=ql (t:=3) (o:=0+0) (vZ t) J3 rfl
 have l1:=ql (t:=3) (o:=0+1) (vZ t) J3 rfl
 have lt:=Qq (vZ t)
 unfold afW
 by_cases h:wY t=true
 ·
  have hh:=xO.mp h
  have c1:=fun S=>zD.v (l:=[t.id,t.fee]) Okl.read (by decide) (by simp;omega) S
  conv at hr =>
   rhs
   rw [hTe]
   simp only [jy.code,jy.rs,zSs,reduceIte,zk,zn,zo,zq,box1,lt,xE,jL.v,h,kH,Jy,l0,l1,Vu,aeK,c1,Yl (l:=[t.id,t.fee]) (by simp) (by simp;omega) (by simp)]
  rw [hTe] at hr
  rw [if_pos h]
  exact jy.runs hr (.inr rfl) (by simp only [List.getD_cons_succ,List.getD_cons_zero,jD,jv,je,jm,jr]) rfl rfl (yR (all2 (qM (k:=2) (Nat.le_refl 2)) rfl))
 ·
  rw [Bool.not_eq_true] at h
  conv at hr =>
   rhs
   rw [hTe]
   simp only [jy.code,jy.rs,zSs,reduceIte,zk,zn,zo,zq,box1,lt,xE,jL.v,h]
  rw [hTe] at hr
  rw [if_neg (by rw [h];decide)]
  exact jy.runs hr (.inr rfl) rfl rfl rfl rfl
theorem WX (S:zx):yE zi 47 S=some (.pointer (some ⟨S.next,0,none⟩),S.push (.cells (fT ⟨0,0⟩) (.own []) 0)):=by kernel_rfl
theorem aaG (S:zx) (t:TxV):∃ S2,wX zi 47 (.pointer (some ⟨S.next,0,none⟩)) (tv t) (S.push (.cells (fT ⟨0,0⟩) (.own []) 0))=some (zh,S2)∧S2.get S.next=some (.cells (fT t) (.own []) 0)∧Ext S S2∧S.next < S2.next :=
 Y9 S (by rw [Zl,List.toList_toArray];rfl) xB rfl rfl
theorem afH {S S0:zx} {q:Nat} {u:TxV} (t:TxV) (hg:S.get q=some (.cells (fT u) (.own []) 0)) (hE:Ext S0 S) (hq:S0.next≤q):∃ S2,wX zi 47 (.pointer (some ⟨q,0,none⟩)) (tv t) S=some (zh,S2)∧S2.get q=some (.cells (fT t) (.own []) 0)∧Ext S0 S2∧S2.next=S.next∧∀ k,k≠q→S2.get k=S.get k :=
 Qy hg xB rfl rfl (by simp [fT]) hE hq
theorem afE {R:Type} {a b:Int} (r:Option R) (p:Zr r):okK (.agg [Value.int .i64 a,.int .i64 b].toArray) r p=r:=adJ rfl r p
theorem VH {S:zx} {q:Nat} {t:TxV} (h:S.get q=some (.cells (fT t) (.own []) 0)):jk zi false 47 (.pointer (some ⟨q,0,none⟩)) S=some (tv t,S):=Qq h
theorem adh {S:zx} {q:Nat} {t:TxV} (h:S.get q=some (.cells (fT t) (.own []) 0)):jk zi false 3 (.pointer (some ⟨q,0+0,none⟩)) S=some (.int .i64 t.id,S):=ql (t:=3) (o:=0+0) h J3 rfl
theorem agx (k:Nat) (hk:k≤2) (a b:Int) (h:k≠0) (S:zx):jg zi 53 (iz k [a,b]) (.int .i64 0) S=some (EP [.int .i64 a],S):=abQ ⟨hk,fun h0=>absurd h0 h⟩ (by decide) (by simp)
theorem agG (k:Nat) (hk:k≤2) (a b:Int) (h:k≠0) (S:zx):jg zi 53 (iz k [a,b]) (.int .i64 1) S=some (EP [.int .i64 b],S):=abQ ⟨hk,fun h0=>absurd h0 h⟩ (by decide) (by simp)
def ad5 (l:List UInt8):Value:=match wB 2 l with
 | some ([a,b],r)=>.tuple #[tv ⟨a,b⟩,by_ 2 r,.bool (wY ⟨a,b⟩)]
 | _=>.tuple #[tv ⟨0,0⟩,.slice none 0 0,.bool false]
theorem QW (l:List UInt8):wB 2 l=none∨∃ a b r,wB 2 l=some ([a,b],r)∧r.length≤l.length:=by
 cases h:wB 2 l with
 | none=>exact .inl rfl
 | some ar =>
  obtain ⟨a,r⟩:=ar
  obtain ⟨h1,h2⟩:=ZE h
  match a,h1 with
  | [x,y],_=>exact .inr ⟨x,y,r,rfl,h2⟩
theorem zZ.v {k:Nat} {l:List UInt8} (hk:Okl k l) (k2:k≠2) (hl:l.length≤140737488355328) (S:zx):zU zi O zZ.id [by_ k l] S=some (ad5 l,S):=by
 obtain ⟨T,hTe⟩:∃ T,T=(by_ k l::zh::zh::zh::zh::zh::zh::zh::zh::zh::zh::zh::zh::zh::zh::zh::zh::zh::zh::zh::zh::zh::zh::zh::zh::zh::zh::zh::zh::[]):=⟨_,rfl⟩
 have hr:zI zi O false zZ.code T zx.empty=zI zi O false zZ.code T zx.empty:=rfl
 have c1:=fun S=>zy.v (many:=2) hk k2 hl S
 have a1:=WX zx.empty
 have g1:(zx.empty.push (.cells (fT ⟨0,0⟩) (.own []) 0)).get 0=some (.cells (fT ⟨0,0⟩) (.own []) 0):=by kernel_rfl
 have n1:(zx.empty.push (.cells (fT ⟨0,0⟩) (.own []) 0)).next=1:=by kernel_rfl
 rw [show zx.empty.next=0 from rfl] at a1
 have r1:vG 0 (if k=0 then 0 else 2) 2 l=_:=vF (m:=2) (by decide) (by decide)
 rw [r1] at c1
 unfold ad5
 generalize hS1:zx.empty.push (.cells (fT ⟨0,0⟩) (.own []) 0)=S1 at a1 g1 n1
 rcases QW l with h | ⟨a,b,r,h,hlr⟩
 ·
  rw [h] at c1 ⊢
  obtain ⟨S2,p1,p2,p3,p4⟩:=afH ⟨0,0⟩ g1 (Ext.refl zx.empty |>.trans (hS1 ▸ Ext.push _ _)) (Nat.zero_le _)
  conv at hr =>
   rhs
   rw [hTe]
   simp only [zZ.code,zZ.rs,zSs,reduceIte,zk,zn,zo,zq,if_neg k2,a1,c1,aaU,p1]
  rw [hTe] at hr
  exact zZ.runs hr (.inr rfl) (VH p2) rfl rfl rfl (all1 (qM (k:=k) hk.le)) rfl
 ·
  rw [h] at c1 ⊢
  have e0:=agx 1 (by decide) a b (by decide)
  have e1:=agG 1 (by decide) a b (by decide)
  have c2:∀ S,zU zi O 47 [.agg [Value.int .i64 a,.int .i64 b].toArray] S=some (.bool (wY ⟨a,b⟩),S):=fun S=>jL.v ⟨a,b⟩ S
  obtain ⟨S2,p1,p2,p3,p4⟩:=aaG S1 ⟨a,b⟩
  have g2:S2.get 0=some (.cells (fT ⟨0,0⟩) (.own []) 0):=by rw [p3.get 0 (by omega),g1]
  obtain ⟨S3,q1,q2,q3,q4,q5⟩:=afH ⟨a,b⟩ g2 (Ext.trans (hS1 ▸ Ext.push _ _:Ext zx.empty S1) p3) (Nat.zero_le _)
  conv at hr =>
   rhs
   rw [hTe]
   simp only [zZ.code,zZ.rs,zSs,reduceIte,zk,zn,zo,zq,if_neg k2,a1,c1,e0,e1,kK,Ye (qZ) (qZ),WX,p1,VH p2,q1,c2,vN p2,afE]
  rw [hTe] at hr
  exact zZ.runs hr (.inr rfl) (VH q2) rfl (by simp only [List.getD_cons_succ,List.getD_cons_zero,jD,jv,je,jm,jr]) rfl (all1 (qM (k:=k) hk.le)) (yR (agz rfl (qM (k:=2) (Nat.le_refl 2)) rfl))
end Go.Proofs.Ytgggklfbhmlapaa
namespace Go.Abs
variable {K:Type}
def MapAt (enc:K→Value) (S:zx) (q:Nat) (m:List (K×Value)):Prop :=
 ∃ es c,S.get q=some (.map es c)∧es.map (fun e=>(e.key,e.val))=m.map fun p=>(enc p.1,p.2)
theorem aem {P:Program} {t:TypeId} (enc:K→Value) (S:zx):∃ S2,qm P t none S=some (.map (some S.next),S2)∧MapAt enc S2 S.next []∧S2.next=S.next+1∧(∀ j,j < S.next→S2.get j=S.get j)∧Ext S S2 :=
 ⟨_,rfl,⟨[],0,by rw [zx.jo,if_pos rfl],rfl⟩,by simp,fun j hj=>by rw [zx.jo,if_neg (by omega)],Ext.push _ _⟩
theorem MapAt.keep {enc:K→Value} {S:zx} {q:Nat} {m:List (K×Value)} {S2:zx} (h:MapAt enc S q m) (hg:S2.get q=S.get q):MapAt enc S2 q m:=by
 obtain ⟨es,c,h1,h2⟩:=h
 exact ⟨es,c,hg.trans h1,h2⟩
variable [DecidableEq K]
def X3:List (K×Value)→K→Option Value
 | [],_=>none
 | (a,v)::m,k=>if a=k then some v else X3 m k
def midx:List (K×Value)→K→Nat
 | [],_=>0
 | (a,_)::m,k=>if a=k then 0 else midx m k+1
def ae6:List (K×Value)→K→Value→List (K×Value)
 | [],k,x=>[(k,x)]
 | (a,v)::m,k,x=>if a=k then (k,x)::m else (a,v)::ae6 m k x
theorem Xq {m:List (K×Value)} {k:K} {x:Value} (h:X3 m k=none):ae6 m k x=m++[(k,x)]:=by
 induction m with
 | nil=>rfl
 | cons p m ih =>
  obtain ⟨a,v⟩:=p
  unfold X3 at h
  split at h
  ·
   cases h
  ·
   rename_i hn
   simp only [ae6,if_neg hn,ih h,List.cons_append]
structure acG (enc:K→Value) (kd:TypeDesc):Prop where
 kind:∀ k,vM kd (enc k)=true
 same:∀ a b,Instr.sameNow kd (enc a) (enc b)=some (decide (a=b))
theorem aa5:acG (fun n:Int=>Value.int .i64 n) (.int .i64):=⟨fun _=>rfl,fun a b=>by
 show (if IntKind.i64=IntKind.i64 then some (a == b) else none)=_
 rw [if_pos rfl];by_cases h:a=b <;> simp [h]⟩
theorem Js {enc:K→Value} {kd:TypeDesc} (hK:acG enc kd) (k:K):∀ (es:List MapEntry) (m:List (K×Value)) (i:Nat),es.map (fun e=>(e.key,e.val))=m.map (fun p=>(enc p.1,p.2)) →
  Instr.findNow kd (enc k) es i=some ((X3 m k).map fun v=>(i+midx m k,v)):=by
 intro es
 induction es with
 | nil =>
  intro m i h
  cases m with
  | nil=>rfl
  | cons p m=>simp at h
 | cons e es ih =>
  intro m i h
  cases m with
  | nil=>simp at h
  | cons p m =>
   obtain ⟨a,v⟩:=p
   simp only [List.map_cons,List.cons.injEq,Prod.mk.injEq] at h
   obtain ⟨⟨h1,h2⟩,h3⟩:=h
   simp only [Instr.findNow,h1,hK.same,X3,midx]
   by_cases hk:k=a
   ·
    simp [hk,h2]
   ·
    rw [decide_eq_false hk,if_neg (fun h=>hk h.symm),if_neg (fun h=>hk h.symm)]
    simp only []
    rw [ih m (i+1) h3]
    congr 2
    funext x
    congr 1
    omega
theorem aaj {enc:K→Value} {k:K} {x:Value}:∀ (es:List MapEntry) (m:List (K×Value)),es.map (fun e=>(e.key,e.val))=m.map (fun p=>(enc p.1,p.2))→X3 m k≠none →
  (es.modify (midx m k) fun e=>{ e with key:=enc k,val:=x }).map (fun e=>(e.key,e.val))=(ae6 m k x).map fun p=>(enc p.1,p.2):=by
 intro es
 induction es with
 | nil =>
  intro m h hn
  cases m with
  | nil=>exact absurd rfl hn
  | cons p m=>simp at h
 | cons e es ih =>
  intro m h hn
  cases m with
  | nil=>simp at h
  | cons p m =>
   obtain ⟨a,v⟩:=p
   simp only [List.map_cons,List.cons.injEq,Prod.mk.injEq] at h
   obtain ⟨⟨h1,h2⟩,h3⟩:=h
   simp only [midx,ae6]
   by_cases hk:a=k
   ·
    simp [hk,h3]
   ·
    rw [if_neg hk,if_neg hk,List.modify_succ_cons]
    have hn':X3 m k≠none:=by unfold X3 at hn;rwa [if_neg hk] at hn
    simp only [List.map_cons,ih m h3 hn',h1,h2]
variable {P:Program} {t kt et:TypeId} {kd:TypeDesc} {z:Value} {enc:K→Value} {S S0:zx} {q:Nat} {m:List (K×Value)}
theorem aeG (hK:acG enc kd) (hm:MapAt enc S q m) (ht:P.underlying t=some (.map kt et)) (hk:P.underlying kt=some kd) (hz:zeroOf P et=some z) (hg:ground z=true) (k:K) :
  qU P false t (.map (some q)) (enc k) false S=some ((X3 m k).getD z,S):=by
 obtain ⟨es,c,h1,h2⟩:=hm
 unfold qU jP
 simp only [Bool.false_eq_true,if_false,ht,hk,hK.kind,if_true,h1,Js hK k es m 0 h2]
 cases X3 m k with
 | none=>simp [hz,hg]
 | some v=>simp
theorem aec (hK:acG enc kd) (hm:MapAt enc S q m) (ht:P.underlying t=some (.map kt et)) (hk:P.underlying kt=some kd) (k:K) (x:Value) :
  ∃ S2,jS P t (.map (some q)) (enc k) x S=some (zh,S2)∧MapAt enc S2 q (ae6 m k x)∧S2.next=S.next∧(∀ j,j≠q→S2.get j=S.get j)∧(∀ S0,Ext S0 S→S0.next≤q→Ext S0 S2):=by
 obtain ⟨es,c,h1,h2⟩:=hm
 unfold jS
 simp only [ht,hk,hK.kind,if_true,h1,Js hK k es m 0 h2]
 cases hg:X3 m k with
 | none =>
  refine ⟨_,rfl,⟨es++[{ key:=enc k,val:=x,born:=c }],c+1,by rw [zx.jF,if_pos rfl],?_⟩,by simp,fun j hj=>by rw [zx.jF,if_neg hj],fun S0 hE hq=>hE.set hq _⟩
  rw [Xq hg]
  simp [h2]
 | some v =>
  refine ⟨_,rfl,⟨_,c,by simp only [Option.map_some,Nat.zero_add,zx.jF,if_true],aaj es m h2 (by rw [hg];simp)⟩,by simp,fun j hj=>by rw [zx.jF,if_neg hj],fun S0 hE hq=>hE.set hq _⟩
end Go.Abs
namespace Go.Proofs.Ytgggklfbhmlapaa
open Go.Abs
abbrev tl (k:Nat) (l:List TxV):Value:=vs fT 2 k l
theorem abB (t:TxV):(fT t).length=2:=rfl
theorem afc (t:TxV):(fT t).all (·.oneCell')=true:=rfl
theorem V5 {k:Nat} {l:List TxV} {S:zx} (h:Okl k l):JI zi 27 (tl k l) S=some (.int .i64 l.length,S):=abI xP h
theorem adL {k:Nat} {l pre suf:List TxV} {t:TxV} {S:zx} (h:Okl k l) (hl:l=pre++t::suf):jg zi 27 (tl k l) (.int .i64 pre.length) S=some (EP [.int .i64 t.id,.int .i64 t.fee],S):=by
 have h1:(pre.length:Int) < (l.length:Int):=by rw [hl];simp;omega
 rw [aeE xP xB abB h (by omega) h1,adp hl];rfl
theorem aeM {k:Nat} {l:List TxV} {t:TxV} {S:zx} (h:Okl k l) (hk:k≠1) (hl:l.length≤8796093022000):jI zi 27 27 (tl k l) (tl 2 [t]) S=some (tl 2 (l++[t]),S):=by
 rw [JG xP xB ac7 rfl acf (by omega) xP abB afc h hk Okl.own (by simp;omega) (by simp;omega),if_neg (fun h=>by have:=h.2;simp at this)]
theorem Xb {α:Type} (g:α→Int) (v:Value) (l:List α) (k:Int):X3 (l.map fun t=>(g t,v)) k=if k ∈ l.map g then some v else none:=by
 induction l with
 | nil=>rfl
 | cons t l ih =>
  simp only [List.map_cons,X3,ih,List.mem_cons]
  by_cases h:g t=k
  ·
   simp [h]
  ·
   have h':¬ k=g t:=fun e=>h e.symm
   simp [h,h']
abbrev kI:Int→Value:=fun n=>.int .i64 n
def unl (l:List TxV):Bool:=decide ((l.map TxV.id).Nodup) && decide (l.length≤3)
theorem zG.round {k:Nat} {l:List TxV} (hk:Okl k l) (hl:l.length≤8796093022208) {q:Nat}:∀ (suf pre:List TxV) {T:List Value} {S:zx} {r:St},yM (zI zi O false zG.jE) T S=r→T.length=24 →
  T.getD 0 zh=tl k l→T.getD 3 zh=.map (some q)→T.getD 7 zh=tl k l→T.getD 8 zh=.int .i64 l.length→T.getD 9 zh=.int .i64 pre.length→l=pre++suf →
  MapAt kI S q (pre.map fun t=>(t.id,.bool true))→q < S.next→(pre.map TxV.id).Nodup →
  ∃ e T' S',r=some (e,T',S')∧if (l.map TxV.id).Nodup then e=.exit 0∧T'.length=24∧T'.getD 0 zh=tl k l else e=.ret∧T'.getD 2 zh=.bool false:=by
 intro suf
 induction suf with
 | nil =>
  intro pre T S r hL hT h0 h3 h7 h8 h9 hpre hm hq hn
  have hTe:=zG.eta hT
  rw [h0,h3,h7,h8,h9] at hTe
  have hr:zI zi O false zG.jE T S=zI zi O false zG.jE T S:=rfl
  have d1:¬ (pre.length:Int) < (l.length:Int):=by rw [hpre];simp
  conv at hr =>
   rhs
   rw [hTe]
   simp only [zG.jE,zG.code,zG.rs,zSs,reduceIte,zk,zn,zo,zq,d1]
  refine ⟨_,_,_,hL.symm.trans (jH hr (by simp)),?_⟩
  rw [if_pos (by rw [hpre,List.append_nil];exact hn)]
  exact ⟨rfl,rfl,rfl⟩
 | cons t suf ih =>
  intro pre T S r hL hT h0 h3 h7 h8 h9 hpre hm hq hn
  have hTe:=zG.eta hT
  rw [h0,h3,h7,h8,h9] at hTe
  have hr:zI zi O false zG.jE T S=zI zi O false zG.jE T S:=rfl
  have d1:(pre.length:Int) < (l.length:Int):=by rw [hpre];simp;omega
  have e1:=fun S=>adL (S:=S) hk hpre
  have wi:IntKind.i64.wrap ((pre.length:Int)+1)=((pre++[t]).length:Int):=by rw [wrap_i64 (by omega) (by omega)];simp
  obtain ⟨S2,p1,p2,p3,p4⟩:=aaG S t
  have hm2:MapAt kI S2 q (pre.map fun t=>(t.id,.bool true)):=hm.keep (p3.get q hq)
  have m1:qU zi false 77 (.map (some q)) (.int .i64 t.id) false S2=_:=aeG aa5 hm2 ZT ac0 afi rfl t.id
  rw [Xb] at m1
  by_cases ht:t.id ∈ pre.map TxV.id
  ·
   rw [if_pos ht] at m1
   conv at hr =>
    rhs
    rw [hTe]
    simp only [zG.jE,zG.code,zG.rs,zSs,reduceIte,zk,zn,zo,zq,d1,e1,vT,WX,p1,kH,adh p2,m1,Option.getD_some]
   refine ⟨_,_,_,hL.symm.trans (jH hr (by simp)),?_⟩
   rw [if_neg (by rw [hpre];simp only [List.map_append,List.map_cons,List.nodup_append];intro h;exact h.2.2 _ ht _ (by simp) rfl)]
   exact ⟨rfl,rfl⟩
  ·
   rw [if_neg ht] at m1
   obtain ⟨S3,u1,u2,u3,u4,u5⟩:=aec aa5 hm2 ZT ac0 t.id (.bool true)
   have u1':jS zi 77 (.map (some q)) (.int .i64 t.id) (.bool true) S2=some (zh,S3):=u1
   rw [Xq (by rw [Xb,if_neg ht])] at u2
   conv at hr =>
    rhs
    rw [hTe]
    simp only [zG.jE,zG.code,zG.rs,zSs,reduceIte,zk,zn,zo,zq,d1,e1,vT,WX,p1,kH,adh p2,m1,Option.getD_none,u1',wi]
   refine ih (pre++[t]) ((yF hr).symm.trans hL) rfl rfl rfl rfl rfl rfl (by simp [hpre]) (by simpa using u2) (by omega) ?_
   simp only [List.map_append,List.map_cons,List.map_nil,List.nodup_append]
   exact ⟨hn,by simp,fun a ha b hb=>by simp at hb;subst hb;exact fun h=>ht (h ▸ ha)⟩
theorem zG.v {k:Nat} {l:List TxV} (hk:Okl k l) (k2:k≠2) (hl:l.length≤8796093022208) (S:zx):zU zi O zG.id [tl k l] S=some (.bool (unl l),S):=by
 obtain ⟨T,hTe⟩:∃ T,T=(tl k l::zh::zh::zh::zh::zh::zh::zh::zh::zh::zh::zh::zh::zh::zh::zh::zh::zh::zh::zh::zh::zh::zh::zh::[]):=⟨_,rfl⟩
 have hr:zI zi O false zG.code T zx.empty=zI zi O false zG.code T zx.empty:=rfl
 obtain ⟨S1,m1,m2,m3,m4,m5⟩:=aem (P:=zi) (t:=77) kI zx.empty
 conv at hr =>
  rhs
  rw [hTe]
  simp only [zG.code,zG.rs,zSs,reduceIte,zk,zn,zo,zq,m1,if_neg k2,V5 hk]
 generalize hL:yM (zI zi O false zG.jE) _ _=r at hr
 obtain ⟨e,T',S',rfl,g⟩:=zG.round hk hl l [] hL rfl rfl rfl rfl rfl rfl rfl m2 (by omega) List.nodup_nil
 unfold unl
 by_cases h:(l.map TxV.id).Nodup
 ·
  rw [if_pos h] at g
  obtain ⟨rfl,g2,g3⟩:=g
  have hTe':=zG.eta g2
  rw [g3] at hTe'
  have d3:decide ((l.length:Int)≤3)=decide (l.length≤3):=decide_eq_decide.mpr (by omega)
  conv at hr =>
   rhs
   rw [hTe']
   simp only [zG.code,zG.rs,zSs,reduceIte,zk,zn,zo,zq,if_neg k2,V5 hk,d3]
  rw [hTe] at hr
  rw [decide_eq_true h,Bool.true_and]
  exact zG.runs hr (.inr rfl) (all1 (xG hk.le fun _ _=>rfl)) rfl
 ·
  rw [if_neg h] at g
  obtain ⟨rfl,g2⟩:=g
  conv at hr =>
   rhs
   simp only [zSs,reduceIte,zk,zn,zo,zq]
  rw [hTe] at hr
  rw [decide_eq_false h,Bool.false_and]
  have hrun:=zG.runs (S:=S) hr (.inr rfl) (all1 (xG hk.le fun _ _=>rfl)) (by rw [g2];rfl)
  rw [g2] at hrun
  exact hrun
def qH (l:List TxV):Bool:=unl l && l.all wY
def flat (l:List TxV):List Int:=l.flatMap fun t=>[t.id,t.fee]
def XB (l:List TxV):List UInt8:=encs ((l.length:Int)::flat l)
def af0 (l:List TxV):Value:=if qH l then .tuple #[by_ 2 (XB l),.int .i64 0] else .tuple #[.slice none 0 0,.int .i64 61]
theorem Q5 (a b:List TxV):flat (a++b)=flat a++flat b:=by simp [flat]
theorem YE (l:List TxV):(flat l).length=2 * l.length:=by
 induction l with
 | nil=>rfl
 | cons t l ih=>rw [show flat (t::l)=[t.id,t.fee]++flat l from rfl,List.length_append,ih];simp;omega
theorem XU {l:List TxV} (h:∀ t ∈ l,wY t=true):∀ n ∈ flat l,0≤n∧n≤1000000:=by
 intro n hn
 simp only [flat,List.mem_flatMap] at hn
 obtain ⟨t,h1,h2⟩:=hn
 obtain ⟨b1,b2,b3,b4⟩:=xO.mp (h t h1)
 simp at h2
 omega
theorem yT (l:List TxV):XB l=encs [(l.length:Int)]++encs (flat l):=qA [(l.length:Int)] (flat l)
theorem Zj {l:List TxV} (h:∀ t ∈ l,wY t=true):(encs (flat l)).length≤20 * l.length:=by
 have h1:=xH (l:=flat l) (fun n hn=>by have:=XU h n hn;omega)
 rw [YE] at h1
 omega
theorem zK.round {k:Nat} {l:List TxV} (hk:Okl k l) (hl:l.length≤3) {A:List UInt8} (hA:A.length≤100):∀ (suf pre:List TxV) {T:List Value} {S:zx} {r:St},yM (zI zi O false zK.jE) T S=r→T.length=39 →
  T.getD 4 zh=by_ 2 (A++encs (flat pre))→T.getD 20 zh=tl k l→T.getD 21 zh=.int .i64 l.length→T.getD 22 zh=.int .i64 pre.length→l=pre++suf→(∀ t ∈ pre,wY t=true) →
  ∃ e T' S',r=some (e,T',S')∧if l.all wY=true then e=.exit 0∧T'.length=39∧T'.getD 4 zh=by_ 2 (A++encs (flat l)) else e=.ret∧T'.getD 2 zh=.slice none 0 0∧T'.getD 3 zh=.int .i64 61:=by
 intro suf
 induction suf with
 | nil =>
  intro pre T S r hL hT h4 h20 h21 h22 hpre hp
  have hTe:=zK.eta hT
  rw [h4,h20,h21,h22] at hTe
  have hr:zI zi O false zK.jE T S=zI zi O false zK.jE T S:=rfl
  have d1:¬ (pre.length:Int) < (l.length:Int):=by rw [hpre];simp
  conv at hr =>
   rhs
   rw [hTe]
   simp only [zK.jE,zK.code,zK.rs,zSs,reduceIte,zk,zn,zo,zq,d1]
  refine ⟨_,_,_,hL.symm.trans (jH hr (by simp)),?_⟩
  rw [List.append_nil] at hpre
  rw [hpre,if_pos (List.all_eq_true.mpr hp)]
  exact ⟨rfl,rfl,rfl⟩
 | cons t suf ih =>
  intro pre T S r hL hT h4 h20 h21 h22 hpre hp
  have hTe:=zK.eta hT
  rw [h4,h20,h21,h22] at hTe
  have hr:zI zi O false zK.jE T S=zI zi O false zK.jE T S:=rfl
  have d1:(pre.length:Int) < (l.length:Int):=by rw [hpre];simp;omega
  have e1:=fun S=>adL (S:=S) hk hpre
  have wi:IntKind.i64.wrap ((pre.length:Int)+1)=((pre++[t]).length:Int):=by rw [wrap_i64 (by omega) (by omega)];simp
  obtain ⟨S2,p1,p2,p3,p4⟩:=aaG S t
  have c1:∀ S,zU zi O 39 [.agg [Value.int .i64 t.id,.int .i64 t.fee].toArray] S=some (afW t,S):=fun S=>jy.v t S
  unfold afW at c1
  by_cases ht:wY t=true
  ·
   rw [if_pos ht] at c1
   have hb:=adZ ht
   have hf:=Zj hp
   have hpl:pre.length≤3:=by omega
   have ap:∀ S,jI zi 33 33 (by_ 2 (A++encs (flat pre))) (by_ 1 (txB t)) S=some (by_ 2 (A++encs (flat (pre++[t]))),S):=fun S=>by
    rw [qy Okl.own (by decide) Okl.read (by simp;omega),Q5,qA,← List.append_assoc];rfl
   conv at hr =>
    rhs
    rw [hTe]
    simp only [zK.jE,zK.code,zK.rs,zSs,reduceIte,zk,zn,zo,zq,d1,e1,vT,WX,p1,VH p2,c1,ap,wi]
   exact ih (pre++[t]) ((yF hr).symm.trans hL) rfl rfl rfl rfl rfl (by simp [hpre]) (fun x hx=>by rcases List.mem_append.1 hx with h | h;{ exact hp x h };{ simp at h;rw [h];exact ht })
  ·
   rw [if_neg ht] at c1
   conv at hr =>
    rhs
    rw [hTe]
    simp only [zK.jE,zK.code,zK.rs,zSs,reduceIte,zk,zn,zo,zq,d1,e1,vT,WX,p1,VH p2,c1]
   refine ⟨_,_,_,hL.symm.trans (jH hr (by simp)),?_⟩
   rw [if_neg (by rw [hpre];simp [ht])]
   exact ⟨rfl,rfl,rfl⟩
theorem zK.v {k:Nat} {l:List TxV} (hk:Okl k l) (k2:k≠2) (hl:l.length≤8796093022208) (S:zx):zU zi O zK.id [tl k l] S=some (af0 l,S):=by
 obtain ⟨T,hTe⟩:∃ T,T=(tl k l::zh::zh::zh::zh::zh::zh::zh::zh::zh::zh::zh::zh::zh::zh::zh::zh::zh::zh::zh::zh::zh::zh::zh::zh::zh::zh::zh::zh::zh::zh::zh::zh::zh::zh::zh::zh::zh::zh::[]):=⟨_,rfl⟩
 have hr:zI zi O false zK.code T zx.empty=zI zi O false zK.code T zx.empty:=rfl
 have c1:=fun S=>zG.v hk k2 hl S
 have cl:zT 16 (tl k l)=true:=xG hk.le fun _ _=>rfl
 unfold af0 qH
 by_cases hu:unl l=true
 ·
  have h3:l.length≤3:=by unfold unl at hu;simp at hu;exact hu.2
  have c2:=fun S=>zD.v (l:=[(l.length:Int)]) Okl.read (by decide) (by simp;omega) S
  have hA:(encs [(l.length:Int)]).length≤100:=by
   have:=xH (l:=[(l.length:Int)]) (by simp;omega)
   simp at this;omega
  conv at hr =>
   rhs
   rw [hTe]
   simp only [zK.code,zK.rs,zSs,reduceIte,zk,zn,zo,zq,if_neg k2,c1,hu,V5 hk,Ws,afO,c2,Yl (l:=[(l.length:Int)]) (by simp) (by intro n hn;simp at hn;omega) (by simp)]
  generalize hL:yM (zI zi O false zK.jE) _ _=r at hr
  obtain ⟨e,T',S',rfl,g⟩:=zK.round hk h3 hA l [] hL rfl (by rw [show flat []=[] from rfl,show encs []=[] from rfl,List.append_nil];rfl) rfl rfl rfl rfl (fun t h=>by cases h)
  by_cases ha:l.all wY=true
  ·
   rw [if_pos ha] at g
   obtain ⟨rfl,g2,g3⟩:=g
   have hTe':=zK.eta g2
   rw [g3] at hTe'
   conv at hr =>
    rhs
    rw [hTe']
    simp only [zK.code,zK.rs,zSs,reduceIte,zk,zn,zo,zq]
   rw [hTe] at hr
   rw [if_pos (by rw [hu,ha];rfl),yT]
   exact zK.runs hr (.inr rfl) (by simp only [List.getD_cons_succ,List.getD_cons_zero,jD,jv,je,jm,jr]) rfl (all1 cl) (yR (all2 (qM (k:=2) (Nat.le_refl 2)) rfl))
  ·
   rw [if_neg ha] at g
   obtain ⟨rfl,g2,g3⟩:=g
   conv at hr =>
    rhs
    simp only [zSs,reduceIte,zk,zn,zo,zq]
   rw [hTe] at hr
   rw [if_neg (by rw [hu,Bool.true_and];exact ha)]
   have hrun:=zK.runs (S:=S) hr (.inr rfl) (by rw [g2];rfl) (by rw [g3];rfl) (all1 cl) (by rw [g2,g3];rfl)
   rw [g2,g3] at hrun
   exact hrun
 ·
  rw [Bool.not_eq_true] at hu
  conv at hr =>
   rhs
   rw [hTe]
   simp only [zK.code,zK.rs,zSs,reduceIte,zk,zn,zo,zq,if_neg k2,c1,hu]
  rw [hTe] at hr
  rw [if_neg (by rw [hu];simp)]
  exact zK.runs hr (.inr rfl) rfl rfl (all1 cl) rfl
def good (l:List TxV):Prop:=(l.map TxV.id).Nodup∧∀ t ∈ l,wY t=true
theorem kC {l:List TxV}:qH l=true ↔ good l∧l.length≤3:=by
 unfold qH unl good
 simp [and_assoc,and_comm,and_left_comm]
end Go.Proofs.Ytgggklfbhmlapaa
namespace Go.Proofs.Ytgggklfbhmlapaa
open Go.Abs
theorem TxV.ext_iff' {t u:TxV}:t=u ↔ t.id=u.id∧t.fee=u.fee:=by cases t;cases u;simp
theorem aci:∀ {a b:List TxV},flat a=flat b→a=b:=by
 intro a
 induction a with
 | nil=>intro b h;cases b with
  | nil=>rfl
  | cons u b=>simp [flat] at h
 | cons t a ih =>
  intro b h
  cases b with
  | nil=>simp [flat] at h
  | cons u b =>
   have h':[t.id,t.fee]++flat a=[u.id,u.fee]++flat b:=h
   simp at h'
   rw [ih h'.2.2,TxV.ext_iff'.mpr ⟨h'.1,h'.2.1⟩]
theorem adC {l:List TxV} (h:∀ t ∈ l,wY t=true):∀ n ∈ flat l,Few n:=fun n hn=>by have:=XU h n hn;unfold Few;omega
theorem aaL {a b:List TxV} {r s:List UInt8} (la:a.length≤1000) (lb:b.length≤1000) (ha:∀ t ∈ a,wY t=true) (hb:∀ t ∈ b,wY t=true) (h:XB a++r=XB b++s):a=b∧r=s:=by
 rw [yT,yT,List.append_assoc,List.append_assoc] at h
 obtain ⟨h1,h2⟩:=Z4 (a:=[(a.length:Int)]) (c:=[(b.length:Int)]) rfl (by simp [Few];omega) (by simp [Few];omega) h
 simp at h1
 obtain ⟨h3,h4⟩:=Z4 (by rw [YE,YE];omega) (adC ha) (adC hb) h2
 exact ⟨aci h3,h4⟩
theorem XT {a b:List TxV} {r s:List UInt8} (ha:qH a=true) (hb:qH b=true) (h:XB a++r=XB b++s):a=b∧r=s:=by
 obtain ⟨h1,h2⟩:=kC.mp ha
 obtain ⟨h3,h4⟩:=kC.mp hb
 exact aaL (by omega) (by omega) h1.2 h3.2 h
noncomputable def qJ (l:List UInt8):Option (List TxV):=rd (fun t=>qH t=true) XB l
theorem ku (l:List UInt8) (t:List TxV):qJ l=some t ↔ qH t=true∧l=XB t :=
 adN (fun x y hx hy h=>(XT (r:=[]) (s:=[]) hx hy (by simpa using h)).1) l t
theorem X4 {l:List UInt8} (h:∀ t,¬ (qH t=true∧l=XB t)):qJ l=none:=by
 cases hr:qJ l with
 | none=>rfl
 | some t=>exact absurd ((ku l t).mp hr) (h t)
noncomputable def XP (k:Nat) (l:List UInt8):Value:=match qJ l with
 | some t=>.tuple #[tl (if t=[] then k else 2) t,.int .i64 0]
 | none=>.tuple #[.slice none 0 0,.int .i64 61]
def xX:Nat→List UInt8→Option (List TxV×List UInt8)
 | 0,l=>some ([],l)
 | m+1,l=>match wB 2 l with
  | some ([a,b],r)=>if wY ⟨a,b⟩ then (match xX m r with
   | some (x,y)=>some (⟨a,b⟩::x,y)
   | none=>none) else none
  | _=>none
theorem WM:∀ (m:Nat) (l:List UInt8) (a:List TxV) (b:List UInt8),xX m l=some (a,b) ↔ a.length=m∧(∀ t ∈ a,wY t=true)∧l=encs (flat a)++b:=by
 intro m
 induction m with
 | zero =>
  intro l a b
  constructor
  ·
   intro h;cases h;exact ⟨rfl,(fun t h=>by cases h),rfl⟩
  ·
   rintro ⟨h1,h2,h3⟩
   have:a=[]:=List.length_eq_zero_iff.mp h1
   subst this
   rw [h3];rfl
 | succ m ih =>
  intro l a b
  rw [xX]
  constructor
  ·
   intro h
   rcases QW l with hn | ⟨x,y,r,hn,hlr⟩
   ·
    rw [hn] at h;cases h
   ·
    rw [hn] at h
    dsimp only at h
    split at h
    ·
     rename_i hok
     cases hr:xX m r with
     | none=>rw [hr] at h;cases h
     | some ab =>
      obtain ⟨a',b'⟩:=ab
      rw [hr] at h
      obtain ⟨h1,h2,h3⟩:=(ih r a' b').mp hr
      cases h
      obtain ⟨f1,f2,f3⟩:=(wR _ _ _ _).mp hn
      refine ⟨by simp [h1],fun t ht=>?_,?_⟩
      ·
       rcases List.mem_cons.1 ht with rfl | ht
       ·
        exact hok
       ·
        exact h2 t ht
      ·
       rw [f2,h3,show flat (⟨x,y⟩::a')=[x,y]++flat a' from rfl,qA,List.append_assoc]
    ·
     cases h
  ·
   rintro ⟨h1,h2,h3⟩
   cases a with
   | nil=>simp at h1
   | cons t a =>
    have ht:=h2 t (by simp)
    obtain ⟨b1,b2,b3,b4⟩:=xO.mp ht
    have hn:=(wR 2 l [t.id,t.fee] (encs (flat a)++b)).mpr ⟨rfl,by rw [h3,show flat (t::a)=[t.id,t.fee]++flat a from rfl,qA,List.append_assoc],by simp [Few];omega⟩
    rw [hn]
    dsimp only
    rw [if_pos ht,(ih (encs (flat a)++b) a b).mpr ⟨by simpa using h1,fun u hu=>h2 u (by simp [hu]),rfl⟩]
theorem aeo (l:List UInt8):wB 1 l=none∨∃ a r,wB 1 l=some ([a],r)∧r.length≤l.length:=by
 cases h:wB 1 l with
 | none=>exact .inl rfl
 | some ar =>
  obtain ⟨a,r⟩:=ar
  obtain ⟨h1,h2⟩:=ZE h
  match a,h1 with
  | [x],_=>exact .inr ⟨x,r,rfl,h2⟩
theorem xC {l r:List UInt8} {n:Int} (h:wB 1 l=some ([n],r)) (t:List TxV):qJ l=some t ↔ 0≤n∧n≤3∧xX n.toNat r=some (t,[])∧unl t=true:=by
 obtain ⟨_,h2,h3⟩:=(wR _ _ _ _).mp h
 rw [ku,WM]
 constructor
 ·
  rintro ⟨g1,g2⟩
  obtain ⟨h5,h6⟩:=kC.mp g1
  rw [yT,h2] at g2
  obtain ⟨h7,h8⟩:=Z4 (a:=[n]) (c:=[(t.length:Int)]) rfl h3 (by simp [Few];omega) g2
  simp at h7
  refine ⟨by omega,by omega,⟨by omega,h5.2,by simpa using h8⟩,?_⟩
  unfold qH at g1
  simp at g1
  exact g1.1
 ·
  rintro ⟨g1,g2,⟨g3,g4,g5⟩,g6⟩
  refine ⟨?_,?_⟩
  ·
   unfold qH
   rw [g6,Bool.true_and,List.all_eq_true]
   exact g4
  ·
   have:n=(t.length:Int):=by omega
   rw [h2,g5,List.append_nil,yT,this]
theorem YQ {l:List UInt8} (h:wB 1 l=none):qJ l=none:=by
 refine X4 fun t ht=>?_
 obtain ⟨h5,h6⟩:=kC.mp ht.1
 have:=(wR 1 l [(t.length:Int)] (encs (flat t))).mpr ⟨rfl,by rw [ht.2,yT],by simp [Few];omega⟩
 rw [h] at this
 cases this
end Go.Proofs.Ytgggklfbhmlapaa
namespace Go.Proofs.Ytgggklfbhmlapaa
open Go.Abs
theorem afo (t:TxV) (S:zx):jl zi 27 1 [(0,tv t)] S=some (tl 2 [t],S):=by kernel_rfl
theorem agy (k:Nat) (hk:k≤2) (a:Int) (h:k≠0) (S:zx):jg zi 53 (iz k [a]) (.int .i64 0) S=some (EP [.int .i64 a],S):=abQ ⟨hk,fun h0=>absurd h0 h⟩ (by decide) (by simp)
theorem abk {k:Nat} (hk:k≤2) (l:List TxV):Okl (if l=[] then k else 2) l:=⟨by split <;> omega,fun h=>by split at h <;> first | assumption | omega⟩
theorem zA.round {n:Int} (hn:n≤3):∀ (m:Nat) (i:Int) (rest:List UInt8) (out:List TxV) {T:List Value} {S:zx} {r:St},yM (zI zi O false zA.jE) T S=r→T.length=59 →
  T.getD 5 zh=by_ 2 rest→T.getD 7 zh=tl (if out=[] then 0 else 2) out→T.getD 33 zh=.int .i64 n→T.getD 34 zh=.int .i64 i→0≤i→n=i+m→out.length≤3 - m→rest.length≤140737488355328 →
  ∃ e T' S',r=some (e,T',S')∧match xX m rest with
   | some (ts,r')=>e=.exit 0∧T'.length=59∧T'.getD 5 zh=by_ 2 r'∧T'.getD 7 zh=tl (if out++ts=[] then 0 else 2) (out++ts)
   | none=>e=.ret∧T'.getD 2 zh=.slice none 0 0∧T'.getD 3 zh=.int .i64 61:=by
 intro m
 induction m with
 | zero =>
  intro i rest out T S r hL hT h5 h7 h33 h34 hi hm ho hl
  have hTe:=zA.eta hT
  rw [h5,h7,h33,h34] at hTe
  have hr:zI zi O false zA.jE T S=zI zi O false zA.jE T S:=rfl
  have d1:¬ i < n:=by omega
  conv at hr =>
   rhs
   rw [hTe]
   simp only [zA.jE,zA.code,zA.rs,zSs,reduceIte,zk,zn,zo,zq,d1]
  refine ⟨_,_,_,hL.symm.trans (jH hr (by simp)),?_⟩
  rw [xX]
  exact ⟨rfl,rfl,rfl,by rw [List.append_nil];rfl⟩
 | succ m ih =>
  intro i rest out T S r hL hT h5 h7 h33 h34 hi hm ho hl
  have hTe:=zA.eta hT
  rw [h5,h7,h33,h34] at hTe
  have hr:zI zi O false zA.jE T S=zI zi O false zA.jE T S:=rfl
  have d1:i < n:=by omega
  have c1:=fun S=>zZ.v (k:=1) (l:=rest) Okl.read (by decide) hl S
  unfold ad5 at c1
  rw [xX]
  rcases QW rest with h | ⟨a,b,q,h,hlr⟩
  ·
   rw [h] at c1
   rw [h]
   obtain ⟨S2,p1,p2,p3,p4⟩:=aaG S ⟨0,0⟩
   conv at hr =>
    rhs
    rw [hTe]
    simp only [zA.jE,zA.code,zA.rs,zSs,reduceIte,zk,zn,zo,zq,d1,c1,WX,p1]
   exact ⟨_,_,_,hL.symm.trans (jH hr (by simp)),rfl,rfl,rfl⟩
  ·
   rw [h] at c1
   rw [h]
   obtain ⟨S2,p1,p2,p3,p4⟩:=aaG S ⟨a,b⟩
   by_cases hok:wY ⟨a,b⟩=true
   ·
    have wi:IntKind.i64.wrap (i+1)=i+1:=wrap_i64 (by omega) (by omega)
    have ap:∀ S,jI zi 27 27 (tl (if out=[] then 0 else 2) out) (tl 2 [⟨a,b⟩]) S=some (tl 2 (out++[⟨a,b⟩]),S):=fun S=>aeM ⟨by split <;> omega,fun h=>by split at h <;> first | assumption | omega⟩ (by split <;> omega) (by omega)
    have c2:∀ S,jl zi 27 1 [(0,.agg [Value.int .i64 a,.int .i64 b].toArray)] S=some (tl 2 [⟨a,b⟩],S):=fun S=>afo ⟨a,b⟩ S
    have c3:jk zi false 47 (.pointer (some ⟨S.next,0,none⟩)) S2=some (.agg [Value.int .i64 a,.int .i64 b].toArray,S2):=VH p2
    conv at hr =>
     rhs
     rw [hTe]
     simp only [zA.jE,zA.code,zA.rs,zSs,reduceIte,zk,zn,zo,zq,d1,c1,WX,p1,hok,c3,c2,ap,wi]
    obtain ⟨e,T',S',j1,j2⟩:=ih (i+1) q (out++[⟨a,b⟩]) ((yF hr).symm.trans hL) rfl rfl (by rw [show (if out++[TxV.mk a b]=[] then 0 else 2)=2 from if_neg (by simp)];rfl) rfl rfl (by omega) (by omega) (by simp;omega) (by omega)
    refine ⟨e,T',S',j1,?_⟩
    dsimp only
    rw [if_pos hok]
    cases hq:xX m q with
    | none=>rw [hq] at j2;exact j2
    | some tr =>
     obtain ⟨ts,r'⟩:=tr
     rw [hq] at j2
     dsimp only at j2 ⊢
     rw [List.append_assoc] at j2
     exact j2
   ·
    dsimp only
    rw [if_neg hok]
    rw [Bool.not_eq_true] at hok
    conv at hr =>
     rhs
     rw [hTe]
     simp only [zA.jE,zA.code,zA.rs,zSs,reduceIte,zk,zn,zo,zq,d1,c1,WX,p1,hok]
    exact ⟨_,_,_,hL.symm.trans (jH hr (by simp)),rfl,rfl,rfl⟩
theorem zA.v {k:Nat} {l:List UInt8} (hk:Okl k l) (k2:k≠2) (hl:l.length≤140737488355328) (S:zx):zU zi O zA.id [by_ k l] S=some (XP 0 l,S):=by
 obtain ⟨T,hTe⟩:∃ T,T=(by_ k l::zh::zh::zh::zh::zh::zh::zh::zh::zh::zh::zh::zh::zh::zh::zh::zh::zh::zh::zh::zh::zh::zh::zh::zh::zh::zh::zh::zh::zh::zh::zh::zh::zh::zh::zh::zh::zh::zh::zh::zh::zh::zh::zh::zh::zh::zh::zh::zh::zh::zh::zh::zh::zh::zh::zh::zh::zh::zh::[]):=⟨_,rfl⟩
 have hr:zI zi O false zA.code T zx.empty=zI zi O false zA.code T zx.empty:=rfl
 have c1:=fun S=>zy.v (many:=1) hk k2 hl S
 have r1:vG 0 (if k=0 then 0 else 2) 1 l=_:=vF (m:=1) (by decide) (by decide)
 rw [r1] at c1
 have cl:[by_ k l].all (zT 16)=true:=all1 (qM (k:=k) hk.le)
 unfold XP
 rcases aeo l with h | ⟨n,rest,h,hlr⟩
 ·
  rw [h] at c1
  rw [YQ h]
  conv at hr =>
   rhs
   rw [hTe]
   simp only [zA.code,zA.rs,zSs,reduceIte,zk,zn,zo,zq,if_neg k2,c1]
  rw [hTe] at hr
  exact zA.runs hr (.inr rfl) rfl rfl cl rfl
 ·
  rw [h] at c1
  have e0:=agy 1 (by decide) n (by decide)
  by_cases h0:n < 0
  ·
   have hno:qJ l=none:=by
    cases hx:qJ l with
    | none=>rfl
    | some t=>have:=(xC h t).mp hx;omega
   rw [hno]
   conv at hr =>
    rhs
    rw [hTe]
    simp only [zA.code,zA.rs,zSs,reduceIte,zk,zn,zo,zq,if_neg k2,c1,e0,kK,h0]
   rw [hTe] at hr
   exact zA.runs hr (.inr rfl) rfl rfl cl rfl
  ·
   by_cases h3:3 < n
   ·
    have hno:qJ l=none:=by
     cases hx:qJ l with
     | none=>rfl
     | some t=>have:=(xC h t).mp hx;omega
    rw [hno]
    conv at hr =>
     rhs
     rw [hTe]
     simp only [zA.code,zA.rs,zSs,reduceIte,zk,zn,zo,zq,if_neg k2,c1,e0,kK,h0,h3]
    rw [hTe] at hr
    exact zA.runs hr (.inr rfl) rfl rfl cl rfl
   ·
    conv at hr =>
     rhs
     rw [hTe]
     simp only [zA.code,zA.rs,zSs,reduceIte,zk,zn,zo,zq,if_neg k2,c1,e0,kK,h0,h3]
    generalize hL:yM (zI zi O false zA.jE) _ _=r at hr
    obtain ⟨e,T',S',rfl,g⟩:=zA.round (n:=n) (by omega) n.toNat 0 rest [] hL rfl rfl rfl rfl rfl (by omega) (by omega) (by simp) (by omega)
    cases hts:xX n.toNat rest with
    | none =>
     rw [hts] at g
     obtain ⟨rfl,g2,g3⟩:=g
     have hno:qJ l=none:=by
      cases hx:qJ l with
      | none=>rfl
      | some t=>have:=(xC h t).mp hx;rw [hts] at this;simp at this
     rw [hno]
     conv at hr =>
      rhs
      simp only [zSs,reduceIte,zk,zn,zo,zq]
     rw [hTe] at hr
     have hrun:=zA.runs (S:=S) hr (.inr rfl) (by rw [g2];rfl) (by rw [g3];rfl) cl (by rw [g2,g3];rfl)
     rw [g2,g3] at hrun
     exact hrun
    | some tr =>
     obtain ⟨ts,r'⟩:=tr
     rw [hts] at g
     obtain ⟨rfl,g2,g3,g4⟩:=g
     rw [List.nil_append] at g4
     have hTe':=zA.eta g2
     rw [g3,g4] at hTe'
     by_cases hr0:r'=[]
     ·
      subst hr0
      have hts3:ts.length≤3:=by have:=(WM _ _ _ _).mp hts;omega
      have c3:=fun S=>zG.v (abk (by decide) ts).dem (YO (if ts=[] then 0 else 2)) (by omega) S
      by_cases hu:unl ts=true
      ·
       have hyes:qJ l=some ts:=(xC h ts).mpr ⟨by omega,by omega,hts,hu⟩
       rw [hyes]
       conv at hr =>
        rhs
        rw [hTe']
        simp only [zA.code,zA.rs,zSs,reduceIte,zk,zn,zo,zq,Wn Okl.read,goInt,List.length_nil,Int.natCast_zero,Int.lt_irrefl,adg,c3,hu]
       rw [hTe] at hr
       exact zA.runs hr (.inr rfl) (by simp only [List.getD_cons_succ,List.getD_cons_zero,jD,jv,je,jm,jr]) rfl cl (yR (all2 (xG (abk (by decide) ts).le fun _ _=>rfl) rfl))
      ·
       have hno:qJ l=none:=by
        cases hx:qJ l with
        | none=>rfl
        | some t=>have:=(xC h t).mp hx;rw [hts] at this;simp at this;rw [this.2.2.1] at hu;exact absurd this.2.2.2 hu
       rw [hno]
       rw [Bool.not_eq_true] at hu
       conv at hr =>
        rhs
        rw [hTe']
        simp only [zA.code,zA.rs,zSs,reduceIte,zk,zn,zo,zq,Wn Okl.read,goInt,List.length_nil,Int.natCast_zero,Int.lt_irrefl,adg,c3,hu]
       rw [hTe] at hr
       exact zA.runs hr (.inr rfl) rfl rfl cl rfl
     ·
      have hp:(0:Int) < (r'.length:Int):=by have:=List.length_pos_iff.mpr hr0;omega
      have hno:qJ l=none:=by
       cases hx:qJ l with
       | none=>rfl
       | some t=>have:=(xC h t).mp hx;rw [hts] at this;simp at this;exact absurd this.2.2.1.2 hr0
      rw [hno]
      conv at hr =>
       rhs
       rw [hTe']
       simp only [zA.code,zA.rs,zSs,reduceIte,zk,zn,zo,zq,Wn Okl.read,goInt,decide_eq_true hp]
      rw [hTe] at hr
      exact zA.runs hr (.inr rfl) rfl rfl cl rfl
end Go.Proofs.Ytgggklfbhmlapaa
namespace Go.Proofs.Ytgggklfbhmlapaa
open Go.Abs
theorem XJ {k:Nat} {l:List Int} {i:Int} {x:Int} {m:Nat} (h:Okl k l) (hi:i=(m:Int)) (hx:l[m]?=some x) (S:zx):jg zi 53 (iz k l) (.int .i64 i) S=some (EP [.int .i64 x],S):=by
 obtain ⟨h1,h2⟩:=List.getElem?_eq_some_iff.mp hx
 subst hi
 rw [abQ h (by omega) (by omega)]
 simp [← h2]
end Go.Proofs.Ytgggklfbhmlapaa
namespace Go.Proofs.Ytgggklfbhmlapaa
open Go.Abs
theorem XF {l:List TxV} (h:qH l=true):(XB l).length≤100:=by
 obtain ⟨h1,h2⟩:=kC.mp h
 have h3:=Zj h1.2
 have h4:=xH (l:=[(l.length:Int)]) (by simp;omega)
 rw [yT,List.length_append]
 simp at h4
 omega
theorem KL {j:Nat} (hj:j≤2) (l:List UInt8):∃ k t e,Okl k t∧List.length t≤3∧XP j l=.tuple #[tl k t,.int .i64 e]∧((e=0∧qJ l=some t)∨(e=61∧qJ l=none∧t=[])):=by
 unfold XP
 cases h:qJ l with
 | none=>exact ⟨0,[],61,Okl.none,by simp,rfl,.inr ⟨rfl,rfl,rfl⟩⟩
 | some t=>exact ⟨_,t,0,abk hj t,(kC.mp ((ku l t).mp h).1).2,rfl,.inl ⟨rfl,rfl⟩⟩
theorem afn (x:(Ty.slc 16 tTx).Val) (hg:(Ty.slc 16 tTx).Good x):∃ k l,Okl k l∧k≠2∧(Ty.slc 16 tTx).Z7 x=[tl k l]∧l.length * 16≤140737488351232∧∀ t ∈ l,t.Ok :=
 afV (b:=16) fT TxV.Ok af8 abB x hg
end Go.Proofs.Ytgggklfbhmlapaa
namespace Go.Proofs.Ytgggklfbhmlapaa
open Go.Abs
structure qI where
 slot:Int
 miner:Int
 variant:Int
 parent:Int
 k:Nat
 txs:List TxV
def fBk (b:qI):List Value:=[.int .i64 b.slot,.int .i64 b.miner,.int .i64 b.variant,.int .i64 b.parent,tl b.k b.txs]
abbrev bv (b:qI):Value:=.agg [Value.int .i64 b.slot,.int .i64 b.miner,.int .i64 b.variant,.int .i64 b.parent,tl b.k b.txs].toArray
structure qI.Ok (b:qI):Prop where
 okl:Okl b.k b.txs
 ne:b.k≠2
 len:b.txs.length * 16≤140737488351232
 par:b.parent < 9223372036854775808
abbrev tBk:Ty:=.pair (.int .i64) (.pair (.int .i64) (.pair (.int .i64) (.pair (.int .i64) (.pair (.slc 16 tTx) .unit))))
def headB (b:qI):Bool:=btw b.slot 1 4095 && btw b.miner 0 6 && btw b.variant 0 255 && (decide (b.parent=0) || (ZQ b.parent && decide (b.parent / 65536 < b.slot)))
def zX (b:qI):Bool:=headB b && qH b.txs
def nameOf (b:qI):Int:=if zX b=true then b.slot * 65536+b.miner * 256+b.variant else 0
theorem vW {b:qI}:headB b=true ↔ (1≤b.slot∧b.slot≤4095)∧(0≤b.miner∧b.miner≤6)∧(0≤b.variant∧b.variant≤255)∧(b.parent=0∨(ZQ b.parent=true∧b.parent / 65536 < b.slot)):=by
 simp [headB,aaD,and_assoc]
theorem wW {b:qI} {d:Nat} (h:b.k≤2):zT (d+6) (bv b)=true:=by
 have h1:zT (d+5) (tl b.k b.txs)=true:=xG (d:=d+1) h fun _ _=>rfl
 refine abw ?_
 simp only [List.all_cons,List.all_nil,h1,Bool.and_true]
 rfl
abbrev agm (b:qI):zx:=zx.empty.push (.cells (fBk b) (.own []) 0)
theorem Vd (b:qI):Qg (bv b) zx.empty=some (.pointer (some ⟨0,0,none⟩),agm b):=rfl
theorem wP (b:qI):(agm b).get 0=some (.cells (fBk b) (.own []) 0):=rfl
theorem abY {S:zx} {q:Nat} {b:qI} (h:S.get q=some (.cells (fBk b) (.own []) 0)):jk zi false 3 (.pointer (some ⟨q,0+0,none⟩)) S=some (.int .i64 b.slot,S):=ql (t:=3) (o:=0+0) h J3 rfl
theorem acv {S:zx} {q:Nat} {b:qI} (h:S.get q=some (.cells (fBk b) (.own []) 0)):jk zi false 3 (.pointer (some ⟨q,0+1,none⟩)) S=some (.int .i64 b.miner,S):=ql (t:=3) (o:=0+1) h J3 rfl
theorem ad9 {S:zx} {q:Nat} {b:qI} (h:S.get q=some (.cells (fBk b) (.own []) 0)):jk zi false 3 (.pointer (some ⟨q,0+2,none⟩)) S=some (.int .i64 b.variant,S):=ql (t:=3) (o:=0+2) h J3 rfl
theorem afg {S:zx} {q:Nat} {b:qI} (h:S.get q=some (.cells (fBk b) (.own []) 0)):jk zi false 3 (.pointer (some ⟨q,0+3,none⟩)) S=some (.int .i64 b.parent,S):=ql (t:=3) (o:=0+3) h J3 rfl
theorem afe {S:zx} {q:Nat} {b:qI} (h:S.get q=some (.cells (fBk b) (.own []) 0)) (hk:b.k≠2):jk zi false 27 (.pointer (some ⟨q,0+4,none⟩)) S=some (tl b.k b.txs,S):=by
 rw [Xf (o:=0+4) (v:=tl b.k b.txs) h Vk rfl (fun l h=>by unfold tl vs sv at h;split at h <;> cases h),aaB,if_neg hk]
theorem QK {S:zx} {q:Nat} {b:qI} (h:S.get q=some (.cells (fBk b) (.own []) 0)) (hk:b.k≠2):jk zi false 29 (.pointer (some ⟨q,0,none⟩)) S=some (bv b,S):=by
 rw [QG h,xE,xE,xE,xE,aek,if_neg hk]
theorem zC.v {b:qI} (hb:b.Ok) (S:zx):zU zi O zC.id [bv b] S=some (.bool (zX b),S):=by
 obtain ⟨T,hTe⟩:∃ T,T=(bv b::zh::zh::zh::zh::zh::zh::zh::zh::zh::zh::zh::zh::zh::zh::zh::zh::zh::zh::zh::zh::zh::zh::zh::zh::zh::zh::zh::zh::zh::zh::zh::zh::zh::zh::zh::zh::zh::zh::zh::zh::zh::zh::zh::zh::zh::[]):=⟨_,rfl⟩
 have hr:zI zi O false zC.code T zx.empty=zI zi O false zC.code T zx.empty:=rfl
 have l0:=abY (wP b)
 have l1:=acv (wP b)
 have l2:=ad9 (wP b)
 have l3:=afg (wP b)
 have l4:=afe (wP b) hb.ne
 have c1:=fun S=>zK.v hb.okl hb.ne (by have:=hb.len;omega) S
 unfold af0 at c1
 cases h1:btw b.slot 1 4095
 ·
  have e:zX b=false:=by simp [zX,headB,h1]
  rw [e]
  conv at hr =>
   rhs
   rw [hTe]
   simp only [zC.code,zC.rs,zSs,reduceIte,zk,zn,zo,zq,Vd,jh,ji,jG,jK,jJ,l0,l1,l2,l3,l4,if_neg hb.ne,zJ.v,h1]
  rw [hTe] at hr
  exact zC.runs hr (.inr rfl) (all1 (wW hb.okl.le)) rfl
 ·
  cases h2:btw b.miner 0 6
  ·
   have e:zX b=false:=by simp [zX,headB,h1,h2]
   rw [e]
   conv at hr =>
    rhs
    rw [hTe]
    simp only [zC.code,zC.rs,zSs,reduceIte,zk,zn,zo,zq,Vd,jh,ji,jG,jK,jJ,l0,l1,l2,l3,l4,if_neg hb.ne,zJ.v,h1,h2]
   rw [hTe] at hr
   exact zC.runs hr (.inr rfl) (all1 (wW hb.okl.le)) rfl
  ·
   cases h3:btw b.variant 0 255
   ·
    have e:zX b=false:=by simp [zX,headB,h1,h2,h3]
    rw [e]
    conv at hr =>
     rhs
     rw [hTe]
     simp only [zC.code,zC.rs,zSs,reduceIte,zk,zn,zo,zq,Vd,jh,ji,jG,jK,jJ,l0,l1,l2,l3,l4,if_neg hb.ne,zJ.v,h1,h2,h3]
    rw [hTe] at hr
    exact zC.runs hr (.inr rfl) (all1 (wW hb.okl.le)) rfl
   ·
    by_cases h4:b.parent=0
    ·
     by_cases h7:qH b.txs=true
     ·
      rw [if_pos h7] at c1
      have e:zX b=true:=by simp [zX,headB,h1,h2,h3,h4,h7]
      rw [e]
      conv at hr =>
       rhs
       rw [hTe]
       simp only [zC.code,zC.rs,zSs,reduceIte,zk,zn,zo,zq,Vd,jh,ji,jG,jK,jJ,l0,l1,l2,l3,l4,if_neg hb.ne,zJ.v,h1,h2,h3,decide_eq_true h4,c1]
      rw [hTe] at hr
      exact zC.runs hr (.inr rfl) (all1 (wW hb.okl.le)) rfl
     ·
      rw [if_neg h7] at c1
      have e:zX b=false:=by simp [zX,h7]
      rw [e]
      conv at hr =>
       rhs
       rw [hTe]
       simp only [zC.code,zC.rs,zSs,reduceIte,zk,zn,zo,zq,Vd,jh,ji,jG,jK,jJ,l0,l1,l2,l3,l4,if_neg hb.ne,zJ.v,h1,h2,h3,decide_eq_true h4,c1]
      rw [hTe] at hr
      exact zC.runs hr (.inr rfl) (all1 (wW hb.okl.le)) rfl
    ·
     cases h5:ZQ b.parent
     ·
      have e:zX b=false:=by simp [zX,headB,h1,h2,h3,h4,h5]
      rw [e]
      conv at hr =>
       rhs
       rw [hTe]
       simp only [zC.code,zC.rs,zSs,reduceIte,zk,zn,zo,zq,Vd,jh,ji,jG,jK,jJ,l0,l1,l2,l3,l4,if_neg hb.ne,zJ.v,h1,h2,h3,decide_eq_false h4,zV.v,h5]
      rw [hTe] at hr
      exact zC.runs hr (.inr rfl) (all1 (wW hb.okl.le)) rfl
     ·
      have hn:=JO.mp h5
      have q1:IntKind.i64.wrap (b.parent.tdiv 65536)=b.parent / 65536:=by rw [Xm (by omega),wrap_i64 (by omega) (by omega)]
      by_cases h6:b.parent / 65536 < b.slot
      ·
       have h6':¬ b.slot≤b.parent / 65536:=by omega
       by_cases h7:qH b.txs=true
       ·
        rw [if_pos h7] at c1
        have e:zX b=true:=by simp [zX,headB,h1,h2,h3,h4,h5,h6,h7]
        rw [e]
        conv at hr =>
         rhs
         rw [hTe]
         simp only [zC.code,zC.rs,zSs,reduceIte,zk,zn,zo,zq,Vd,jh,ji,jG,jK,jJ,l0,l1,l2,l3,l4,if_neg hb.ne,zJ.v,h1,h2,h3,decide_eq_false h4,zV.v,h5,Ja _ _ _ Xc,q1,decide_eq_false h6',c1]
        rw [hTe] at hr
        exact zC.runs hr (.inr rfl) (all1 (wW hb.okl.le)) rfl
       ·
        rw [if_neg h7] at c1
        have e:zX b=false:=by simp [zX,h7]
        rw [e]
        conv at hr =>
         rhs
         rw [hTe]
         simp only [zC.code,zC.rs,zSs,reduceIte,zk,zn,zo,zq,Vd,jh,ji,jG,jK,jJ,l0,l1,l2,l3,l4,if_neg hb.ne,zJ.v,h1,h2,h3,decide_eq_false h4,zV.v,h5,Ja _ _ _ Xc,q1,decide_eq_false h6',c1]
        rw [hTe] at hr
        exact zC.runs hr (.inr rfl) (all1 (wW hb.okl.le)) rfl
      ·
       have h6':b.slot≤b.parent / 65536:=by omega
       have e:zX b=false:=by simp [zX,headB,h1,h2,h3,h4,h5,h6]
       rw [e]
       conv at hr =>
        rhs
        rw [hTe]
        simp only [zC.code,zC.rs,zSs,reduceIte,zk,zn,zo,zq,Vd,jh,ji,jG,jK,jJ,l0,l1,l2,l3,l4,if_neg hb.ne,zJ.v,h1,h2,h3,decide_eq_false h4,zV.v,h5,Ja _ _ _ Xc,q1,decide_eq_true h6']
       rw [hTe] at hr
       exact zC.runs hr (.inr rfl) (all1 (wW hb.okl.le)) rfl
theorem zY.v {b:qI} (hb:b.Ok) (S:zx):zU zi O zY.id [bv b] S=some (.int .i64 (nameOf b),S):=by
 obtain ⟨T,hTe⟩:∃ T,T=(bv b::zh::zh::zh::zh::zh::zh::zh::zh::zh::zh::zh::zh::zh::zh::zh::[]):=⟨_,rfl⟩
 have hr:zI zi O false zY.code T zx.empty=zI zi O false zY.code T zx.empty:=rfl
 have l0:=abY (wP b)
 have l1:=acv (wP b)
 have l2:=ad9 (wP b)
 have lb:=QK (wP b) hb.ne
 have c1:=fun S=>zC.v hb S
 unfold nameOf
 cases hR:zX b
 ·
  rw [hR] at c1
  conv at hr =>
   rhs
   rw [hTe]
   simp only [zY.code,zY.rs,zSs,reduceIte,zk,zn,zo,zq,Vd,lb,c1]
  rw [hTe] at hr
  exact zY.runs hr (.inr rfl) (all1 (wW hb.okl.le)) rfl
 ·
  rw [hR] at c1
  have hh:=hR
  simp only [zX,Bool.and_eq_true,vW] at hh
  obtain ⟨⟨h1,h2,h3,_⟩,_⟩:=hh
  have w1:IntKind.i64.wrap (b.slot * 65536)=b.slot * 65536:=wrap_i64 (by omega) (by omega)
  have w2:IntKind.i64.wrap (b.miner * 256)=b.miner * 256:=wrap_i64 (by omega) (by omega)
  have w3:IntKind.i64.wrap (b.slot * 65536+b.miner * 256)=b.slot * 65536+b.miner * 256:=wrap_i64 (by omega) (by omega)
  have w4:IntKind.i64.wrap (b.slot * 65536+b.miner * 256+b.variant)=b.slot * 65536+b.miner * 256+b.variant:=wrap_i64 (by omega) (by omega)
  conv at hr =>
   rhs
   rw [hTe]
   simp only [zY.code,zY.rs,zSs,reduceIte,zk,zn,zo,zq,Vd,lb,c1,jh,ji,jG,l0,l1,l2,w1,w2,w3,w4]
  rw [hTe] at hr
  exact zY.runs hr (.inr rfl) (all1 (wW hb.okl.le)) rfl
end Go.Proofs.Ytgggklfbhmlapaa
namespace Go.Proofs.Ytgggklfbhmlapaa
open Go.Abs
def vP (b:qI):List UInt8:=encs [b.slot,b.miner,b.variant,b.parent]++XB b.txs
def abH (b:qI):Value:=if zX b then .tuple #[by_ 2 (vP b),.int .i64 0] else .tuple #[.slice none 0 0,.int .i64 71]
theorem vX {b:qI} (h:headB b=true):∀ n ∈ [b.slot,b.miner,b.variant,b.parent],0≤n∧n≤268435455:=by
 obtain ⟨h1,h2,h3,h4⟩:=vW.mp h
 have h5:0≤b.parent∧b.parent≤268435455:=by
  rcases h4 with h4 | ⟨h4,_⟩
  ·
   omega
  ·
   have:=JO.mp h4;omega
 intro n hn
 simp only [List.mem_cons,List.not_mem_nil,or_false] at hn
 rcases hn with rfl | rfl | rfl | rfl <;> omega
theorem bs4 (a b c d:Int) (S:zx):jl zi 53 4 [(0,.int .i64 a),(1,.int .i64 b),(2,.int .i64 c),(3,.int .i64 d)] S=some (iz 2 [a,b,c,d],S):=by kernel_rfl
theorem XI {b:qI} (h:headB b=true):(encs [b.slot,b.miner,b.variant,b.parent]).length≤40:=by
 have h1:=vX h
 have:=xH (l:=[b.slot,b.miner,b.variant,b.parent]) (fun n hn=>by have:=h1 n hn;omega)
 exact this
theorem zQ.v {b:qI} (hb:b.Ok) (S:zx):zU zi O zQ.id [bv b] S=some (abH b,S):=by
 obtain ⟨T,hTe⟩:∃ T,T=(bv b::zh::zh::zh::zh::zh::zh::zh::zh::zh::zh::zh::zh::zh::zh::zh::zh::zh::zh::zh::zh::zh::zh::zh::zh::zh::zh::zh::zh::zh::zh::zh::zh::[]):=⟨_,rfl⟩
 have hr:zI zi O false zQ.code T zx.empty=zI zi O false zQ.code T zx.empty:=rfl
 have l0:=abY (wP b)
 have l1:=acv (wP b)
 have l2:=ad9 (wP b)
 have l3:=afg (wP b)
 have l4:=afe (wP b) hb.ne
 have lb:=QK (wP b) hb.ne
 have c1:=fun S=>zC.v hb S
 unfold abH
 cases hR:zX b
 ·
  rw [hR] at c1
  conv at hr =>
   rhs
   rw [hTe]
   simp only [zQ.code,zQ.rs,zSs,reduceIte,zk,zn,zo,zq,Vd,lb,c1]
  rw [hTe] at hr
  exact zQ.runs hr (.inr rfl) rfl rfl (all1 (wW hb.okl.le)) rfl
 ·
  rw [hR] at c1
  have hh:headB b=true∧qH b.txs=true:=by simpa [zX] using hR
  have few:=vX hh.1
  have c2:=fun S=>zD.v (l:=[b.slot,b.miner,b.variant,b.parent]) Okl.read (by decide) (fun n hn=>by have:=few n hn;omega) S
  have n2:=Yl (k:=0) (l:=[b.slot,b.miner,b.variant,b.parent]) (by simp) (fun n hn=>by have:=few n hn;omega) (by simp)
  have c3:=fun S=>zK.v hb.okl hb.ne (by have:=hb.len;omega) S
  have t3:af0 b.txs=.tuple #[by_ 2 (XB b.txs),.int .i64 0]:=if_pos hh.2
  have ap:∀ S,jI zi 33 33 (by_ 2 (encs [b.slot,b.miner,b.variant,b.parent])) (by_ 1 (XB b.txs)) S=some (by_ 2 (vP b),S):=fun S=>by
   rw [qy Okl.own (by decide) Okl.read (by have:=XI hh.1;have:=XF hh.2;omega)];rfl
  conv at hr =>
   rhs
   rw [hTe]
   simp only [zQ.code,zQ.rs,zSs,reduceIte,zk,zn,zo,zq,Vd,lb,c1,jh,ji,jG,jK,jJ,l0,l1,l2,l3,l4,if_neg hb.ne,bs4,c2,n2,c3,t3,ap]
  rw [hTe] at hr
  exact zQ.runs hr (.inr rfl) (by simp only [List.getD_cons_succ,List.getD_cons_zero,jD,jv,je,jm,jr]) rfl (all1 (wW hb.okl.le)) (yR (all2 (qM (k:=2) (Nat.le_refl 2)) rfl))
end Go.Proofs.Ytgggklfbhmlapaa
namespace Go.Proofs.Ytgggklfbhmlapaa
open Go.Abs
theorem afP {α:Type} {f:α→List Value} {e k:Nat} {l:List α} {d:Nat}:okq d (vs f e k l)=true:=by unfold vs sv;cases d <;> split <;> rfl
theorem Ze {R:Type} {a b c d:Int} {k:Nat} {l:List TxV} (r:Option R) (p:Zr r):okK (.agg [Value.int .i64 a,.int .i64 b,.int .i64 c,.int .i64 d,tl k l].toArray) r p=r:=adJ (by
 show ([Value.int .i64 a,.int .i64 b,.int .i64 c,.int .i64 d,tl k l].toArray.toList.all (okq 2))=true
 simp only [List.toList_toArray,List.all_cons,List.all_nil,afP,Bool.and_true]
 rfl) r p
theorem VF (b:qI):∃ k x e,Okl k x∧List.length x≤140∧abH b=.tuple #[by_ k x,.int .i64 e]∧((e=0∧zX b=true∧x=vP b∧k=2)∨(e=71∧zX b=false∧x=[]∧k=0)):=by
 unfold abH
 by_cases h:zX b=true
 ·
  have hh:headB b=true∧qH b.txs=true:=by simpa [zX] using h
  exact ⟨2,vP b,0,Okl.own,by unfold vP;rw [List.length_append];have:=XI hh.1;have:=XF hh.2;omega,by rw [if_pos h],.inl ⟨rfl,h,rfl,rfl⟩⟩
 ·
  exact ⟨0,[],71,Okl.none,by simp,by rw [if_neg h];rfl,.inr ⟨rfl,by simpa using h,rfl,rfl⟩⟩
theorem afm (b:qI) (S:zx):∃ S2,Qg (bv b) S=some (.pointer (some ⟨S.next,0,none⟩),S2)∧S2.get S.next=some (.cells (fBk b) (.own []) 0)∧Ext S S2∧S.next < S2.next:=aft (bv b) S
theorem jA.v (S:zx):zU zi O 11 [] S=some (.bool true,S):=acV (n:=20) (by kernel_rfl)
theorem af4 (x:tBk.Val) (hg:tBk.Good x):∃ b:qI,tBk.Z7 x=fBk b∧b.Ok:=by
 obtain ⟨s,m,v,p,ts,u⟩:=x
 obtain ⟨h1,h2,h3,h4,h5,_⟩:=hg
 obtain ⟨k,l,p1,p2,p3,p4,p5⟩:=afn ts h5
 refine ⟨⟨s,m,v,p,k,l⟩,?_,⟨p1,p2,p4,(aa0 h4).2⟩⟩
 show [Value.int .i64 s]++([Value.int .i64 m]++([Value.int .i64 v]++([Value.int .i64 p]++((Ty.slc 16 tTx).Z7 ts++[]))))=_
 rw [p3];rfl
end Go.Proofs.Ytgggklfbhmlapaa
namespace Go.Proofs.Ytgggklfbhmlapaa
open Go.Abs
abbrev bk0:qI:=⟨0,0,0,0,0,[]⟩
theorem JY (S:zx):yE zi 29 S=some (.pointer (some ⟨S.next,0,none⟩),S.push (.cells (fBk bk0) (.own []) 0)):=by kernel_rfl
theorem adR (b:qI):(fBk b).all (·.oneCell')=true:=by
 simp only [fBk,List.all_cons,List.all_nil,aef,afA,Bool.and_true]
theorem acH (S:zx) (b:qI):∃ S2,wX zi 29 (.pointer (some ⟨S.next,0,none⟩)) (bv b) (S.push (.cells (fBk bk0) (.own []) 0))=some (zh,S2)∧S2.get S.next=some (.cells (fBk b) (.own []) 0)∧Ext S S2∧S.next < S2.next :=
 Y9 S (by rw [Zl,List.toList_toArray];rfl) vH rfl (adR b)
theorem acJ {S S0:zx} {q:Nat} {u:qI} (b:qI) (hg:S.get q=some (.cells (fBk u) (.own []) 0)) (hE:Ext S0 S) (hq:S0.next≤q):∃ S2,wX zi 29 (.pointer (some ⟨q,0,none⟩)) (bv b) S=some (zh,S2)∧S2.get q=some (.cells (fBk b) (.own []) 0)∧Ext S0 S2∧S2.next=S.next∧∀ k,k≠q→S2.get k=S.get k :=
 Qy hg vH rfl (adR b) (by simp [fBk]) hE hq
theorem Yb {x y:qI} {r s:List UInt8} (hx:zX x=true) (hy:zX y=true) (h:vP x++r=vP y++s):(x.slot=y.slot∧x.miner=y.miner∧x.variant=y.variant∧x.parent=y.parent∧x.txs=y.txs)∧r=s:=by
 have h1:headB x=true∧qH x.txs=true:=by simpa [zX] using hx
 have h2:headB y=true∧qH y.txs=true:=by simpa [zX] using hy
 have f1:=vX h1.1
 have f2:=vX h2.1
 unfold vP at h
 rw [List.append_assoc,List.append_assoc] at h
 obtain ⟨e1,e2⟩:=Z4 (a:=[x.slot,x.miner,x.variant,x.parent]) (c:=[y.slot,y.miner,y.variant,y.parent]) rfl (fun n hn=>by have:=f1 n hn;unfold Few;omega) (fun n hn=>by have:=f2 n hn;unfold Few;omega) h
 obtain ⟨e3,e4⟩:=XT h1.2 h2.2 e2
 simp only [List.cons.injEq,and_true] at e1
 exact ⟨⟨e1.1,e1.2.1,e1.2.2.1,e1.2.2.2,e3⟩,e4⟩
noncomputable def aaP (l:List UInt8):Option qI:=rd (fun b=>zX b=true∧b.k=0) vP l
theorem af7 {x y:qI} (h:x.slot=y.slot∧x.miner=y.miner∧x.variant=y.variant∧x.parent=y.parent∧x.txs=y.txs) (hk:x.k=y.k):x=y:=by
 cases x;cases y
 simp at h hk
 obtain ⟨rfl,rfl,rfl,rfl,rfl⟩:=h
 rw [hk]
theorem Xl (l:List UInt8) (b:qI):aaP l=some b ↔ (zX b=true∧b.k=0)∧l=vP b :=
 adN (fun x y hx hy h=>af7 (Yb (r:=[]) (s:=[]) hx.1 hy.1 (by rw [List.append_nil,List.append_nil];exact h)).1 (hx.2.trans hy.2.symm)) l b
theorem kW {l:List UInt8} (h:∀ b:qI,b.k=0→zX b=true→l≠vP b):aaP l=none:=by
 cases hr:aaP l with
 | none=>rfl
 | some b=>obtain ⟨⟨h1,h2⟩,h3⟩:=(Xl l b).mp hr;exact absurd h3 (h b h2 h1)
theorem adT (l:List UInt8):wB 4 l=none∨∃ a b c d r,wB 4 l=some ([a,b,c,d],r)∧r.length≤l.length:=by
 cases h:wB 4 l with
 | none=>exact .inl rfl
 | some ar =>
  obtain ⟨a,r⟩:=ar
  obtain ⟨h1,h2⟩:=ZE h
  match a,h1 with
  | [x,y,z,w],_=>exact .inr ⟨x,y,z,w,r,rfl,h2⟩
theorem KP {l r:List UInt8} {b:qI} (hb:zX b=true) (h:l=vP b++r):wB 4 l=some ([b.slot,b.miner,b.variant,b.parent],XB b.txs++r):=by
 have h1:headB b=true∧qH b.txs=true:=by simpa [zX] using hb
 have f1:=vX h1.1
 exact (wR _ _ _ _).mpr ⟨rfl,by rw [h,vP,List.append_assoc],fun n hn=>by have:=f1 n hn;unfold Few;omega⟩
theorem Ve {l:List UInt8} (h:wB 4 l=none):aaP l=none:=kW fun b _ hb hl=>by
 have:=KP (l:=l) (r:=[]) hb (by rw [List.append_nil];exact hl)
 rw [h] at this;cases this
theorem X8 {l r:List UInt8} {a b c d:Int} (h:wB 4 l=some ([a,b,c,d],r)) (h2:qJ r=none):aaP l=none:=kW fun x _ hb hl=>by
 have:=KP (l:=l) (r:=[]) hb (by rw [List.append_nil];exact hl)
 rw [h] at this
 simp only [Option.some.injEq,Prod.mk.injEq,List.append_nil] at this
 have h1:headB x=true∧qH x.txs=true:=by simpa [zX] using hb
 rw [(ku r x.txs).mpr ⟨h1.2,this.2⟩] at h2
 cases h2
theorem aaN {l r:List UInt8} {a b c d:Int} {ts:List TxV} (h:wB 4 l=some ([a,b,c,d],r)) (h2:qJ r=some ts):aaP l=if zX ⟨a,b,c,d,0,ts⟩=true then some ⟨a,b,c,d,0,ts⟩ else none:=by
 obtain ⟨_,g2,_⟩:=(wR _ _ _ _).mp h
 obtain ⟨t1,t2⟩:=(ku r ts).mp h2
 split
 ·
  rename_i hR
  exact (Xl _ _).mpr ⟨⟨hR,rfl⟩,by rw [g2,t2];rfl⟩
 ·
  rename_i hR
  refine kW fun x _ hb hl=>hR ?_
  have:=KP (l:=l) (r:=[]) hb (by rw [List.append_nil];exact hl)
  rw [h] at this
  simp only [Option.some.injEq,Prod.mk.injEq,List.append_nil,List.cons.injEq,and_true] at this
  have h1:headB x=true∧qH x.txs=true:=by simpa [zX] using hb
  have h3:=(ku r x.txs).mpr ⟨h1.2,this.2⟩
  rw [h2] at h3
  injection h3 with h3
  obtain ⟨⟨i1,i2,i3,i4⟩,_⟩:=this
  rw [i1,i2,i3,i4,h3]
  exact hb
theorem abT (a b c d:Int) (k j:Nat) (t:List TxV):zX ⟨a,b,c,d,k,t⟩=zX ⟨a,b,c,d,j,t⟩:=rfl
def aaX (l:List UInt8) (b:qI) (e:Int):Prop:=b.Ok∧b.txs.length≤3∧((e=0∧aaP l=some ⟨b.slot,b.miner,b.variant,b.parent,0,b.txs⟩∧zX b=true)∨(e=71∧aaP l=none∧b=bk0))
theorem ok0:bk0.Ok:=⟨Okl.none,by decide,by simp,by decide⟩
theorem zH.v {k:Nat} {l:List UInt8} (hk:Okl k l) (k2:k≠2) (hl:l.length≤140737488355328):∃ b e,aaX l b e∧∀ S,zU zi O zH.id [by_ k l] S=some (.tuple #[bv b,.int .i64 e],S):=by
 have a1:=JY zx.empty
 have g1:(zx.empty.push (.cells (fBk bk0) (.own []) 0)).get 0=some (.cells (fBk bk0) (.own []) 0):=by kernel_rfl
 have n1:(zx.empty.push (.cells (fBk bk0) (.own []) 0)).next=1:=by kernel_rfl
 rw [show zx.empty.next=0 from rfl] at a1
 have hE1:Ext zx.empty (zx.empty.push (.cells (fBk bk0) (.own []) 0)):=Ext.push _ _
 have cl:[by_ k l].all (zT 16)=true:=all1 (qM (k:=k) hk.le)
 obtain ⟨T,hTe⟩:∃ T,T=(by_ k l::zh::zh::zh::zh::zh::zh::zh::zh::zh::zh::zh::zh::zh::zh::zh::zh::zh::zh::zh::zh::zh::zh::zh::zh::zh::zh::zh::zh::zh::zh::zh::zh::zh::zh::zh::zh::zh::zh::zh::zh::zh::zh::zh::zh::zh::[]):=⟨_,rfl⟩
 have hr:zI zi O false zH.code T zx.empty=zI zi O false zH.code T zx.empty:=rfl
 have c1:=fun S=>zy.v (many:=4) hk k2 hl S
 have r1:∀ k0 k1,vG k0 k1 4 l=_:=fun k0 k1=>vF (m:=4) (by decide) (by decide)
 rw [r1] at c1
 have z0:∀ S,wQ zi 29 [] S=some (bv bk0,S):=fun S=>Qh S
 generalize zx.empty.push (.cells (fBk bk0) (.own []) 0)=S1 at a1 g1 n1 hE1
 rcases adT l with h | ⟨a,b,c,d,r,h,hlr⟩
 ·
  rw [h] at c1
  obtain ⟨S3,q1,q2,q3,q4,q5⟩:=acJ bk0 g1 hE1 (Nat.zero_le _)
  refine ⟨bk0,71,⟨ok0,by simp,.inr ⟨rfl,Ve h,rfl⟩⟩,fun S=>?_⟩
  conv at hr =>
   rhs
   rw [hTe]
   simp only [zH.code,zH.rs,zSs,reduceIte,zk,zn,zo,zq,if_neg k2,a1,c1,z0,q1]
  rw [hTe] at hr
  exact zH.runs hr (.inr rfl) (QK q2 (by decide)) rfl rfl cl rfl
 ·
  rw [h] at c1
  have i0:=fun S=>XJ (k:=1) (i:=0) (m:=0) (l:=[a,b,c,d]) Okl.read rfl rfl S
  have i1:=fun S=>XJ (k:=1) (i:=1) (m:=1) (l:=[a,b,c,d]) Okl.read rfl rfl S
  have i2:=fun S=>XJ (k:=1) (i:=2) (m:=2) (l:=[a,b,c,d]) Okl.read rfl rfl S
  have i3:=fun S=>XJ (k:=1) (i:=3) (m:=3) (l:=[a,b,c,d]) Okl.read rfl rfl S
  have few:=((wR _ _ _ _).mp h).2.2
  have fd:d≤4611686018427387904:=(few d (by simp)).2
  obtain ⟨j,t,e,o1,o2,o3,o4⟩:=KL (j:=0) (by decide) r
  have c2:=fun S=>zA.v (k:=1) (l:=r) Okl.read (by decide) (by omega) S
  rw [o3] at c2
  have hok:qI.Ok ⟨a,b,c,d,if j=2 then 1 else j,t⟩:=⟨o1.dem,YO j,by show t.length * 16≤_;omega,by show d < _;omega⟩
  obtain ⟨S2,p1,p2,p3,p4⟩:=acH S1 ⟨a,b,c,d,if j=2 then 1 else j,t⟩
  have g2:S2.get 0=some (.cells (fBk bk0) (.own []) 0):=by rw [p3.get 0 (by omega),g1]
  have bd:=fun S=>kT (y0:=.int .i64 a) (y1:=.int .i64 b) (y2:=.int .i64 c) (y3:=.int .i64 d) (y4:=tl (if j=2 then 1 else j) t) qZ qZ qZ qZ ac3 S
  have c3:∀ S,zU zi O 14 [.agg [Value.int .i64 a,.int .i64 b,.int .i64 c,.int .i64 d,tl (if j=2 then 1 else j) t].toArray] S=some (.bool (zX ⟨a,b,c,d,if j=2 then 1 else j,t⟩),S):=fun S=>zC.v hok S
  have lb:jk zi false 29 (.pointer (some ⟨S1.next,0,none⟩)) S2=some (.agg [Value.int .i64 a,.int .i64 b,.int .i64 c,.int .i64 d,tl (if j=2 then 1 else j) t].toArray,S2):=QK p2 (YO j)
  rcases o4 with ⟨rfl,hx⟩ | ⟨rfl,hx,rfl⟩
  ·
   cases hR:zX ⟨a,b,c,d,if j=2 then 1 else j,t⟩
   ·
    rw [hR] at c3
    obtain ⟨S3,q1,q2,q3,q4,q5⟩:=acJ bk0 g2 (Ext.trans hE1 p3) (Nat.zero_le _)
    refine ⟨bk0,71,⟨ok0,by simp,.inr ⟨rfl,?_,rfl⟩⟩,fun S=>?_⟩
    ·
     rw [aaN h hx,if_neg (by rw [abT a b c d 0 (if j=2 then 1 else j) t,hR];decide)]
    conv at hr =>
     rhs
     rw [hTe]
     simp only [zH.code,zH.rs,zSs,reduceIte,zk,zn,zo,zq,if_neg k2,a1,c1,c2,i0,i1,i2,i3,kK,adg,bd,Ze,JY,p1,lb,c3,z0,q1]
    rw [hTe] at hr
    exact zH.runs hr (.inr rfl) (QK q2 (by decide)) rfl rfl cl rfl
   ·
    rw [hR] at c3
    obtain ⟨S3,q1,q2,q3,q4,q5⟩:=acJ ⟨a,b,c,d,if j=2 then 1 else j,t⟩ g2 (Ext.trans hE1 p3) (Nat.zero_le _)
    refine ⟨⟨a,b,c,d,if j=2 then 1 else j,t⟩,0,⟨hok,o2,.inl ⟨rfl,?_,hR⟩⟩,fun S=>?_⟩
    ·
     rw [aaN h hx,if_pos (by rw [abT a b c d 0 (if j=2 then 1 else j) t,hR])]
    conv at hr =>
     rhs
     rw [hTe]
     simp only [zH.code,zH.rs,zSs,reduceIte,zk,zn,zo,zq,if_neg k2,a1,c1,c2,i0,i1,i2,i3,kK,adg,bd,Ze,JY,p1,lb,c3,q1]
    rw [hTe] at hr
    exact zH.runs hr (.inr rfl) (QK q2 (YO j)) rfl rfl cl (yR (all2 (wW (b:=⟨a,b,c,d,if j=2 then 1 else j,t⟩) hok.okl.le) rfl))
  ·
   obtain ⟨S3,q1,q2,q3,q4,q5⟩:=acJ bk0 g2 (Ext.trans hE1 p3) (Nat.zero_le _)
   refine ⟨bk0,71,⟨ok0,by simp,.inr ⟨rfl,X8 h hx,rfl⟩⟩,fun S=>?_⟩
   conv at hr =>
    rhs
    rw [hTe]
    simp only [zH.code,zH.rs,zSs,reduceIte,zk,zn,zo,zq,if_neg k2,a1,c1,c2,i0,i1,i2,i3,kK,adg,bd,Ze,JY,p1,z0,q1]
   rw [hTe] at hr
   exact zH.runs hr (.inr rfl) (QK q2 (by decide)) rfl rfl cl rfl
end Go.Proofs.Ytgggklfbhmlapaa
namespace Go.Proofs.Ytgggklfbhmlapaa
open Go.Abs
namespace blockCuts
def codes:List (Bool×Ty):=[(true,tBk),(false,.int .i64),(false,.int .i64)]
theorem coded:Wu zi 9 [29,3,3]=some codes:=by kernel_rfl
theorem XM {l:List UInt8} {b:qI} {e:Int} (h:aaX l b e) (hn:aaP l=none):b=bk0∧e=71:=by
 obtain ⟨_,_,⟨rfl,h1,_⟩ | ⟨rfl,h1,rfl⟩⟩:=h
 ·
  rw [hn] at h1;cases h1
 ·
  exact ⟨rfl,rfl⟩
theorem aea {b:qI} (hb:zX b=true) {r:List UInt8} (hr:r≠[]):aaP (vP b++r)=none:=kW fun x _ hx hl=>by
 have h:=Yb (x:=b) (y:=x) (r:=r) (s:=[]) hb hx (by rw [List.append_nil];exact hl)
 exact hr h.2
theorem afU {b:qI} (hb:zX b=true) {n:Nat} (hn:n < (vP b).length):aaP ((vP b).take n)=none:=kW fun x _ hx hl=>by
 have h:=Yb (x:=b) (y:=x) (r:=[]) (s:=(vP b).drop n) hb hx (by rw [List.append_nil,← hl,List.take_append_drop])
 have:=congrArg List.length h.2
 simp at this
 omega
theorem KJ {b:qI} (hb:zX b=true) (slot:Int):zX ⟨slot,b.miner,0,nameOf b,0,[]⟩=(decide (b.slot < slot) && decide (slot≤4095)):=by
 have hn:nameOf b=b.slot * 65536+b.miner * 256+b.variant:=if_pos hb
 simp only [zX,Bool.and_eq_true,vW] at hb
 obtain ⟨⟨h1,h2,h3,h4⟩,_⟩:=hb
 have nm:ZQ (nameOf b)=true:=JO.mpr (by omega)
 have t0:qH []=true:=by decide
 rw [Bool.eq_iff_iff]
 simp only [zX,t0,Bool.and_true,vW,nm,true_and,Bool.and_eq_true,decide_eq_true_eq]
 omega
theorem run {b:qI} (hb:b.Ok) (cut slot:Int) (S:zx):∃ S',zU zi O 8 [bv b,.int .i64 cut,.int .i64 slot] S=some (.bool true,S'):=by
 obtain ⟨T,hTe⟩:∃ T,T=(bv b::.int .i64 cut::.int .i64 slot::zh::zh::zh::zh::zh::zh::zh::zh::zh::zh::zh::zh::zh::zh::zh::zh::zh::zh::zh::zh::zh::zh::zh::zh::zh::zh::zh::zh::zh::zh::zh::zh::zh::zh::zh::zh::zh::zh::zh::zh::zh::zh::zh::zh::zh::zh::zh::zh::zh::zh::zh::zh::zh::zh::zh::zh::zh::zh::zh::zh::zh::zh::zh::zh::zh::zh::zh::zh::zh::zh::zh::zh::zh::zh::zh::[]):=⟨_,rfl⟩
 have hr:zI zi O false zu.code T S=zI zi O false zu.code T S:=rfl
 obtain ⟨S1,b1,b2,b3,b4⟩:=afm b S
 have c1:=fun S=>zQ.v hb S
 have c5:=fun S=>zY.v hb S
 unfold abH at c1
 cases hR:zX b
 ·
  rw [hR] at c1
  have n0:nameOf b=0:=if_neg (by rw [hR];decide)
  rw [n0] at c5
  have ln:∀ S,JI zi 33 (.slice none 0 0) S=some (.int .i64 0,S):=fun S=>Wn (k:=0) (l:=[]) Okl.none
  conv at hr =>
   rhs
   rw [hTe]
   simp only [zu.code,zu.rs,zSs,reduceIte,zk,zn,zo,zq,b1,jA.v,QK b2 hb.ne,c1,ln,c5]
  rw [hTe] at hr
  exact ⟨_,zu.runs hr (.inr rfl)⟩
 ·
  rw [hR] at c1
  have hlen:(vP b).length≤140:=by
   obtain ⟨k,x,e,q1,q2,q3,q4⟩:=VF b
   rcases q4 with ⟨_,_,h,_⟩ | ⟨_,h,_,_⟩
   ·
    rw [← h];exact q2
   ·
    rw [hR] at h;cases h
  have b0v:∀ S,jl zi 33 0 [] S=some (by_ 2 [],S):=fun S=>by kernel_rfl
  have b1v:∀ S,jl zi 33 1 [(0,.int .u8 1)] S=some (by_ 2 [1],S):=fun S=>by kernel_rfl
  have cp:=fun S=>aag (S:=S) (k:=1) (l:=vP b) Okl.read (by omega)
  have ap:∀ S,jI zi 33 33 (by_ 2 (vP b)) (by_ 2 [1]) S=some (by_ 2 (vP b++[1]),S):=fun S=>by
   rw [qy Okl.own (by decide) Okl.own (by simp;omega)];rfl
  obtain ⟨x1,e1,r1,c2⟩:=zH.v (k:=1) (l:=vP b++[1]) Okl.read (by decide) (by simp;omega)
  obtain ⟨rfl,rfl⟩:=XM r1 (aea hR (by simp))
  obtain ⟨S2,p1,p2,p3,p4⟩:=acH S1 bk0
  have g2:S2.get S.next=some (.cells (fBk b) (.own []) 0):=(p3.get _ b4).trans b2
  have n2:S.next < S2.next:=Nat.lt_of_lt_of_le b4 p3.next
  have ln:∀ S,JI zi 33 (by_ 1 (vP b)) S=some (.int .i64 (vP b).length,S):=fun S=>Wn Okl.read
  have bld:∀ S,wQ zi 29 [(0,.int .i64 slot),(1,.int .i64 b.miner),(3,.int .i64 (nameOf b))] S=some (bv ⟨slot,b.miner,0,nameOf b,0,[]⟩,S):=fun S=>by kernel_rfl
  have hc:(⟨slot,b.miner,0,nameOf b,0,[]⟩:qI).Ok:=by
   refine ⟨Okl.none,show (0:Nat)≠2 by decide,show (0:Nat) * 16≤140737488351232 by decide,?_⟩
   have hn:nameOf b=b.slot * 65536+b.miner * 256+b.variant:=if_pos hR
   have hR2:=hR
   simp only [zX,Bool.and_eq_true,vW] at hR2
   show nameOf b < 9223372036854775808
   omega
  have c6:=fun S=>zC.v hc S
  rw [KJ hR] at c6
  have tail:∀ S3:zx,S3.get S.next=some (.cells (fBk b) (.own []) 0)→S.next < S3.next→∃ S4,wX zi 29 (.pointer (some ⟨S3.next,0,none⟩)) (bv ⟨slot,b.miner,0,nameOf b,0,[]⟩) (S3.push (.cells (fBk bk0) (.own []) 0))=some (zh,S4)∧S4.get S3.next=some (.cells (fBk ⟨slot,b.miner,0,nameOf b,0,[]⟩) (.own []) 0) ∧
    jk zi false 3 (.pointer (some ⟨S.next,0+1,none⟩)) S3=some (.int .i64 b.miner,S3)∧jk zi false 29 (.pointer (some ⟨S.next,0,none⟩)) S3=some (bv b,S3)∧jk zi false 3 (.pointer (some ⟨S.next,0+0,none⟩)) S4=some (.int .i64 b.slot,S4) ∧
    jk zi false 29 (.pointer (some ⟨S3.next,0,none⟩)) S4=some (bv ⟨slot,b.miner,0,nameOf b,0,[]⟩,S4) ∧
    jY (.pointer (some ⟨S.next,0+1,none⟩)) S3 S3=true∧jY (.pointer (some ⟨S.next,0+1,none⟩)) S3 (S3.push (.cells (fBk bk0) (.own []) 0))=true∧jY (.pointer (some ⟨S.next,0,none⟩)) S3 (S3.push (.cells (fBk bk0) (.own []) 0))=true∧jY (.pointer (some ⟨S.next,0+0,none⟩)) S4 S4=true:=by
   intro S3 g3 n3
   obtain ⟨S4,t1,t2,t3,t4⟩:=acH S3 ⟨slot,b.miner,0,nameOf b,0,[]⟩
   have g4:S4.get S.next=some (.cells (fBk b) (.own []) 0):=(t3.get _ n3).trans g3
   exact ⟨S4,t1,t2,acv g3,QK g3 hb.ne,abY g4,QK t2 (show (0:Nat)≠2 by decide),vN g3,WS (o:=0+1) g3 n3 (Ext.push _ _),WS (o:=0) g3 n3 (Ext.push _ _),vN g4⟩
  by_cases h0:0≤cut
  ·
   by_cases h1:cut < (vP b).length
   ·
    obtain ⟨n,rfl⟩:∃ n:Nat,cut=n:=⟨cut.toNat,by omega⟩
    have hn:n < (vP b).length:=by omega
    have sl:∀ S,kF zi 33 (by_ 1 (vP b)) none (some (.int .i64 n)) S=some (by_ 1 ((vP b).take n),S):=fun S=>by
     rw [XO Okl.read (i:=0) (j:=n) rfl rfl (by omega) (by omega) (by omega)];simp
    have cp2:=fun S=>aag (S:=S) (k:=1) (l:=(vP b).take n) Okl.read (by simp;omega)
    obtain ⟨x2,e2,r2,c3⟩:=zH.v (k:=1) (l:=(vP b).take n) Okl.read (by decide) (by simp;omega)
    obtain ⟨rfl,rfl⟩:=XM r2 (afU hR hn)
    obtain ⟨S3,q1,q2,q3,q4⟩:=acH S2 bk0
    obtain ⟨S4,t1,t2,t3,t4,t5,t6,t7,t8,t9,t10⟩:=tail S3 ((q3.get _ n2).trans g2) (Nat.lt_of_lt_of_le n2 q3.next)
    by_cases hs:b.slot < slot
    ·
     conv at hr =>
      rhs
      rw [hTe]
      simp only [zu.code,zu.rs,zSs,reduceIte,zk,zn,zo,zq,b1,jA.v,QK b2 hb.ne,c1,b0v,b1v,cp,ap,c2,JY,p1,ln,sl,cp2,c3,q1,ji,jh,t1,t3,t4,t5,t6,t7,t8,t9,t10,c5,c6,bld,Ze,decide_eq_true h0,decide_eq_true h1,decide_eq_true hs,Wq,beq_self_eq_true]
     rw [hTe] at hr
     exact ⟨_,zu.runs hr (.inr rfl)⟩
    ·
     conv at hr =>
      rhs
      rw [hTe]
      simp only [zu.code,zu.rs,zSs,reduceIte,zk,zn,zo,zq,b1,jA.v,QK b2 hb.ne,c1,b0v,b1v,cp,ap,c2,JY,p1,ln,sl,cp2,c3,q1,ji,jh,t1,t3,t4,t5,t6,t7,t8,t9,t10,c5,c6,bld,Ze,decide_eq_true h0,decide_eq_true h1,decide_eq_false hs,Bool.false_and,Wq,beq_self_eq_true]
     rw [hTe] at hr
     exact ⟨_,zu.runs hr (.inr rfl)⟩
   ·
    obtain ⟨S4,t1,t2,t3,t4,t5,t6,t7,t8,t9,t10⟩:=tail S2 g2 n2
    by_cases hs:b.slot < slot
    ·
     conv at hr =>
      rhs
      rw [hTe]
      simp only [zu.code,zu.rs,zSs,reduceIte,zk,zn,zo,zq,b1,jA.v,QK b2 hb.ne,c1,b0v,b1v,cp,ap,c2,JY,p1,ln,ji,jh,t1,t3,t4,t5,t6,t7,t8,t9,t10,c5,c6,bld,Ze,decide_eq_true h0,decide_eq_false h1,decide_eq_true hs,Wq,beq_self_eq_true]
     rw [hTe] at hr
     exact ⟨_,zu.runs hr (.inr rfl)⟩
    ·
     conv at hr =>
      rhs
      rw [hTe]
      simp only [zu.code,zu.rs,zSs,reduceIte,zk,zn,zo,zq,b1,jA.v,QK b2 hb.ne,c1,b0v,b1v,cp,ap,c2,JY,p1,ln,ji,jh,t1,t3,t4,t5,t6,t7,t8,t9,t10,c5,c6,bld,Ze,decide_eq_true h0,decide_eq_false h1,decide_eq_false hs,Bool.false_and,Wq,beq_self_eq_true]
     rw [hTe] at hr
     exact ⟨_,zu.runs hr (.inr rfl)⟩
  ·
   obtain ⟨S4,t1,t2,t3,t4,t5,t6,t7,t8,t9,t10⟩:=tail S2 g2 n2
   by_cases hs:b.slot < slot
   ·
    conv at hr =>
     rhs
     rw [hTe]
     simp only [zu.code,zu.rs,zSs,reduceIte,zk,zn,zo,zq,b1,jA.v,QK b2 hb.ne,c1,b0v,b1v,cp,ap,c2,JY,p1,ln,ji,jh,t1,t3,t4,t5,t6,t7,t8,t9,t10,c5,c6,bld,Ze,decide_eq_false h0,decide_eq_true hs,Wq,beq_self_eq_true]
    rw [hTe] at hr
    exact ⟨_,zu.runs hr (.inr rfl)⟩
   ·
    conv at hr =>
     rhs
     rw [hTe]
     simp only [zu.code,zu.rs,zSs,reduceIte,zk,zn,zo,zq,b1,jA.v,QK b2 hb.ne,c1,b0v,b1v,cp,ap,c2,JY,p1,ln,ji,jh,t1,t3,t4,t5,t6,t7,t8,t9,t10,c5,c6,bld,Ze,decide_eq_false h0,decide_eq_false hs,Bool.false_and,Wq,beq_self_eq_true]
    rw [hTe] at hr
    exact ⟨_,zu.runs hr (.inr rfl)⟩
theorem law (x:Args codes) (h:Args.Good codes x):∃ k,(kE zi k 8 (Args.place codes x zx.empty).1 (Args.place codes x zx.empty).2).map (·.1)=some (.bool true):=by
 obtain ⟨a,b,c,u⟩:=x
 obtain ⟨h1,h2,h3,_⟩:=h
 obtain ⟨t,t1,ht⟩:=af4 a h1
 obtain ⟨S',e⟩:=run ht b c zx.empty
 refine KW afQ (S':=S') ?_
 have e2:Args.Z7 codes (a,b,c,u)=[bv t,.int .i64 b,.int .i64 c]:=by
  show [xU true (tBk.Z7 a),_,_]=_
  rw [t1];rfl
 rw [e2]
 exact e
end blockCuts
end Go.Proofs.Ytgggklfbhmlapaa
namespace Go.Proofs.Ytgggklfbhmlapaa.blockCuts
open Go.ChangeShapes Go.WideShapes Go.ChangeAt Go.RowKit Go.Abs
theorem own:ownKnob zi.godebug=none:=by kernel_rfl
theorem laidOut:laidOutB zi=true:=by kernel_rfl
theorem mixes:zi.follows .mixedOrders=true:=by kernel_rfl
set_option maxRecDepth 100000 in
theorem lifted (os:Os) (started:os.Started) (H:Type) (enc:TypeId×Value→H) :
  ReturnsInHanded {} Try.checked os 8 .any (Rows.blockCutsSpec.pre6 enc zi Try.f8 Rows.blockCutsRow.domain false) (Rows.blockCutsSpec.post enc zi Try.f8 false true false false):=by
 refine returnsInHanded_of_change_sized (C:=Try.checked) own started (by kernel_rfl) Try.func8
  (ChangeSpec.witness6 (enc:=enc) (C:=Try.checked) false ⟨#[],#[.agg #[.int .i64 0,.int .i64 0,.int .i64 0,.int .i64 0,.slice none 0 0],.int .i64 0,.int .i64 0],[]⟩ 8 (by kernel_rfl) (by kernel_rfl) (by kernel_rfl) (by kernel_rfl)) ?_
 intro W base args ds gs before hval0 hW hcnd hsz0 _
 have hW':=hW
 obtain ⟨p,q,hA0,hV,rfl,hfz,hnd⟩:=hW
 obtain ⟨rfl,rfl⟩:=trodVars_none hV
 have hsz1:(DataW.weightsEach zi (Try.f8.params.toList++Rows.blockCutsSpec.plain.varTypes zi) (ds++[])).all (·≤reachBytes)=true:=hsz0
 have hval:∀ (j:Nat) t v,Try.f8.params[j]?=some t→args[j]?=some v→Value.okWide zi W .any base t v:=hval0
 have hA1:DataW.TrodAll enc zi W 0 (fun _=>true) true Try.f8.params.toList args.toList ds p:=hA0
 rw [Try.params8] at hA1 hsz1 hval
 have hA:DataW.TrodAll enc zi W 0 (fun _=>true) true [29,3,3] args.toList ds p:=hA1
 have hsz:(DataW.weightsEach zi [29,3,3] ds).all (·≤reachBytes)=true:=by rw [List.append_nil ds] at hsz1;exact hsz1
 clear hA0 hA1 hval0 hsz0 hsz1
 have r:=hA
 obtain ⟨v0,vs0,d0,ds0,p0,q0,hargs0,rfl,hp0,h0,r0⟩:=trodAll_cons r
 obtain ⟨v1,vs1,d1,ds1,p1,q1,hargs1,rfl,hp1,h1,r1⟩:=trodAll_cons r0
 obtain ⟨v2,vs2,d2,ds2,p2,q2,hargs2,rfl,hp2,h2,r2⟩:=trodAll_cons r1
 obtain ⟨_,rfl,_⟩:=trodAll_nil r2
 refine (abz mixes coded law hA (fun j t v h1 h2=>hval j t v (by rw [List.getElem?_toArray];exact h1) h2) hsz).mono fun e W' ⟨he,bel⟩=>?_
 subst he
 exact ⟨_,rfl,_,_,_,[],_,[],hW',trodAll_mk1 (shut_bool (by kernel_rfl) _),acA laidOut bel _ _ _ _ (by kernel_rfl) hA,rfl,bel.frame _,fun h=>by cases h⟩
theorem over:Rows.blockCutsRow.holds Try.pinned (OpenSpec.ofChange Rows.blockCutsSpec) :=
 OpenClaim.holds_of_wide 8 Try.f8 rfl rfl rfl rfl rfl rfl rfl ⟨rfl,rfl,rfl,rfl,rfl⟩ rfl rfl rfl rfl rfl (by kernel_rfl) Try.func8 (by kernel_rfl)
  (of_decide_eq_true (by kernel_rfl)) (by unfold Func.isWrapper;first | (rw [if_pos (by decide +kernel)];kernel_rfl) | (rw [if_neg (by decide +kernel)];exact ⟨rfl,rfl⟩))
  (fun os started H enc _=>lifted os started H enc)
theorem proved:Rows.BlockCutsSaid:=over
end Go.Proofs.Ytgggklfbhmlapaa.blockCuts
namespace Go.Proofs.Ytgggklfbhmlapaa
theorem blockCuts_holds:Rows.BlockCutsSaid:=blockCuts.proved
#print axioms blockCuts_holds
end Go.Proofs.Ytgggklfbhmlapaa
