/-
The law GateMarks returns true for every input, and leaves it as it was; no condition. Part 4 of 7 of the texts (put together by a program: own names are short, what isn't needed is left out).
-/
import Derived.Test.YtfjogganfjkckaaZGateMarks3
import Derived.Test.YtfjogganfjkckaaChecked
import Derived.KernelRfl
set_option linter.unusedVariables false
set_option linter.unusedSimpArgs false
set_option maxRecDepth 100000
open Go renaming undef → zh
open Go.Proofs.Try renaming prog → zi
open Nat renaming reduceEqDiff → zk
open Int renaming reduceEq → zn
open Int renaming reduceLT → zo
open Int renaming reduceLE → zq
namespace Go.Proofs.Ytfjogganfjkckaa
open Go.Abs
def idxFrom {α:Type} (p:α→Bool):Int→List α→Int
 | _,[]=>-1
 | i,x::r=>if p x then i else idxFrom p (i+1) r
theorem VI {α:Type} {p:α→Bool}:∀ {l:List α} {i:Int},l.any p=false→idxFrom p i l=-1
 | [],_,_=>rfl
 | x::r,i,h=>by
  rw [List.any_cons,Bool.or_eq_false_iff] at h
  rw [idxFrom,h.1]
  exact VI h.2
theorem adz {α:Type} {p:α→Bool}:∀ {l:List α} {i:Int},l.any p=true→i≤idxFrom p i l
 | [],_,h=>by cases h
 | x::r,i,h=>by
  rw [idxFrom]
  split
  ·
   omega
  ·
   rename_i hx
   rw [List.any_cons,Bool.or_eq_true] at h
   have:=adz (i:=i+1) (h.resolve_left hx)
   omega
theorem akg {α:Type} {p:α→Bool} {l:List α}:decide (0≤idxFrom p 0 l)=l.any p:=by
 cases h:l.any p with
 | false=>rw [VI h];decide
 | true=>rw [decide_eq_true_eq];exact adz h
section
variable {k:Nat} {l:List Int}
theorem slices_Index.round (hv:Okl k l) (hk:k≠2) (hlen:l.length≤17592186044416) {v:Int} {S:zx}:∀ (suf pre:List Int) {T:List Value} {r:St},qR (zL zi O false slices_Index.jS) T S=r→T.length=19 →
  T.getD 0 zh=iz k l→T.getD 1 zh=.int .i64 v→T.getD 7 zh=.int .i64 l.length→T.getD 8 zh=.int .i64 pre.length→l=pre++suf →
  ∃ e T',r=some (e,T',S)∧if suf.any (fun x=>decide (v=x)) then e=.ret∧T'.getD 4 zh=.int .i64 (idxFrom (fun x=>decide (v=x)) pre.length suf) else e=.exit 0∧T'.length=19:=by
 intro suf
 induction suf with
 | nil =>
  intro pre T r hL hT h0 h1 h7 h8 hl
  have hTe:=slices_Index.eta hT
  rw [h0,h1,h7,h8] at hTe
  have hr:zL zi O false slices_Index.jS T S=zL zi O false slices_Index.jS T S:=rfl
  have hd:¬ (pre.length:Int) < (l.length:Int):=by rw [hl];simp
  conv at hr =>
   rhs
   rw [hTe]
   simp only [slices_Index.jS,slices_Index.code,slices_Index.rs,zSs,reduceIte,zk,zn,zo,zq,hd]
  exact ⟨_,_,hL.symm.trans (wI hr (by simp)),rfl,rfl⟩
 | cons x suf ih =>
  intro pre T r hL hT h0 h1 h7 h8 hl
  have hTe:=slices_Index.eta hT
  rw [h0,h1,h7,h8] at hTe
  have hr:zL zi O false slices_Index.jS T S=zL zi O false slices_Index.jS T S:=rfl
  have hd:(pre.length:Int) < (l.length:Int):=by rw [hl];simp;omega
  have e1:∀ S,jr zi 24 (iz k l) (.int .i64 pre.length) S=some (EP [.int .i64 x],S):=fun S=>by
   rw [acS hv (by omega) hd];rw [Kz hl]
  have wi:IntKind.i64.wrap ((pre.length:Int)+1)=((pre++[x]).length:Int):=by rw [wrap_i64 (by omega) (by omega)];simp
  rw [List.any_cons,idxFrom]
  by_cases hx:v=x
  ·
   have hx2:=decide_eq_true hx
   conv at hr =>
    rhs
    rw [hTe]
    simp only [slices_Index.jS,slices_Index.code,slices_Index.rs,zSs,reduceIte,zk,zn,zo,zq,if_neg hk,hd,e1,qA,hx2]
   refine ⟨_,_,hL.symm.trans (wI hr (by simp)),?_⟩
   rw [hx2,Bool.true_or]
   exact ⟨rfl,rfl⟩
  ·
   have hx2:=decide_eq_false hx
   conv at hr =>
    rhs
    rw [hTe]
    simp only [slices_Index.jS,slices_Index.code,slices_Index.rs,zSs,reduceIte,zk,zn,zo,zq,if_neg hk,hd,e1,qA,hx2,wi]
   obtain ⟨e,T',g1,g2⟩:=ih (pre++[x]) ((yH hr).symm.trans hL) rfl rfl rfl rfl rfl (by simp [hl])
   refine ⟨e,T',g1,?_⟩
   rw [hx2,Bool.false_or]
   rw [show (((pre++[x]).length:Nat):Int)=(pre.length:Int)+1 by simp] at g2
   exact g2
theorem slices_Index.v (hv:Okl k l) (hk:k≠2) (hlen:l.length≤17592186044416) {v:Int} (S:zx):jd zi O slices_Index.id [iz k l,.int .i64 v] S=some (.int .i64 (idxFrom (fun x=>decide (v=x)) 0 l),S):=by
 obtain ⟨T,hTe⟩:∃ T,T=(iz k l::.int .i64 v::zh::zh::zh::zh::zh::zh::zh::zh::zh::zh::zh::zh::zh::zh::zh::zh::zh::[]):=⟨_,rfl⟩
 have hr:zL zi O false slices_Index.code T S=zL zi O false slices_Index.code T S:=rfl
 conv at hr =>
  rhs
  rw [hTe]
  simp only [slices_Index.code,slices_Index.rs,zSs,reduceIte,zk,zn,zo,zq,if_neg hk,Vq hv,goInt]
 generalize hL:qR (zL zi O false slices_Index.jS) _ _=r at hr
 obtain ⟨e,T',rfl,g⟩:=slices_Index.round hv hk hlen l [] hL rfl rfl rfl rfl rfl rfl
 cases h:l.any (fun x=>decide (v=x)) with
 | true =>
  rw [h] at g
  obtain ⟨rfl,g2⟩:=g
  conv at hr =>
   rhs
   simp only [zSs,reduceIte,zk,zn,zo,zq]
  rw [hTe] at hr
  have hrun:=slices_Index.runs hr (.inr rfl)
  rw [g2] at hrun
  exact hrun
 | false =>
  rw [h] at g
  obtain ⟨rfl,g2⟩:=g
  have hTe':=slices_Index.eta g2
  conv at hr =>
   rhs
   rw [hTe']
   simp only [slices_Index.code,slices_Index.rs,zSs,reduceIte,zk,zn,zo,zq]
  rw [hTe] at hr
  rw [VI h]
  exact slices_Index.runs hr (.inr rfl)
theorem slices_Contains.v (hv:Okl k l) (hk:k≠2) (hlen:l.length≤17592186044416) {v:Int} (S:zx):jd zi O slices_Contains.id [iz k l,.int .i64 v] S=some (.bool (l.any fun x=>decide (v=x)),S):=by
 obtain ⟨T,hTe⟩:∃ T,T=(iz k l::.int .i64 v::zh::zh::zh::zh::zh::zh::zh::[]):=⟨_,rfl⟩
 have hr:zL zi O false slices_Contains.code T S=zL zi O false slices_Contains.code T S:=rfl
 have c1:=fun S=>slices_Index.v hv hk hlen (v:=v) S
 conv at hr =>
  rhs
  rw [hTe]
  simp only [slices_Contains.code,slices_Contains.rs,zSs,reduceIte,zk,zn,zo,zq,if_neg hk,c1,akg]
 rw [hTe] at hr
 exact slices_Contains.runs hr (.inr rfl)
end
end Go.Proofs.Ytfjogganfjkckaa
namespace Go.Proofs.Ytfjogganfjkckaa
open Go.Abs
abbrev wR.id:FuncId:=22
noncomputable def wR.code:Code:=(.seq (.region 0 (reg Try.f22 0) false) (.seq (.region 1 (reg Try.f22 1) false) (.seq (.seq (.region 2 (reg Try.f22 2) false) (.cond (.tmp 16) (.seq (.region 3 (reg Try.f22 3) false) Code.ret) Code.skip)) (.seq (.region 4 (reg Try.f22 4) false) (.seq (.seq (.region 5 (reg Try.f22 5) false) (.cond (.tmp 33) (.seq (.region 6 (reg Try.f22 6) false) Code.ret) Code.skip)) (.seq (.region 7 (reg Try.f22 7) false) Code.ret))))))
theorem wR.body:Try.f22.body=some wR.code:=by kernel_rfl
variable (F M H Q N I K L J P b c d f g i k l m n o p q r s t u w x y z A B C D E:Value) (S:zx)
theorem wR.r0 :jF zi ⟨false,false,false⟩ (jd zi O) (reg Try.f22 0) (reg Try.f22 0).toList ([F,M,H,Q,N,I,K,L,J,P,b,c,d,f,g,i,k,l,m,n,o,p,q,r,s,t,u,w,x,y,z,A,B,C,D,E]) S =
  (zN (yR zi 48 S) (fun U G=>some ([F,M,U,.int .i64 0,N,I,K,L,J,P,b,c,d,f,g,i,k,l,m,n,o,p,q,r,s,t,u,w,x,y,z,A,B,C,D,E],G)) ()):=by
 kernel_rfl
theorem wR.r1 :jF zi ⟨false,false,false⟩ (jd zi O) (reg Try.f22 1) (reg Try.f22 1).toList ([F,M,H,Q,N,I,K,L,J,P,b,c,d,f,g,i,k,l,m,n,o,p,q,r,s,t,u,w,x,y,z,A,B,C,D,E]) S =
  (zN ((jd zi O) 41 [(dem (dem F))] S) (fun a G=>zN (zZ a 0 G) (fun V R=>zN (zZ (zV 0 a) 1 R) (fun W Y=>zN (zZ (zV 1 (zV 0 a)) 2 Y) (fun X Z=>some ([F,M,H,Q,V,W,X,L,J,zV 2 (zV 1 (zV 0 a)),dem F,dem a,dem V,dem W,dem X,i,k,l,m,n,o,p,q,r,s,t,u,w,x,y,z,A,B,C,D,E],Z)) ()) ()) ()) ()):=by
 kernel_rfl
theorem wR.r2 :jF zi ⟨false,false,false⟩ (jd zi O) (reg Try.f22 2) (reg Try.f22 2).toList ([F,M,H,Q,N,I,K,L,J,P,b,c,d,f,g,i,k,l,m,n,o,p,q,r,s,t,u,w,x,y,z,A,B,C,D,E]) S =
  (zN (wH zi BinOp.neq 64 (dem K) (.int .i64 0) S) (fun a G=>some ([F,M,H,Q,N,I,K,L,J,P,b,c,d,f,g,dem K,a,l,m,n,o,p,q,r,s,t,u,w,x,y,z,A,B,C,D,E],G)) ()):=by
 kernel_rfl
theorem wR.r3 :jF zi ⟨false,false,false⟩ (jd zi O) (reg Try.f22 3) (reg Try.f22 3).toList ([F,M,H,Q,N,I,K,L,J,P,b,c,d,f,g,i,k,l,m,n,o,p,q,r,s,t,u,w,x,y,z,A,B,C,D,E]) S =
  (zN (yw zi 48 [] S) (fun U G=>zN (wS zi 48 H (dem U) G) (fun a R=>some ([F,M,H,.int .i64 121,N,I,K,L,J,P,b,c,d,f,g,i,k,U,m,n,o,p,q,r,s,t,u,w,x,y,z,A,B,C,D,E],R)) ()) ()):=by
 kernel_rfl
theorem wR.r4 :jF zi ⟨false,false,false⟩ (jd zi O) (reg Try.f22 4) (reg Try.f22 4).toList ([F,M,H,Q,N,I,K,L,J,P,b,c,d,f,g,i,k,l,m,n,o,p,q,r,s,t,u,w,x,y,z,A,B,C,D,E]) S =
  (zN ((jd zi O) 42 [(dem (dem I))] S) (fun a G=>zN (zZ a 0 G) (fun V R=>zN (zZ (zV 0 a) 1 R) (fun W Y=>zN (yR zi 48 Y) (fun X Z=>zN (wS zi 48 X (dem V) Z) (fun v6 S5=>some ([F,M,H,Q,N,I,K,X,W,P,b,c,d,f,g,i,k,l,zV 1 (zV 0 a),dem I,dem a,V,dem W,r,s,t,u,w,x,y,z,A,B,C,D,E],S5)) ()) ()) ()) ()) ()):=by
 kernel_rfl
theorem wR.r5 :jF zi ⟨false,false,false⟩ (jd zi O) (reg Try.f22 5) (reg Try.f22 5).toList ([F,M,H,Q,N,I,K,L,J,P,b,c,d,f,g,i,k,l,m,n,o,p,q,r,s,t,u,w,x,y,z,A,B,C,D,E]) S =
  (zN (aUn zi UnOp.not (dem J) S) (fun a G=>gdK (dem a) false (zG zi 48 L 1) G (fun V R=>gdK (dem a) false (jl zi false 3 V) R (fun W Y=>gdK (dem a) false ((jd zi O) 44 [(dem W)]) Y (fun X Z=>gdK (dem a) false (ret N) Z (fun v6 S5=>gdK (dem a) false (ret I) S5 (fun v7 S6=>gdK (dem a) false ((jd zi O) 43 [(dem X),(dem (dem v6)),(dem (dem v7))]) S6 (fun v8 S7=>gdK (dem a) false (aUn zi UnOp.not v8) S7 (fun v9 S8=>zN (wW (dem a) (Value.bool true) v9 S8) (fun a0 S9=>some ([F,M,H,Q,N,I,K,L,J,P,b,c,d,f,g,i,k,l,m,n,o,p,q,dem J,a,dem a,V,W,X,dem v6,dem v7,v8,v9,a0,D,E],S9)) ()) ()) ()) ()) ()) ()) ()) ()) ()):=by
 refine sP Try.f22 5 0 (v:=J) ?_
 refine sD Try.f22 5 1 (fun a G=>?_)
 refine sP Try.f22 5 2 (v:=a) ?_
 refine sG Try.f22 5 3 (j:=2) (fun V R=>?_)
 refine sG Try.f22 5 4 (j:=2) (fun W Y=>?_)
 refine sG Try.f22 5 5 (j:=2) (fun X Z=>?_)
 refine sG Try.f22 5 6 (j:=2) (fun v6 S5=>?_)
 refine sG Try.f22 5 7 (j:=2) (fun v7 S6=>?_)
 refine sG Try.f22 5 8 (j:=2) (fun v8 S7=>?_)
 refine sG Try.f22 5 9 (j:=2) (fun v9 S8=>?_)
 refine sD Try.f22 5 10 (fun a0 S9=>?_)
 kernel_rfl
theorem wR.r6 :jF zi ⟨false,false,false⟩ (jd zi O) (reg Try.f22 6) (reg Try.f22 6).toList ([F,M,H,Q,N,I,K,L,J,P,b,c,d,f,g,i,k,l,m,n,o,p,q,r,s,t,u,w,x,y,z,A,B,C,D,E]) S =
  (zN (yw zi 48 [] S) (fun U G=>zN (wS zi 48 H (dem U) G) (fun a R=>some ([F,M,H,.int .i64 121,N,I,K,L,J,P,b,c,d,f,g,i,k,l,m,n,o,p,q,r,s,t,u,w,x,y,z,A,B,C,U,E],R)) ()) ()):=by
 kernel_rfl
theorem wR.r7 :jF zi ⟨false,false,false⟩ (jd zi O) (reg Try.f22 7) (reg Try.f22 7).toList ([F,M,H,Q,N,I,K,L,J,P,b,c,d,f,g,i,k,l,m,n,o,p,q,r,s,t,u,w,x,y,z,A,B,C,D,E]) S =
  (zN (jl zi false 48 L S) (fun U G=>zN (wS zi 48 H (dem U) G) (fun a R=>some ([F,M,H,.int .i64 0,N,I,K,L,J,P,b,c,d,f,g,i,k,l,m,n,o,p,q,r,s,t,u,w,x,y,z,A,B,C,D,U],R)) ()) ()):=by
 kernel_rfl
theorem wR.rs:type_of% (alY @wR.r0 (alY @wR.r1 (alY @wR.r2 (alY @wR.r3 (alY @wR.r4 (alY @wR.r5 (alY @wR.r6 (@wR.r7)))))))):=alY @wR.r0 (alY @wR.r1 (alY @wR.r2 (alY @wR.r3 (alY @wR.r4 (alY @wR.r5 (alY @wR.r6 (@wR.r7)))))))
theorem wR.runs {F:Value} {S G:zx} {e:AEx} {T:List Value} (h:zL zi O false wR.code ([F,zh,zh,zh,zh,zh,zh,zh,zh,zh,zh,zh,zh,zh,zh,zh,zh,zh,zh,zh,zh,zh,zh,zh,zh,zh,zh,zh,zh,zh,zh,zh,zh,zh,zh,zh]) zx.empty=some (e,T,G)) (he:e=.normal∨e=.ret) {w0:Value} (c0:jl zi false 48 (T.getD 2 zh) G=some (w0,G)) (h0:wE (w0)=true) (h1:wE (T.getD 3 zh)=true) (hca:[F].all (jL 16)=true) (hcv:jL 16 (Value.tuple #[w0,T.getD 3 zh])=true):jd zi O 22 [F] S=some (Value.tuple #[w0,T.getD 3 zh],S) :=
 yD rfl rfl Try.func22 (by decide) wR.body (by exact h) he ((qj ((show zQ zi T G Try.f22.results.toList=zQ zi T G [(ResultVar.cell 2 48),(ResultVar.tmp 3)] from by kernel_rfl).trans (by simp only [zQ,c0])) (by kernel_rfl) (by simp only [List.all_cons,List.all_nil,h0,h1,Bool.and_true])).trans rfl) hca hcv
end Go.Proofs.Ytfjogganfjkckaa
namespace Go.Proofs.Ytfjogganfjkckaa
open Go.Abs
abbrev zF.id:FuncId:=16
noncomputable def zF.code:Code:=(.seq (.region 0 (reg Try.f16 0) false) (.seq (.region 1 (reg Try.f16 1) false) (.seq (.seq (.region 2 (reg Try.f16 2) false) (.cond (.tmp 20) (.seq (.region 3 (reg Try.f16 3) false) Code.ret) Code.skip)) (.seq (.region 4 (reg Try.f16 4) false) (.seq (.seq (.region 5 (reg Try.f16 5) false) (.cond (.tmp 29) (.seq (.region 6 (reg Try.f16 6) false) Code.ret) Code.skip)) (.seq (.region 7 (reg Try.f16 7) true) (.seq (.seq (.region 8 (reg Try.f16 8) false) (.cond (.tmp 52) (.region 9 (reg Try.f16 9) false) Code.skip)) (.seq (.seq (.region 10 (reg Try.f16 10) false) (.cond (.tmp 61) (.region 11 (reg Try.f16 11) false) Code.skip)) (.seq (.region 12 (reg Try.f16 12) false) (.seq (.seq (.region 13 (reg Try.f16 13) false) (.cond (.tmp 81) (.seq (.region 14 (reg Try.f16 14) false) Code.ret) Code.skip)) (.seq (.region 15 (reg Try.f16 15) false) Code.ret)))))))))))
theorem zF.body:Try.f16.body=some zF.code:=by kernel_rfl
variable (x0 x1 x2 x3 x4 x5 x6 c x8 x9 b f d g i k l m n o p q r s t u w x y z A B C D E F G H I J K L M N P Q R U V W X Y Z a0 a1 a2 a3 a4 a5 a6 a7 a8 a9 b0 b1 b2 b3 b4 b5 b6 b7 b8 b9 c1 c2 c3 c4 c5 c6 c7 c8 c9 d0 d1:Value) (S:zx)
theorem zF.r0 :jF zi ⟨false,false,false⟩ (jd zi O) (reg Try.f16 0) (reg Try.f16 0).toList ([x0,x1,x2,x3,x4,x5,x6,c,x8,x9,b,f,d,g,i,k,l,m,n,o,p,q,r,s,t,u,w,x,y,z,A,B,C,D,E,F,G,H,I,J,K,L,M,N,P,Q,R,U,V,W,X,Y,Z,a0,a1,a2,a3,a4,a5,a6,a7,a8,a9,b0,b1,b2,b3,b4,b5,b6,b7,b8,b9,c1,c2,c3,c4,c5,c6,c7,c8,c9,d0,d1]) S =
  (zN (yR zi 48 S) (fun v0 S1=>some ([x0,x1,v0,.int .i64 0,x4,x5,x6,c,x8,x9,b,f,d,g,i,k,l,m,n,o,p,q,r,s,t,u,w,x,y,z,A,B,C,D,E,F,G,H,I,J,K,L,M,N,P,Q,R,U,V,W,X,Y,Z,a0,a1,a2,a3,a4,a5,a6,a7,a8,a9,b0,b1,b2,b3,b4,b5,b6,b7,b8,b9,c1,c2,c3,c4,c5,c6,c7,c8,c9,d0,d1],S1)) ()):=by
 kernel_rfl
theorem zF.r1 :jF zi ⟨false,false,false⟩ (jd zi O) (reg Try.f16 1) (reg Try.f16 1).toList ([x0,x1,x2,x3,x4,x5,x6,c,x8,x9,b,f,d,g,i,k,l,m,n,o,p,q,r,s,t,u,w,x,y,z,A,B,C,D,E,F,G,H,I,J,K,L,M,N,P,Q,R,U,V,W,X,Y,Z,a0,a1,a2,a3,a4,a5,a6,a7,a8,a9,b0,b1,b2,b3,b4,b5,b6,b7,b8,b9,c1,c2,c3,c4,c5,c6,c7,c8,c9,d0,d1]) S =
  (zN ((jd zi O) 28 [(dem (dem x0))] S) (fun a S1=>zN (zZ a 0 S1) (fun v3 S2=>zN (zZ (zV 0 a) 1 S2) (fun v4 S3=>zN (zZ (zV 1 (zV 0 a)) 2 S3) (fun v5 S4=>some ([x0,x1,x2,x3,v3,v4,v5,c,x8,x9,b,f,d,zV 2 (zV 1 (zV 0 a)),dem x0,dem a,dem v3,dem v4,dem v5,o,p,q,r,s,t,u,w,x,y,z,A,B,C,D,E,F,G,H,I,J,K,L,M,N,P,Q,R,U,V,W,X,Y,Z,a0,a1,a2,a3,a4,a5,a6,a7,a8,a9,b0,b1,b2,b3,b4,b5,b6,b7,b8,b9,c1,c2,c3,c4,c5,c6,c7,c8,c9,d0,d1],S4)) ()) ()) ()) ()):=by
 kernel_rfl
theorem zF.r2 :jF zi ⟨false,false,false⟩ (jd zi O) (reg Try.f16 2) (reg Try.f16 2).toList ([x0,x1,x2,x3,x4,x5,x6,c,x8,x9,b,f,d,g,i,k,l,m,n,o,p,q,r,s,t,u,w,x,y,z,A,B,C,D,E,F,G,H,I,J,K,L,M,N,P,Q,R,U,V,W,X,Y,Z,a0,a1,a2,a3,a4,a5,a6,a7,a8,a9,b0,b1,b2,b3,b4,b5,b6,b7,b8,b9,c1,c2,c3,c4,c5,c6,c7,c8,c9,d0,d1]) S =
  (zN (wH zi BinOp.neq 3 (dem x6) (.int .i64 0) S) (fun a S1=>some ([x0,x1,x2,x3,x4,x5,x6,c,x8,x9,b,f,d,g,i,k,l,m,n,dem x6,a,q,r,s,t,u,w,x,y,z,A,B,C,D,E,F,G,H,I,J,K,L,M,N,P,Q,R,U,V,W,X,Y,Z,a0,a1,a2,a3,a4,a5,a6,a7,a8,a9,b0,b1,b2,b3,b4,b5,b6,b7,b8,b9,c1,c2,c3,c4,c5,c6,c7,c8,c9,d0,d1],S1)) ()):=by
 kernel_rfl
theorem zF.r3 :jF zi ⟨false,false,false⟩ (jd zi O) (reg Try.f16 3) (reg Try.f16 3).toList ([x0,x1,x2,x3,x4,x5,x6,c,x8,x9,b,f,d,g,i,k,l,m,n,o,p,q,r,s,t,u,w,x,y,z,A,B,C,D,E,F,G,H,I,J,K,L,M,N,P,Q,R,U,V,W,X,Y,Z,a0,a1,a2,a3,a4,a5,a6,a7,a8,a9,b0,b1,b2,b3,b4,b5,b6,b7,b8,b9,c1,c2,c3,c4,c5,c6,c7,c8,c9,d0,d1]) S =
  (zN (yw zi 48 [] S) (fun v0 S1=>zN (wS zi 48 x2 (dem v0) S1) (fun a S2=>some ([x0,x1,x2,.int .i64 121,x4,x5,x6,c,x8,x9,b,f,d,g,i,k,l,m,n,o,p,v0,r,s,t,u,w,x,y,z,A,B,C,D,E,F,G,H,I,J,K,L,M,N,P,Q,R,U,V,W,X,Y,Z,a0,a1,a2,a3,a4,a5,a6,a7,a8,a9,b0,b1,b2,b3,b4,b5,b6,b7,b8,b9,c1,c2,c3,c4,c5,c6,c7,c8,c9,d0,d1],S2)) ()) ()):=by
 kernel_rfl
theorem zF.r4 :jF zi ⟨false,false,false⟩ (jd zi O) (reg Try.f16 4) (reg Try.f16 4).toList ([x0,x1,x2,x3,x4,x5,x6,c,x8,x9,b,f,d,g,i,k,l,m,n,o,p,q,r,s,t,u,w,x,y,z,A,B,C,D,E,F,G,H,I,J,K,L,M,N,P,Q,R,U,V,W,X,Y,Z,a0,a1,a2,a3,a4,a5,a6,a7,a8,a9,b0,b1,b2,b3,b4,b5,b6,b7,b8,b9,c1,c2,c3,c4,c5,c6,c7,c8,c9,d0,d1]) S =
  (zN ((jd zi O) 29 [(dem (dem x5)),(.int .i64 6)] S) (fun a S1=>zN (zZ a 0 S1) (fun v3 S2=>zN (zZ (zV 0 a) 1 S2) (fun v4 S3=>zN (zZ (zV 1 (zV 0 a)) 2 S3) (fun v5 S4=>some ([x0,x1,x2,x3,x4,x5,x6,v3,v4,v5,b,f,d,g,i,k,l,m,n,o,p,q,zV 2 (zV 1 (zV 0 a)),dem x5,dem a,dem v3,dem v4,dem v5,y,z,A,B,C,D,E,F,G,H,I,J,K,L,M,N,P,Q,R,U,V,W,X,Y,Z,a0,a1,a2,a3,a4,a5,a6,a7,a8,a9,b0,b1,b2,b3,b4,b5,b6,b7,b8,b9,c1,c2,c3,c4,c5,c6,c7,c8,c9,d0,d1],S4)) ()) ()) ()) ()):=by
 kernel_rfl
theorem zF.r5 :jF zi ⟨false,false,false⟩ (jd zi O) (reg Try.f16 5) (reg Try.f16 5).toList ([x0,x1,x2,x3,x4,x5,x6,c,x8,x9,b,f,d,g,i,k,l,m,n,o,p,q,r,s,t,u,w,x,y,z,A,B,C,D,E,F,G,H,I,J,K,L,M,N,P,Q,R,U,V,W,X,Y,Z,a0,a1,a2,a3,a4,a5,a6,a7,a8,a9,b0,b1,b2,b3,b4,b5,b6,b7,b8,b9,c1,c2,c3,c4,c5,c6,c7,c8,c9,d0,d1]) S =
  (zN (wH zi BinOp.neq 3 (dem x9) (.int .i64 0) S) (fun a S1=>some ([x0,x1,x2,x3,x4,x5,x6,c,x8,x9,b,f,d,g,i,k,l,m,n,o,p,q,r,s,t,u,w,x,dem x9,a,A,B,C,D,E,F,G,H,I,J,K,L,M,N,P,Q,R,U,V,W,X,Y,Z,a0,a1,a2,a3,a4,a5,a6,a7,a8,a9,b0,b1,b2,b3,b4,b5,b6,b7,b8,b9,c1,c2,c3,c4,c5,c6,c7,c8,c9,d0,d1],S1)) ()):=by
 kernel_rfl
theorem zF.r6 :jF zi ⟨false,false,false⟩ (jd zi O) (reg Try.f16 6) (reg Try.f16 6).toList ([x0,x1,x2,x3,x4,x5,x6,c,x8,x9,b,f,d,g,i,k,l,m,n,o,p,q,r,s,t,u,w,x,y,z,A,B,C,D,E,F,G,H,I,J,K,L,M,N,P,Q,R,U,V,W,X,Y,Z,a0,a1,a2,a3,a4,a5,a6,a7,a8,a9,b0,b1,b2,b3,b4,b5,b6,b7,b8,b9,c1,c2,c3,c4,c5,c6,c7,c8,c9,d0,d1]) S =
  (zN (yw zi 48 [] S) (fun v0 S1=>zN (wS zi 48 x2 (dem v0) S1) (fun a S2=>some ([x0,x1,x2,.int .i64 121,x4,x5,x6,c,x8,x9,b,f,d,g,i,k,l,m,n,o,p,q,r,s,t,u,w,x,y,z,v0,B,C,D,E,F,G,H,I,J,K,L,M,N,P,Q,R,U,V,W,X,Y,Z,a0,a1,a2,a3,a4,a5,a6,a7,a8,a9,b0,b1,b2,b3,b4,b5,b6,b7,b8,b9,c1,c2,c3,c4,c5,c6,c7,c8,c9,d0,d1],S2)) ()) ()):=by
 kernel_rfl
theorem zF.d7:kC zi (reg Try.f16 7)=true:=by kernel_rfl
theorem zF.ff7:fixed zi (reg Try.f16 7)=false:=by kernel_rfl
theorem zF.k7:checked zi (reg Try.f16 7)=[0,1,2,3,4,5,6,7,8,9,10,11,12,13,14,15,16,17,18]:=by kernel_rfl
theorem zF.g7:again zi (reg Try.f16 7)=[(2,19),(5,19),(8,19),(11,19),(14,19),(17,19)]:=by kernel_rfl
theorem zF.r7 :zL zi O false (.region 7 (reg Try.f16 7) true) ([x0,x1,x2,x3,x4,x5,x6,c,x8,x9,b,f,d,g,i,k,l,m,n,o,p,q,r,s,t,u,w,x,y,z,A,B,C,D,E,F,G,H,I,J,K,L,M,N,P,Q,R,U,V,W,X,Y,Z,a0,a1,a2,a3,a4,a5,a6,a7,a8,a9,b0,b1,b2,b3,b4,b5,b6,b7,b8,b9,c1,c2,c3,c4,c5,c6,c7,c8,c9,d0,d1]) S =
  Z8 (okK c ( zN (jr zi 24 (dem c) (.int .i64 0) S) (fun a S1=>okK a ( zN (jl zi false 3 a S1) (fun v2 S2=>okK v2 ( okK c ( zN (jr zi 24 (dem c) (.int .i64 1) S2) (fun v4 S3=>okK v4 ( zN (jl zi false 3 v4 S3) (fun v5 S4=>okK v5 ( okK c ( zN (jr zi 24 (dem c) (.int .i64 2) S4) (fun v7 S5=>okK v7 ( zN (jl zi false 3 v7 S5) (fun v8 S6=>okK v8 ( okK c ( zN (jr zi 24 (dem c) (.int .i64 3) S6) (fun d3 S7=>okK d3 ( zN (jl zi false 3 d3 S7) (fun d6 S8=>okK d6 ( okK c ( zN (jr zi 24 (dem c) (.int .i64 4) S8) (fun d4 S9=>okK d4 ( zN (jl zi false 3 d4 S9) (fun d8 f3=>okK d8 ( okK c ( zN (jr zi 24 (dem c) (.int .i64 5) f3) (fun d5 f1=>okK d5 ( zN (jl zi false 3 d5 f1) (fun d9 f4=>okK d9 ( zN (yw zi 48 [(0,(dem v2)),(1,(dem v5)),(2,(dem v8)),(3,(dem d6)),(4,(dem d8)),(5,(dem d9))] f4) (fun f0 f5=>okK f0 ( zN (yR zi 48 f5) (fun f2 d2=>zN (wS zi 48 f2 (dem f0) d2) (fun f7 f6=>ckK (qV a S1 d2 && (qV v4 S3 d2 && (qV v7 S5 d2 && (qV d3 S7 d2 && (qV d4 S9 d2 && (qV d5 f1 d2 && (true))))))) (some ([x0,x1,x2,x3,x4,x5,x6,c,x8,x9,f2,f,d,g,i,k,l,m,n,o,p,q,r,s,t,u,w,x,y,z,A,dem c,a,v2,dem c,v4,v5,dem c,v7,v8,dem c,d3,d6,dem c,d4,d8,dem c,d5,d9,f0,X,Y,Z,a0,a1,a2,a3,a4,a5,a6,a7,a8,a9,b0,b1,b2,b3,b4,b5,b6,b7,b8,b9,c1,c2,c3,c4,c5,c6,c7,c8,c9,d0,d1],f6)) ()) ()) ()) ()) ()) ()) ()) ()) ()) ()) ()) ()) ()) ()) ()) ()) ()) ()) ()) ()) ()) ()) ()) ()) ()) ()) ()) ()) ()) ()) ()) ()) ()) ()) ()):=by
 rw [yM zF.d7 zF.ff7 zF.k7 zF.g7]
 refine congrArg Z8 ?_
 refine uPC Try.f16 7 0 (v:=c) (pe:=zh) ?_
 refine uDC Try.f16 7 1 (pe:=zh) (fun a S1=>?_)
 refine uDC Try.f16 7 2 (pe:=a) (fun v2 S2=>?_)
 refine uPC Try.f16 7 3 (v:=c) (pe:=zh) ?_
 refine uDC Try.f16 7 4 (pe:=zh) (fun v4 S3=>?_)
 refine uDC Try.f16 7 5 (pe:=v4) (fun v5 S4=>?_)
 refine uPC Try.f16 7 6 (v:=c) (pe:=zh) ?_
 refine uDC Try.f16 7 7 (pe:=zh) (fun v7 S5=>?_)
 refine uDC Try.f16 7 8 (pe:=v7) (fun v8 S6=>?_)
 refine uPC Try.f16 7 9 (v:=c) (pe:=zh) ?_
 refine uDC Try.f16 7 10 (pe:=zh) (fun d3 S7=>?_)
 refine uDC Try.f16 7 11 (pe:=d3) (fun d6 S8=>?_)
 refine uPC Try.f16 7 12 (v:=c) (pe:=zh) ?_
 refine uDC Try.f16 7 13 (pe:=zh) (fun d4 S9=>?_)
 refine uDC Try.f16 7 14 (pe:=d4) (fun d8 f3=>?_)
 refine uPC Try.f16 7 15 (v:=c) (pe:=zh) ?_
 refine uDC Try.f16 7 16 (pe:=zh) (fun d5 f1=>?_)
 refine uDC Try.f16 7 17 (pe:=d5) (fun d9 f4=>?_)
 refine uDC Try.f16 7 18 (pe:=zh) (fun f0 f5=>?_)
 refine uD Try.f16 7 19 (pe:=zh) (fun f2 d2=>?_)
 refine uD Try.f16 7 20 (pe:=zh) (fun f7 f6=>?_)
 kernel_rfl
theorem zF.r8 :jF zi ⟨false,false,false⟩ (jd zi O) (reg Try.f16 8) (reg Try.f16 8).toList ([x0,x1,x2,x3,x4,x5,x6,c,x8,x9,b,f,d,g,i,k,l,m,n,o,p,q,r,s,t,u,w,x,y,z,A,B,C,D,E,F,G,H,I,J,K,L,M,N,P,Q,R,U,V,W,X,Y,Z,a0,a1,a2,a3,a4,a5,a6,a7,a8,a9,b0,b1,b2,b3,b4,b5,b6,b7,b8,b9,c1,c2,c3,c4,c5,c6,c7,c8,c9,d0,d1]) S =
  (zN (zG zi 48 b 0 S) (fun v0 S1=>zN (jl zi false 3 v0 S1) (fun a S2=>zN (wH zi BinOp.eql 3 a (.int .i64 0) S2) (fun v2 S3=>some ([x0,x1,x2,x3,x4,x5,x6,c,x8,x9,b,f,d,g,i,k,l,m,n,o,p,q,r,s,t,u,w,x,y,z,A,B,C,D,E,F,G,H,I,J,K,L,M,N,P,Q,R,U,V,W,v0,a,v2,a0,a1,a2,a3,a4,a5,a6,a7,a8,a9,b0,b1,b2,b3,b4,b5,b6,b7,b8,b9,c1,c2,c3,c4,c5,c6,c7,c8,c9,d0,d1],S3)) ()) ()) ()):=by
 kernel_rfl
theorem zF.r9 :jF zi ⟨false,false,false⟩ (jd zi O) (reg Try.f16 9) (reg Try.f16 9).toList ([x0,x1,x2,x3,x4,x5,x6,c,x8,x9,b,f,d,g,i,k,l,m,n,o,p,q,r,s,t,u,w,x,y,z,A,B,C,D,E,F,G,H,I,J,K,L,M,N,P,Q,R,U,V,W,X,Y,Z,a0,a1,a2,a3,a4,a5,a6,a7,a8,a9,b0,b1,b2,b3,b4,b5,b6,b7,b8,b9,c1,c2,c3,c4,c5,c6,c7,c8,c9,d0,d1]) S =
  (zN ((jd zi O) 30 [(dem (dem x8))] S) (fun a S1=>zN (zZ a 0 S1) (fun v3 S2=>zN (zZ (zV 0 a) 1 S2) (fun v4 S3=>zN (zG zi 48 b 6 S3) (fun v5 S4=>zN (wS zi 43 v5 (dem v3) S4) (fun v6 S5=>some ([x0,x1,x2,x3,x4,x5,x6,c,x8,x9,b,f,d,g,i,k,l,m,n,o,p,q,r,s,t,u,w,x,y,z,A,B,C,D,E,F,G,H,I,J,K,L,M,N,P,Q,R,U,V,W,X,Y,Z,zV 1 (zV 0 a),dem x8,dem a,v3,v4,v5,a6,a7,a8,a9,b0,b1,b2,b3,b4,b5,b6,b7,b8,b9,c1,c2,c3,c4,c5,c6,c7,c8,c9,d0,d1],S5)) ()) ()) ()) ()) ()):=by
 kernel_rfl
theorem zF.r10 :jF zi ⟨false,false,false⟩ (jd zi O) (reg Try.f16 10) (reg Try.f16 10).toList ([x0,x1,x2,x3,x4,x5,x6,c,x8,x9,b,f,d,g,i,k,l,m,n,o,p,q,r,s,t,u,w,x,y,z,A,B,C,D,E,F,G,H,I,J,K,L,M,N,P,Q,R,U,V,W,X,Y,Z,a0,a1,a2,a3,a4,a5,a6,a7,a8,a9,b0,b1,b2,b3,b4,b5,b6,b7,b8,b9,c1,c2,c3,c4,c5,c6,c7,c8,c9,d0,d1]) S =
  (zN (zG zi 48 b 0 S) (fun v0 S1=>zN (jl zi false 3 v0 S1) (fun a S2=>zN (wH zi BinOp.eql 3 a (.int .i64 1) S2) (fun v2 S3=>some ([x0,x1,x2,x3,x4,x5,x6,c,x8,x9,b,f,d,g,i,k,l,m,n,o,p,q,r,s,t,u,w,x,y,z,A,B,C,D,E,F,G,H,I,J,K,L,M,N,P,Q,R,U,V,W,X,Y,Z,a0,a1,a2,a3,a4,a5,v0,a,v2,a9,b0,b1,b2,b3,b4,b5,b6,b7,b8,b9,c1,c2,c3,c4,c5,c6,c7,c8,c9,d0,d1],S3)) ()) ()) ()):=by
 kernel_rfl
theorem zF.r11 :jF zi ⟨false,false,false⟩ (jd zi O) (reg Try.f16 11) (reg Try.f16 11).toList ([x0,x1,x2,x3,x4,x5,x6,c,x8,x9,b,f,d,g,i,k,l,m,n,o,p,q,r,s,t,u,w,x,y,z,A,B,C,D,E,F,G,H,I,J,K,L,M,N,P,Q,R,U,V,W,X,Y,Z,a0,a1,a2,a3,a4,a5,a6,a7,a8,a9,b0,b1,b2,b3,b4,b5,b6,b7,b8,b9,c1,c2,c3,c4,c5,c6,c7,c8,c9,d0,d1]) S =
  (zN ((jd zi O) 31 [(dem (dem x8))] S) (fun a S1=>zN (zZ a 0 S1) (fun v3 S2=>zN (zZ (zV 0 a) 1 S2) (fun v4 S3=>zN (zG zi 48 b 7 S3) (fun v5 S4=>zN (wS zi 46 v5 (dem v3) S4) (fun v6 S5=>some ([x0,x1,x2,x3,x4,x5,x6,c,x8,x9,b,f,d,g,i,k,l,m,n,o,p,q,r,s,t,u,w,x,y,z,A,B,C,D,E,F,G,H,I,J,K,L,M,N,P,Q,R,U,V,W,X,Y,Z,a0,a1,a2,a3,a4,a5,a6,a7,a8,zV 1 (zV 0 a),dem x8,dem a,v3,v4,v5,b5,b6,b7,b8,b9,c1,c2,c3,c4,c5,c6,c7,c8,c9,d0,d1],S5)) ()) ()) ()) ()) ()):=by
 kernel_rfl
theorem zF.r12 :jF zi ⟨false,false,false⟩ (jd zi O) (reg Try.f16 12) (reg Try.f16 12).toList ([x0,x1,x2,x3,x4,x5,x6,c,x8,x9,b,f,d,g,i,k,l,m,n,o,p,q,r,s,t,u,w,x,y,z,A,B,C,D,E,F,G,H,I,J,K,L,M,N,P,Q,R,U,V,W,X,Y,Z,a0,a1,a2,a3,a4,a5,a6,a7,a8,a9,b0,b1,b2,b3,b4,b5,b6,b7,b8,b9,c1,c2,c3,c4,c5,c6,c7,c8,c9,d0,d1]) S =
  (zN (jl zi false 48 b S) (fun v0 S1=>zN ((jd zi O) 19 [(dem v0)] S1) (fun a S2=>zN (zZ a 0 S2) (fun v3 S3=>zN (zZ (zV 0 a) 1 S3) (fun v4 S4=>some ([x0,x1,x2,x3,x4,x5,x6,c,x8,x9,b,v3,v4,g,i,k,l,m,n,o,p,q,r,s,t,u,w,x,y,z,A,B,C,D,E,F,G,H,I,J,K,L,M,N,P,Q,R,U,V,W,X,Y,Z,a0,a1,a2,a3,a4,a5,a6,a7,a8,a9,b0,b1,b2,b3,b4,zV 1 (zV 0 a),v0,dem a,dem v3,dem v4,c1,c2,c3,c4,c5,c6,c7,c8,c9,d0,d1],S4)) ()) ()) ()) ()):=by
 kernel_rfl
theorem zF.r13 :jF zi ⟨false,false,false⟩ (jd zi O) (reg Try.f16 13) (reg Try.f16 13).toList ([x0,x1,x2,x3,x4,x5,x6,c,x8,x9,b,f,d,g,i,k,l,m,n,o,p,q,r,s,t,u,w,x,y,z,A,B,C,D,E,F,G,H,I,J,K,L,M,N,P,Q,R,U,V,W,X,Y,Z,a0,a1,a2,a3,a4,a5,a6,a7,a8,a9,b0,b1,b2,b3,b4,b5,b6,b7,b8,b9,c1,c2,c3,c4,c5,c6,c7,c8,c9,d0,d1]) S =
  (zN (wH zi BinOp.neq 3 (dem d) (.int .i64 0) S) (fun a S1=>gdK (dem a) false (ret f) S1 (fun v3 S2=>gdK (dem a) false (qL zi false false 33 9 (dem v3)) S2 (fun v4 S3=>gdK (dem a) false (ret x0) S3 (fun v5 S4=>gdK (dem a) false (qL zi false false 33 9 (dem v5)) S4 (fun v6 S5=>gdK (dem a) false (wH zi BinOp.neq 9 v4 v6) S5 (fun v7 S6=>zN (wW (dem a) (Value.bool true) v7 S6) (fun v8 S7=>some ([x0,x1,x2,x3,x4,x5,x6,c,x8,x9,b,f,d,g,i,k,l,m,n,o,p,q,r,s,t,u,w,x,y,z,A,B,C,D,E,F,G,H,I,J,K,L,M,N,P,Q,R,U,V,W,X,Y,Z,a0,a1,a2,a3,a4,a5,a6,a7,a8,a9,b0,b1,b2,b3,b4,b5,b6,b7,b8,b9,dem d,a,dem a,dem v3,v4,dem v5,v6,v7,v8,d0,d1],S7)) ()) ()) ()) ()) ()) ()) ()):=by
 refine sP Try.f16 13 0 (v:=d) ?_
 refine sD Try.f16 13 1 (fun a S1=>?_)
 refine sP Try.f16 13 2 (v:=a) ?_
 refine sG Try.f16 13 3 (j:=2) (fun v3 S2=>?_)
 refine sG Try.f16 13 4 (j:=2) (fun v4 S3=>?_)
 refine sG Try.f16 13 5 (j:=2) (fun v5 S4=>?_)
 refine sG Try.f16 13 6 (j:=2) (fun v6 S5=>?_)
 refine sG Try.f16 13 7 (j:=2) (fun v7 S6=>?_)
 refine sD Try.f16 13 8 (fun v8 S7=>?_)
 kernel_rfl
theorem zF.r14 :jF zi ⟨false,false,false⟩ (jd zi O) (reg Try.f16 14) (reg Try.f16 14).toList ([x0,x1,x2,x3,x4,x5,x6,c,x8,x9,b,f,d,g,i,k,l,m,n,o,p,q,r,s,t,u,w,x,y,z,A,B,C,D,E,F,G,H,I,J,K,L,M,N,P,Q,R,U,V,W,X,Y,Z,a0,a1,a2,a3,a4,a5,a6,a7,a8,a9,b0,b1,b2,b3,b4,b5,b6,b7,b8,b9,c1,c2,c3,c4,c5,c6,c7,c8,c9,d0,d1]) S =
  (zN (yw zi 48 [] S) (fun v0 S1=>zN (wS zi 48 x2 (dem v0) S1) (fun a S2=>some ([x0,x1,x2,.int .i64 121,x4,x5,x6,c,x8,x9,b,f,d,g,i,k,l,m,n,o,p,q,r,s,t,u,w,x,y,z,A,B,C,D,E,F,G,H,I,J,K,L,M,N,P,Q,R,U,V,W,X,Y,Z,a0,a1,a2,a3,a4,a5,a6,a7,a8,a9,b0,b1,b2,b3,b4,b5,b6,b7,b8,b9,c1,c2,c3,c4,c5,c6,c7,c8,c9,v0,d1],S2)) ()) ()):=by
 kernel_rfl
theorem zF.r15 :jF zi ⟨false,false,false⟩ (jd zi O) (reg Try.f16 15) (reg Try.f16 15).toList ([x0,x1,x2,x3,x4,x5,x6,c,x8,x9,b,f,d,g,i,k,l,m,n,o,p,q,r,s,t,u,w,x,y,z,A,B,C,D,E,F,G,H,I,J,K,L,M,N,P,Q,R,U,V,W,X,Y,Z,a0,a1,a2,a3,a4,a5,a6,a7,a8,a9,b0,b1,b2,b3,b4,b5,b6,b7,b8,b9,c1,c2,c3,c4,c5,c6,c7,c8,c9,d0,d1]) S =
  (zN (jl zi false 48 b S) (fun v0 S1=>zN (wS zi 48 x2 (dem v0) S1) (fun a S2=>some ([x0,x1,x2,.int .i64 0,x4,x5,x6,c,x8,x9,b,f,d,g,i,k,l,m,n,o,p,q,r,s,t,u,w,x,y,z,A,B,C,D,E,F,G,H,I,J,K,L,M,N,P,Q,R,U,V,W,X,Y,Z,a0,a1,a2,a3,a4,a5,a6,a7,a8,a9,b0,b1,b2,b3,b4,b5,b6,b7,b8,b9,c1,c2,c3,c4,c5,c6,c7,c8,c9,d0,v0],S2)) ()) ()):=by
 kernel_rfl
theorem zF.rs:type_of% (alY @zF.r0 (alY @zF.r1 (alY @zF.r2 (alY @zF.r3 (alY @zF.r4 (alY @zF.r5 (alY @zF.r6 (alY @zF.r7 (alY @zF.r8 (alY @zF.r9 (alY @zF.r10 (alY @zF.r11 (alY @zF.r12 (alY @zF.r13 (alY @zF.r14 (@zF.r15)))))))))))))))):=alY @zF.r0 (alY @zF.r1 (alY @zF.r2 (alY @zF.r3 (alY @zF.r4 (alY @zF.r5 (alY @zF.r6 (alY @zF.r7 (alY @zF.r8 (alY @zF.r9 (alY @zF.r10 (alY @zF.r11 (alY @zF.r12 (alY @zF.r13 (alY @zF.r14 (@zF.r15)))))))))))))))
theorem zF.runs {x0:Value} {S S1:zx} {e:AEx} {T:List Value} (h:zL zi O false zF.code ([x0,zh,zh,zh,zh,zh,zh,zh,zh,zh,zh,zh,zh,zh,zh,zh,zh,zh,zh,zh,zh,zh,zh,zh,zh,zh,zh,zh,zh,zh,zh,zh,zh,zh,zh,zh,zh,zh,zh,zh,zh,zh,zh,zh,zh,zh,zh,zh,zh,zh,zh,zh,zh,zh,zh,zh,zh,zh,zh,zh,zh,zh,zh,zh,zh,zh,zh,zh,zh,zh,zh,zh,zh,zh,zh,zh,zh,zh,zh,zh,zh,zh,zh,zh]) zx.empty=some (e,T,S1)) (he:e=.normal∨e=.ret) {w0:Value} (c0:jl zi false 48 (T.getD 2 zh) S1=some (w0,S1)) (h0:wE (w0)=true) (h1:wE (T.getD 3 zh)=true) (hca:[x0].all (jL 16)=true) (hcv:jL 16 (Value.tuple #[w0,T.getD 3 zh])=true):jd zi O 16 [x0] S=some (Value.tuple #[w0,T.getD 3 zh],S) :=
 yD rfl rfl Try.func16 (by decide) zF.body (by exact h) he ((qj ((show zQ zi T S1 Try.f16.results.toList=zQ zi T S1 [(ResultVar.cell 2 48),(ResultVar.tmp 3)] from by kernel_rfl).trans (by simp only [zQ,c0])) (by kernel_rfl) (by simp only [List.all_cons,List.all_nil,h0,h1,Bool.and_true])).trans rfl) hca hcv
end Go.Proofs.Ytfjogganfjkckaa
namespace Go.Proofs.Ytfjogganfjkckaa
open Go.Abs
abbrev jA.id:FuncId:=42
noncomputable def jA.code:Code:=(.seq (.region 0 (reg Try.f42 0) false) (.seq (.region 1 (reg Try.f42 1) false) (.seq (.seq (.region 2 (reg Try.f42 2) false) (.cond (.tmp 14) (.seq (.region 3 (reg Try.f42 3) false) Code.ret) Code.skip)) (.seq (.region 4 (reg Try.f42 4) true) (.seq (.seq (.region 5 (reg Try.f42 5) false) (.block 0 (.seq (.region 8 (reg Try.f42 8) false) (.cond (.tmp 46) (.region 9 (reg Try.f42 9) false) (.seq (.region 10 (reg Try.f42 10) false) (.cond (.tmp 54) (.region 11 (reg Try.f42 11) false) (.seq (.region 6 (reg Try.f42 6) false) (.seq (.region 7 (reg Try.f42 7) true) Code.ret)))))))) (.seq (.region 12 (reg Try.f42 12) true) Code.ret))))))
theorem jA.body:Try.f42.body=some jA.code:=by kernel_rfl
variable (x0 x1 a x3 b x5 x6 x7 x8 x9 d f g i k l m n o p q r s t u w x y z A B C D E F G c H I J K L M N P Q R U V W X Y Z a0 a1 a2 a3 a4 a5 a6 a7 a8 a9 b0 b1 b2 b3 b4 b5:Value) (S:zx)
theorem jA.r0 :jF zi ⟨false,false,false⟩ (jd zi O) (reg Try.f42 0) (reg Try.f42 0).toList ([x0,x1,a,x3,b,x5,x6,x7,x8,x9,d,f,g,i,k,l,m,n,o,p,q,r,s,t,u,w,x,y,z,A,B,C,D,E,F,G,c,H,I,J,K,L,M,N,P,Q,R,U,V,W,X,Y,Z,a0,a1,a2,a3,a4,a5,a6,a7,a8,a9,b0,b1,b2,b3,b4,b5]) S =
  (zN (yR zi 48 S) (fun v0 S1=>some ([x0,x1,v0,Value.bool false,b,x5,x6,x7,x8,x9,d,f,g,i,k,l,m,n,o,p,q,r,s,t,u,w,x,y,z,A,B,C,D,E,F,G,c,H,I,J,K,L,M,N,P,Q,R,U,V,W,X,Y,Z,a0,a1,a2,a3,a4,a5,a6,a7,a8,a9,b0,b1,b2,b3,b4,b5],S1)) ()):=by
 kernel_rfl
theorem jA.r1 :jF zi ⟨false,false,false⟩ (jd zi O) (reg Try.f42 1) (reg Try.f42 1).toList ([x0,x1,a,x3,b,x5,x6,x7,x8,x9,d,f,g,i,k,l,m,n,o,p,q,r,s,t,u,w,x,y,z,A,B,C,D,E,F,G,c,H,I,J,K,L,M,N,P,Q,R,U,V,W,X,Y,Z,a0,a1,a2,a3,a4,a5,a6,a7,a8,a9,b0,b1,b2,b3,b4,b5]) S =
  (zN ((jd zi O) 55 [(dem (dem x0)),(.int .i64 6)] S) (fun v1 S1=>zN (zZ v1 0 S1) (fun v3 S2=>zN (zZ (zV 0 v1) 1 S2) (fun v4 S3=>zN (zZ (zV 1 (zV 0 v1)) 2 S3) (fun v5 S4=>some ([x0,x1,a,x3,v3,v4,v5,zV 2 (zV 1 (zV 0 v1)),dem x0,dem v1,dem v3,dem v4,dem v5,i,k,l,m,n,o,p,q,r,s,t,u,w,x,y,z,A,B,C,D,E,F,G,c,H,I,J,K,L,M,N,P,Q,R,U,V,W,X,Y,Z,a0,a1,a2,a3,a4,a5,a6,a7,a8,a9,b0,b1,b2,b3,b4,b5],S4)) ()) ()) ()) ()):=by
 kernel_rfl
theorem jA.r2 :jF zi ⟨false,false,false⟩ (jd zi O) (reg Try.f42 2) (reg Try.f42 2).toList ([x0,x1,a,x3,b,x5,x6,x7,x8,x9,d,f,g,i,k,l,m,n,o,p,q,r,s,t,u,w,x,y,z,A,B,C,D,E,F,G,c,H,I,J,K,L,M,N,P,Q,R,U,V,W,X,Y,Z,a0,a1,a2,a3,a4,a5,a6,a7,a8,a9,b0,b1,b2,b3,b4,b5]) S =
  (zN (wH zi BinOp.neq 64 (dem x6) (.int .i64 0) S) (fun v1 S1=>some ([x0,x1,a,x3,b,x5,x6,x7,x8,x9,d,f,g,dem x6,v1,l,m,n,o,p,q,r,s,t,u,w,x,y,z,A,B,C,D,E,F,G,c,H,I,J,K,L,M,N,P,Q,R,U,V,W,X,Y,Z,a0,a1,a2,a3,a4,a5,a6,a7,a8,a9,b0,b1,b2,b3,b4,b5],S1)) ()):=by
 kernel_rfl
theorem jA.r3 :jF zi ⟨false,false,false⟩ (jd zi O) (reg Try.f42 3) (reg Try.f42 3).toList ([x0,x1,a,x3,b,x5,x6,x7,x8,x9,d,f,g,i,k,l,m,n,o,p,q,r,s,t,u,w,x,y,z,A,B,C,D,E,F,G,c,H,I,J,K,L,M,N,P,Q,R,U,V,W,X,Y,Z,a0,a1,a2,a3,a4,a5,a6,a7,a8,a9,b0,b1,b2,b3,b4,b5]) S =
  (zN (jl zi false 48 a S) (fun v0 S1=>zN (wS zi 48 a (dem v0) S1) (fun v1 S2=>some ([x0,x1,a,Value.bool false,b,x5,x6,x7,x8,x9,d,f,g,i,k,v0,m,n,o,p,q,r,s,t,u,w,x,y,z,A,B,C,D,E,F,G,c,H,I,J,K,L,M,N,P,Q,R,U,V,W,X,Y,Z,a0,a1,a2,a3,a4,a5,a6,a7,a8,a9,b0,b1,b2,b3,b4,b5],S2)) ()) ()):=by
 kernel_rfl
theorem jA.d4:kC zi (reg Try.f42 4)=true:=by kernel_rfl
theorem jA.ff4:fixed zi (reg Try.f42 4)=false:=by kernel_rfl
theorem jA.k4:checked zi (reg Try.f42 4)=[]:=by kernel_rfl
theorem jA.g4:again zi (reg Try.f42 4)=[]:=by kernel_rfl
theorem jA.r4 :zL zi O false (.region 4 (reg Try.f42 4) true) ([x0,x1,a,x3,b,x5,x6,x7,x8,x9,d,f,g,i,k,l,m,n,o,p,q,r,s,t,u,w,x,y,z,A,B,C,D,E,F,G,c,H,I,J,K,L,M,N,P,Q,R,U,V,W,X,Y,Z,a0,a1,a2,a3,a4,a5,a6,a7,a8,a9,b0,b1,b2,b3,b4,b5]) S =
  Z8 (zN (jr zi 24 (dem b) (.int .i64 0) S) (fun v1 S1=>zN (jl zi false 3 v1 S1) (fun v2 S2=>zN (jr zi 24 (dem b) (.int .i64 1) S2) (fun v4 S3=>zN (jl zi false 3 v4 S3) (fun v5 S4=>zN (jr zi 24 (dem b) (.int .i64 2) S4) (fun v7 S5=>zN (jl zi false 3 v7 S5) (fun v8 S6=>zN (jr zi 24 (dem b) (.int .i64 3) S6) (fun b6 S7=>zN (jl zi false 3 b6 S7) (fun b7 S8=>zN (jr zi 24 (dem b) (.int .i64 4) S8) (fun b8 S9=>zN (jl zi false 3 b8 S9) (fun b9 c4=>zN (jr zi 24 (dem b) (.int .i64 5) c4) (fun c1 c5=>zN (jl zi false 3 c1 c5) (fun c2 c6=>zN (yw zi 48 [(0,(dem v2)),(1,(dem v5)),(2,(dem v8)),(3,(dem b7)),(4,(dem b9)),(5,(dem c2))] c6) (fun c3 c7=>zN (wS zi 48 a (dem c3) c7) (fun c9 c8=>some ([x0,x1,a,x3,b,x5,x6,x7,x8,x9,d,f,g,i,k,l,dem b,v1,v2,dem b,v4,v5,dem b,v7,v8,dem b,b6,b7,dem b,b8,b9,dem b,c1,c2,c3,G,c,H,I,J,K,L,M,N,P,Q,R,U,V,W,X,Y,Z,a0,a1,a2,a3,a4,a5,a6,a7,a8,a9,b0,b1,b2,b3,b4,b5],c8)) ()) ()) ()) ()) ()) ()) ()) ()) ()) ()) ()) ()) ()) ()):=by
 rw [yM jA.d4 jA.ff4 jA.k4 jA.g4]
 refine congrArg Z8 ?_
 refine tP Try.f42 4 0 (v:=b) ?_
 refine tD Try.f42 4 1 (fun v1 S1=>?_)
 refine tD Try.f42 4 2 (fun v2 S2=>?_)
 refine tP Try.f42 4 3 (v:=b) ?_
 refine tD Try.f42 4 4 (fun v4 S3=>?_)
 refine tD Try.f42 4 5 (fun v5 S4=>?_)
 refine tP Try.f42 4 6 (v:=b) ?_
 refine tD Try.f42 4 7 (fun v7 S5=>?_)
 refine tD Try.f42 4 8 (fun v8 S6=>?_)
 refine tP Try.f42 4 9 (v:=b) ?_
 refine tD Try.f42 4 10 (fun b6 S7=>?_)
 refine tD Try.f42 4 11 (fun b7 S8=>?_)
 refine tP Try.f42 4 12 (v:=b) ?_
 refine tD Try.f42 4 13 (fun b8 S9=>?_)
 refine tD Try.f42 4 14 (fun b9 c4=>?_)
 refine tP Try.f42 4 15 (v:=b) ?_
 refine tD Try.f42 4 16 (fun c1 c5=>?_)
 refine tD Try.f42 4 17 (fun c2 c6=>?_)
 refine tD Try.f42 4 18 (fun c3 c7=>?_)
 refine tD Try.f42 4 19 (fun c9 c8=>?_)
 kernel_rfl
theorem jA.r5 :jF zi ⟨false,false,false⟩ (jd zi O) (reg Try.f42 5) (reg Try.f42 5).toList ([x0,x1,a,x3,b,x5,x6,x7,x8,x9,d,f,g,i,k,l,m,n,o,p,q,r,s,t,u,w,x,y,z,A,B,C,D,E,F,G,c,H,I,J,K,L,M,N,P,Q,R,U,V,W,X,Y,Z,a0,a1,a2,a3,a4,a5,a6,a7,a8,a9,b0,b1,b2,b3,b4,b5]) S =
  (zN (zG zi 48 a 0 S) (fun v0 S1=>zN (jl zi false 3 v0 S1) (fun v1 S2=>some ([x0,x1,a,x3,b,x5,x6,x7,x8,x9,d,f,g,i,k,l,m,n,o,p,q,r,s,t,u,w,x,y,z,A,B,C,D,E,F,v0,v1,H,I,J,K,L,M,N,P,Q,R,U,V,W,X,Y,Z,a0,a1,a2,a3,a4,a5,a6,a7,a8,a9,b0,b1,b2,b3,b4,b5],S2)) ()) ()):=by
 kernel_rfl
theorem jA.r8 :jF zi ⟨false,false,false⟩ (jd zi O) (reg Try.f42 8) (reg Try.f42 8).toList ([x0,x1,a,x3,b,x5,x6,x7,x8,x9,d,f,g,i,k,l,m,n,o,p,q,r,s,t,u,w,x,y,z,A,B,C,D,E,F,G,c,H,I,J,K,L,M,N,P,Q,R,U,V,W,X,Y,Z,a0,a1,a2,a3,a4,a5,a6,a7,a8,a9,b0,b1,b2,b3,b4,b5]) S =
  (zN (wH zi BinOp.eql 3 c (.int .i64 0) S) (fun v0 S1=>some ([x0,x1,a,x3,b,x5,x6,x7,x8,x9,d,f,g,i,k,l,m,n,o,p,q,r,s,t,u,w,x,y,z,A,B,C,D,E,F,G,c,H,I,J,K,L,M,N,P,Q,v0,dem v0,V,W,X,Y,Z,a0,a1,a2,a3,a4,a5,a6,a7,a8,a9,b0,b1,b2,b3,b4,b5],S1)) ()):=by
 kernel_rfl
theorem jA.r9 :jF zi ⟨false,false,false⟩ (jd zi O) (reg Try.f42 9) (reg Try.f42 9).toList ([x0,x1,a,x3,b,x5,x6,x7,x8,x9,d,f,g,i,k,l,m,n,o,p,q,r,s,t,u,w,x,y,z,A,B,C,D,E,F,G,c,H,I,J,K,L,M,N,P,Q,R,U,V,W,X,Y,Z,a0,a1,a2,a3,a4,a5,a6,a7,a8,a9,b0,b1,b2,b3,b4,b5]) S =
  (zN ((jd zi O) 56 [(dem (dem x5))] S) (fun v1 S1=>zN (zZ v1 0 S1) (fun v3 S2=>zN (zZ (zV 0 v1) 1 S2) (fun v4 S3=>zN (zG zi 48 a 6 S3) (fun v5 S4=>zN (wS zi 43 v5 (dem v3) S4) (fun v6 S5=>some ([x0,x1,a,x3,b,x5,v4,x7,x8,x9,d,f,g,i,k,l,m,n,o,p,q,r,s,t,u,w,x,y,z,A,B,C,D,E,F,G,c,H,I,J,K,L,M,N,P,Q,R,U,zV 1 (zV 0 v1),dem x5,dem v1,v3,dem v4,v5,a1,a2,a3,a4,a5,a6,a7,a8,a9,b0,b1,b2,b3,b4,b5],S5)) ()) ()) ()) ()) ()):=by
 kernel_rfl
theorem jA.r10 :jF zi ⟨false,false,false⟩ (jd zi O) (reg Try.f42 10) (reg Try.f42 10).toList ([x0,x1,a,x3,b,x5,x6,x7,x8,x9,d,f,g,i,k,l,m,n,o,p,q,r,s,t,u,w,x,y,z,A,B,C,D,E,F,G,c,H,I,J,K,L,M,N,P,Q,R,U,V,W,X,Y,Z,a0,a1,a2,a3,a4,a5,a6,a7,a8,a9,b0,b1,b2,b3,b4,b5]) S =
  (zN (wH zi BinOp.eql 3 c (.int .i64 1) S) (fun v0 S1=>some ([x0,x1,a,x3,b,x5,x6,x7,x8,x9,d,f,g,i,k,l,m,n,o,p,q,r,s,t,u,w,x,y,z,A,B,C,D,E,F,G,c,H,I,J,K,L,M,N,P,Q,R,U,V,W,X,Y,Z,a0,v0,dem v0,a3,a4,a5,a6,a7,a8,a9,b0,b1,b2,b3,b4,b5],S1)) ()):=by
 kernel_rfl
theorem jA.r11 :jF zi ⟨false,false,false⟩ (jd zi O) (reg Try.f42 11) (reg Try.f42 11).toList ([x0,x1,a,x3,b,x5,x6,x7,x8,x9,d,f,g,i,k,l,m,n,o,p,q,r,s,t,u,w,x,y,z,A,B,C,D,E,F,G,c,H,I,J,K,L,M,N,P,Q,R,U,V,W,X,Y,Z,a0,a1,a2,a3,a4,a5,a6,a7,a8,a9,b0,b1,b2,b3,b4,b5]) S =
  (zN ((jd zi O) 57 [(dem (dem x5))] S) (fun v1 S1=>zN (zZ v1 0 S1) (fun v3 S2=>zN (zZ (zV 0 v1) 1 S2) (fun v4 S3=>zN (zG zi 48 a 7 S3) (fun v5 S4=>zN (wS zi 46 v5 (dem v3) S4) (fun v6 S5=>some ([x0,x1,a,x3,b,x5,v4,x7,x8,x9,d,f,g,i,k,l,m,n,o,p,q,r,s,t,u,w,x,y,z,A,B,C,D,E,F,G,c,H,I,J,K,L,M,N,P,Q,R,U,V,W,X,Y,Z,a0,a1,a2,zV 1 (zV 0 v1),dem x5,dem v1,v3,dem v4,v5,a9,b0,b1,b2,b3,b4,b5],S5)) ()) ()) ()) ()) ()):=by
 kernel_rfl
theorem jA.r6 :jF zi ⟨false,false,false⟩ (jd zi O) (reg Try.f42 6) (reg Try.f42 6).toList ([x0,x1,a,x3,b,x5,x6,x7,x8,x9,d,f,g,i,k,l,m,n,o,p,q,r,s,t,u,w,x,y,z,A,B,C,D,E,F,G,c,H,I,J,K,L,M,N,P,Q,R,U,V,W,X,Y,Z,a0,a1,a2,a3,a4,a5,a6,a7,a8,a9,b0,b1,b2,b3,b4,b5]) S =
  (zN (ZY zi 33 (dem x5) S) (fun v1 S1=>zN (wH zi BinOp.eql 3 v1 (.int .i64 0) S1) (fun v2 S2=>some ([x0,x1,a,v2,b,x5,x6,x7,x8,x9,d,f,g,i,k,l,m,n,o,p,q,r,s,t,u,w,x,y,z,A,B,C,D,E,F,G,c,dem x5,v1,dem v2,K,L,M,N,P,Q,R,U,V,W,X,Y,Z,a0,a1,a2,a3,a4,a5,a6,a7,a8,a9,b0,b1,b2,b3,b4,b5],S2)) ()) ()):=by
 kernel_rfl
theorem jA.d7:kC zi (reg Try.f42 7)=true:=by kernel_rfl
theorem jA.ff7:fixed zi (reg Try.f42 7)=false:=by kernel_rfl
theorem jA.k7:checked zi (reg Try.f42 7)=[0,5]:=by kernel_rfl
theorem jA.g7:again zi (reg Try.f42 7)=[(0,4)]:=by kernel_rfl
theorem jA.r7 :zL zi O false (.region 7 (reg Try.f42 7) true) ([x0,x1,a,x3,b,x5,x6,x7,x8,x9,d,f,g,i,k,l,m,n,o,p,q,r,s,t,u,w,x,y,z,A,B,C,D,E,F,G,c,H,I,J,K,L,M,N,P,Q,R,U,V,W,X,Y,Z,a0,a1,a2,a3,a4,a5,a6,a7,a8,a9,b0,b1,b2,b3,b4,b5]) S =
  Z8 (zN (jl zi false 48 a S) (fun v0 S1=>okK v0 ( gdK (dem x3) true (jl zi false 48 a) S1 (fun v3 S2=>gdK (dem x3) true ((jd zi O) 58 [(dem v3)]) S2 (fun v4 S3=>zN (wW (dem x3) v4 (Value.bool false) S3) (fun v5 S4=>okK v5 ( zN (wS zi 48 a (dem v0) S4) (fun v6 S5=>ckK (qV a S S3 && (true)) (some ([x0,x1,a,v5,b,x5,x6,x7,x8,x9,d,f,g,i,k,l,m,n,o,p,q,r,s,t,u,w,x,y,z,A,B,C,D,E,F,G,c,H,I,J,v0,x3,dem x3,v3,v4,dem v5,R,U,V,W,X,Y,Z,a0,a1,a2,a3,a4,a5,a6,a7,a8,a9,b0,b1,b2,b3,b4,b5],S5)) ()) ()) ()) ()) ()) ()) ()) ()):=by
 rw [yM jA.d7 jA.ff7 jA.k7 jA.g7]
 refine congrArg Z8 ?_
 refine uDC Try.f42 7 0 (pe:=a) (fun v0 S1=>?_)
 refine uP Try.f42 7 1 (v:=x3) (pe:=zh) ?_
 refine uP Try.f42 7 2 (v:=x3) (pe:=zh) ?_
 refine uG Try.f42 7 3 (j:=2) (pe:=a) (fun v3 S2=>?_)
 refine uG Try.f42 7 4 (j:=2) (pe:=zh) (fun v4 S3=>?_)
 refine uDC Try.f42 7 5 (pe:=zh) (fun v5 S4=>?_)
 refine uD Try.f42 7 6 (pe:=zh) (fun v6 S5=>?_)
 refine uP Try.f42 7 7 (v:=v5) (pe:=zh) ?_
 kernel_rfl
theorem jA.d12:kC zi (reg Try.f42 12)=true:=by kernel_rfl
theorem jA.alS:fixed zi (reg Try.f42 12)=false:=by kernel_rfl
theorem jA.k12:checked zi (reg Try.f42 12)=[0,6]:=by kernel_rfl
theorem jA.g12:again zi (reg Try.f42 12)=[(0,5)]:=by kernel_rfl
theorem jA.r12 :zL zi O false (.region 12 (reg Try.f42 12) true) ([x0,x1,a,x3,b,x5,x6,x7,x8,x9,d,f,g,i,k,l,m,n,o,p,q,r,s,t,u,w,x,y,z,A,B,C,D,E,F,G,c,H,I,J,K,L,M,N,P,Q,R,U,V,W,X,Y,Z,a0,a1,a2,a3,a4,a5,a6,a7,a8,a9,b0,b1,b2,b3,b4,b5]) S =
  Z8 (zN (jl zi false 48 a S) (fun v0 S1=>okK v0 ( zN (wH zi BinOp.eql 64 (dem x6) (.int .i64 0) S1) (fun v2 S2=>gdK (dem v2) true (jl zi false 48 a) S2 (fun v4 S3=>gdK (dem v2) true ((jd zi O) 58 [(dem v4)]) S3 (fun v5 S4=>zN (wW (dem v2) v5 (Value.bool false) S4) (fun v6 S5=>okK v6 ( zN (wS zi 48 a (dem v0) S5) (fun v7 S6=>ckK (qV a S S4 && (true)) (some ([x0,x1,a,v6,b,x5,x6,x7,x8,x9,d,f,g,i,k,l,m,n,o,p,q,r,s,t,u,w,x,y,z,A,B,C,D,E,F,G,c,H,I,J,K,L,M,N,P,Q,R,U,V,W,X,Y,Z,a0,a1,a2,a3,a4,a5,a6,a7,a8,v0,dem x6,v2,dem v2,v4,v5,dem v6],S6)) ()) ()) ()) ()) ()) ()) ()) ()) ()):=by
 rw [yM jA.d12 jA.alS jA.k12 jA.g12]
 refine congrArg Z8 ?_
 refine uDC Try.f42 12 0 (pe:=a) (fun v0 S1=>?_)
 refine uP Try.f42 12 1 (v:=x6) (pe:=zh) ?_
 refine uD Try.f42 12 2 (pe:=zh) (fun v2 S2=>?_)
 refine uP Try.f42 12 3 (v:=v2) (pe:=zh) ?_
 refine uG Try.f42 12 4 (j:=3) (pe:=a) (fun v4 S3=>?_)
 refine uG Try.f42 12 5 (j:=3) (pe:=zh) (fun v5 S4=>?_)
 refine uDC Try.f42 12 6 (pe:=zh) (fun v6 S5=>?_)
 refine uD Try.f42 12 7 (pe:=zh) (fun v7 S6=>?_)
 refine uP Try.f42 12 8 (v:=v6) (pe:=zh) ?_
 kernel_rfl
theorem jA.rs:type_of% (alY @jA.r0 (alY @jA.r1 (alY @jA.r2 (alY @jA.r3 (alY @jA.r4 (alY @jA.r5 (alY @jA.r8 (alY @jA.r9 (alY @jA.r10 (alY @jA.r11 (alY @jA.r6 (alY @jA.r7 (@jA.r12))))))))))))):=alY @jA.r0 (alY @jA.r1 (alY @jA.r2 (alY @jA.r3 (alY @jA.r4 (alY @jA.r5 (alY @jA.r8 (alY @jA.r9 (alY @jA.r10 (alY @jA.r11 (alY @jA.r6 (alY @jA.r7 (@jA.r12))))))))))))
theorem jA.runs {x0:Value} {S S1:zx} {e:AEx} {T:List Value} (h:zL zi O false jA.code ([x0,zh,zh,zh,zh,zh,zh,zh,zh,zh,zh,zh,zh,zh,zh,zh,zh,zh,zh,zh,zh,zh,zh,zh,zh,zh,zh,zh,zh,zh,zh,zh,zh,zh,zh,zh,zh,zh,zh,zh,zh,zh,zh,zh,zh,zh,zh,zh,zh,zh,zh,zh,zh,zh,zh,zh,zh,zh,zh,zh,zh,zh,zh,zh,zh,zh,zh,zh,zh]) zx.empty=some (e,T,S1)) (he:e=.normal∨e=.ret) {w0:Value} (c0:jl zi false 48 (T.getD 2 zh) S1=some (w0,S1)) (h0:wE (w0)=true) (h1:wE (T.getD 3 zh)=true) (hca:[x0].all (jL 16)=true) (hcv:jL 16 (Value.tuple #[w0,T.getD 3 zh])=true):jd zi O 42 [x0] S=some (Value.tuple #[w0,T.getD 3 zh],S) :=
 yD rfl rfl Try.func42 (by decide) jA.body (by exact h) he ((qj ((show zQ zi T S1 Try.f42.results.toList=zQ zi T S1 [(ResultVar.cell 2 48),(ResultVar.tmp 3)] from by kernel_rfl).trans (by simp only [zQ,c0])) (by kernel_rfl) (by simp only [List.all_cons,List.all_nil,h0,h1,Bool.and_true])).trans rfl) hca hcv
end Go.Proofs.Ytfjogganfjkckaa
namespace Go.Proofs.Ytfjogganfjkckaa
open Go.Abs
abbrev zS.id:FuncId:=19
noncomputable def zS.code:Code:=(.seq (.region 0 (reg Try.f19 0) false) (.seq (.seq (.region 1 (reg Try.f19 1) false) (.cond (.tmp 12) (.seq (.region 2 (reg Try.f19 2) false) Code.ret) Code.skip)) (.seq (.region 3 (reg Try.f19 3) false) (.seq (.seq (.region 4 (reg Try.f19 4) false) (.cond (.tmp 32) (.seq (.region 5 (reg Try.f19 5) false) (.region 6 (reg Try.f19 6) false)) Code.skip)) (.seq (.seq (.region 7 (reg Try.f19 7) false) (.cond (.tmp 44) (.seq (.region 8 (reg Try.f19 8) false) (.region 9 (reg Try.f19 9) false)) Code.skip)) (.seq (.region 10 (reg Try.f19 10) false) Code.ret))))))
theorem zS.body:Try.f19.body=some zS.code:=by kernel_rfl
variable (x0 a x2 x3 x4 x5 x6 x7 x8 x9 b c d f g i j k l m n o p q r s t u v w x y z A B C D E F G H I J K L M N P Q R U V W X Y Z a0 a1 a2 a3 a4 a5:Value) (S:zx)
theorem zS.r0 :jF zi ⟨false,false,false⟩ (jd zi O) (reg Try.f19 0) (reg Try.f19 0).toList ([x0,a,x2,x3,x4,x5,x6,x7,x8,x9,b,c,d,f,g,i,j,k,l,m,n,o,p,q,r,s,t,u,v,w,x,y,z,A,B,C,D,E,F,G,H,I,J,K,L,M,N,P,Q,R,U,V,W,X,Y,Z,a0,a1,a2,a3,a4,a5]) S =
  (zN (JK (dem x0) S) (fun v0 S1=>some ([x0,v0,Value.slice none 0 0,.int .i64 0,x4,x5,x6,x7,x8,x9,b,c,d,f,g,i,j,k,l,m,n,o,p,q,r,s,t,u,v,w,x,y,z,A,B,C,D,E,F,G,H,I,J,K,L,M,N,P,Q,R,U,V,W,X,Y,Z,a0,a1,a2,a3,a4,a5],S1)) ()):=by
 kernel_rfl
theorem zS.r1 :jF zi ⟨false,false,false⟩ (jd zi O) (reg Try.f19 1) (reg Try.f19 1).toList ([x0,a,x2,x3,x4,x5,x6,x7,x8,x9,b,c,d,f,g,i,j,k,l,m,n,o,p,q,r,s,t,u,v,w,x,y,z,A,B,C,D,E,F,G,H,I,J,K,L,M,N,P,Q,R,U,V,W,X,Y,Z,a0,a1,a2,a3,a4,a5]) S =
  (zN (jl zi false 48 a S) (fun v0 S1=>zN ((jd zi O) 34 [(dem v0)] S1) (fun v1 S2=>zN (aUn zi UnOp.not v1 S2) (fun v2 S3=>some ([x0,a,x2,x3,x4,x5,x6,x7,x8,x9,v0,v1,v2,f,g,i,j,k,l,m,n,o,p,q,r,s,t,u,v,w,x,y,z,A,B,C,D,E,F,G,H,I,J,K,L,M,N,P,Q,R,U,V,W,X,Y,Z,a0,a1,a2,a3,a4,a5],S3)) ()) ()) ()):=by
 kernel_rfl
theorem zS.r2 :jF zi ⟨false,false,false⟩ (jd zi O) (reg Try.f19 2) (reg Try.f19 2).toList ([x0,a,x2,x3,x4,x5,x6,x7,x8,x9,b,c,d,f,g,i,j,k,l,m,n,o,p,q,r,s,t,u,v,w,x,y,z,A,B,C,D,E,F,G,H,I,J,K,L,M,N,P,Q,R,U,V,W,X,Y,Z,a0,a1,a2,a3,a4,a5]) S =
  ( some ([x0,a,Value.slice none 0 0,.int .i64 121,x4,x5,x6,x7,x8,x9,b,c,d,f,g,i,j,k,l,m,n,o,p,q,r,s,t,u,v,w,x,y,z,A,B,C,D,E,F,G,H,I,J,K,L,M,N,P,Q,R,U,V,W,X,Y,Z,a0,a1,a2,a3,a4,a5],S)):=by
 kernel_rfl
theorem zS.r3 :jF zi ⟨false,false,false⟩ (jd zi O) (reg Try.f19 3) (reg Try.f19 3).toList ([x0,a,x2,x3,x4,x5,x6,x7,x8,x9,b,c,d,f,g,i,j,k,l,m,n,o,p,q,r,s,t,u,v,w,x,y,z,A,B,C,D,E,F,G,H,I,J,K,L,M,N,P,Q,R,U,V,W,X,Y,Z,a0,a1,a2,a3,a4,a5]) S =
  (zN (zG zi 48 a 0 S) (fun v0 S1=>zN (jl zi false 3 v0 S1) (fun v1 S2=>zN (zG zi 48 a 1 S2) (fun v2 S3=>zN (jl zi false 3 v2 S3) (fun v3 S4=>zN (zG zi 48 a 2 S4) (fun v4 S5=>zN (jl zi false 3 v4 S5) (fun v5 S6=>zN (zG zi 48 a 3 S6) (fun v6 S7=>zN (jl zi false 3 v6 S7) (fun v7 S8=>zN (zG zi 48 a 4 S8) (fun v8 S9=>zN (jl zi false 3 v8 S9) (fun v9 b2=>zN (zG zi 48 a 5 b2) (fun a7 b3=>zN (jl zi false 3 a7 b3) (fun a8 b4=>zN (jU zi 24 6 [(0,v1),(1,v3),(2,v5),(3,v7),(4,v9),(5,a8)] b4) (fun a9 b5=>zN ((jd zi O) 35 [(dem a9)] b5) (fun a6 b6=>zN (zZ a6 0 b6) (fun b0 b7=>zN (zZ (zV 0 a6) 1 b7) (fun b1 b8=>some ([x0,a,x2,x3,b0,b1,x6,x7,x8,x9,b,c,d,zV 1 (zV 0 a6),v0,v1,v2,v3,v4,v5,v6,v7,v8,v9,a7,a8,a9,dem a6,dem b0,dem b1,x,y,z,A,B,C,D,E,F,G,H,I,J,K,L,M,N,P,Q,R,U,V,W,X,Y,Z,a0,a1,a2,a3,a4,a5],b8)) ()) ()) ()) ()) ()) ()) ()) ()) ()) ()) ()) ()) ()) ()) ()) ()):=by
 kernel_rfl
theorem zS.r4 :jF zi ⟨false,false,false⟩ (jd zi O) (reg Try.f19 4) (reg Try.f19 4).toList ([x0,a,x2,x3,x4,x5,x6,x7,x8,x9,b,c,d,f,g,i,j,k,l,m,n,o,p,q,r,s,t,u,v,w,x,y,z,A,B,C,D,E,F,G,H,I,J,K,L,M,N,P,Q,R,U,V,W,X,Y,Z,a0,a1,a2,a3,a4,a5]) S =
  (zN (zG zi 48 a 0 S) (fun v0 S1=>zN (jl zi false 3 v0 S1) (fun v1 S2=>zN (wH zi BinOp.eql 3 v1 (.int .i64 0) S2) (fun v2 S3=>some ([x0,a,x2,x3,x4,x5,x6,x7,x8,x9,b,c,d,f,g,i,j,k,l,m,n,o,p,q,r,s,t,u,v,w,v0,v1,v2,A,B,C,D,E,F,G,H,I,J,K,L,M,N,P,Q,R,U,V,W,X,Y,Z,a0,a1,a2,a3,a4,a5],S3)) ()) ()) ()):=by
 kernel_rfl
theorem zS.r5 :jF zi ⟨false,false,false⟩ (jd zi O) (reg Try.f19 5) (reg Try.f19 5).toList ([x0,a,x2,x3,x4,x5,x6,x7,x8,x9,b,c,d,f,g,i,j,k,l,m,n,o,p,q,r,s,t,u,v,w,x,y,z,A,B,C,D,E,F,G,H,I,J,K,L,M,N,P,Q,R,U,V,W,X,Y,Z,a0,a1,a2,a3,a4,a5]) S =
  (zN (zG zi 48 a 6 S) (fun v0 S1=>zN (jl zi false 43 v0 S1) (fun v1 S2=>zN ((jd zi O) 36 [(dem v1)] S2) (fun v2 S3=>zN (zZ v2 0 S3) (fun v4 S4=>zN (zZ (zV 0 v2) 1 S4) (fun v5 S5=>some ([x0,a,x2,x3,x4,x5,v4,v5,x8,x9,b,c,d,f,g,i,j,k,l,m,n,o,p,q,r,s,t,u,v,w,x,y,z,zV 1 (zV 0 v2),v0,v1,dem v2,dem v4,dem v5,G,H,I,J,K,L,M,N,P,Q,R,U,V,W,X,Y,Z,a0,a1,a2,a3,a4,a5],S5)) ()) ()) ()) ()) ()):=by
 kernel_rfl
theorem zS.r6 :jF zi ⟨false,false,false⟩ (jd zi O) (reg Try.f19 6) (reg Try.f19 6).toList ([x0,a,x2,x3,x4,x5,x6,x7,x8,x9,b,c,d,f,g,i,j,k,l,m,n,o,p,q,r,s,t,u,v,w,x,y,z,A,B,C,D,E,F,G,H,I,J,K,L,M,N,P,Q,R,U,V,W,X,Y,Z,a0,a1,a2,a3,a4,a5]) S =
  (zN (yB zi 33 33 x4 (dem x6) S) (fun v2 S1=>some ([x0,a,x2,x3,v2,x5,x6,x7,x8,x9,b,c,d,f,g,i,j,k,l,m,n,o,p,q,r,s,t,u,v,w,x,y,z,A,B,C,D,E,F,dem x4,dem x6,dem v2,J,K,L,M,N,P,Q,R,U,V,W,X,Y,Z,a0,a1,a2,a3,a4,a5],S1)) ()):=by
 kernel_rfl
theorem zS.r7 :jF zi ⟨false,false,false⟩ (jd zi O) (reg Try.f19 7) (reg Try.f19 7).toList ([x0,a,x2,x3,x4,x5,x6,x7,x8,x9,b,c,d,f,g,i,j,k,l,m,n,o,p,q,r,s,t,u,v,w,x,y,z,A,B,C,D,E,F,G,H,I,J,K,L,M,N,P,Q,R,U,V,W,X,Y,Z,a0,a1,a2,a3,a4,a5]) S =
  (zN (zG zi 48 a 0 S) (fun v0 S1=>zN (jl zi false 3 v0 S1) (fun v1 S2=>zN (wH zi BinOp.eql 3 v1 (.int .i64 1) S2) (fun v2 S3=>some ([x0,a,x2,x3,x4,x5,x6,x7,x8,x9,b,c,d,f,g,i,j,k,l,m,n,o,p,q,r,s,t,u,v,w,x,y,z,A,B,C,D,E,F,G,H,I,v0,v1,v2,M,N,P,Q,R,U,V,W,X,Y,Z,a0,a1,a2,a3,a4,a5],S3)) ()) ()) ()):=by
 kernel_rfl
theorem zS.r8 :jF zi ⟨false,false,false⟩ (jd zi O) (reg Try.f19 8) (reg Try.f19 8).toList ([x0,a,x2,x3,x4,x5,x6,x7,x8,x9,b,c,d,f,g,i,j,k,l,m,n,o,p,q,r,s,t,u,v,w,x,y,z,A,B,C,D,E,F,G,H,I,J,K,L,M,N,P,Q,R,U,V,W,X,Y,Z,a0,a1,a2,a3,a4,a5]) S =
  (zN (zG zi 48 a 7 S) (fun v0 S1=>zN (jl zi false 46 v0 S1) (fun v1 S2=>zN ((jd zi O) 37 [(dem v1)] S2) (fun v2 S3=>zN (zZ v2 0 S3) (fun v4 S4=>zN (zZ (zV 0 v2) 1 S4) (fun v5 S5=>some ([x0,a,x2,x3,x4,x5,x6,x7,v4,v5,b,c,d,f,g,i,j,k,l,m,n,o,p,q,r,s,t,u,v,w,x,y,z,A,B,C,D,E,F,G,H,I,J,K,L,zV 1 (zV 0 v2),v0,v1,dem v2,dem v4,dem v5,V,W,X,Y,Z,a0,a1,a2,a3,a4,a5],S5)) ()) ()) ()) ()) ()):=by
 kernel_rfl
theorem zS.r9 :jF zi ⟨false,false,false⟩ (jd zi O) (reg Try.f19 9) (reg Try.f19 9).toList ([x0,a,x2,x3,x4,x5,x6,x7,x8,x9,b,c,d,f,g,i,j,k,l,m,n,o,p,q,r,s,t,u,v,w,x,y,z,A,B,C,D,E,F,G,H,I,J,K,L,M,N,P,Q,R,U,V,W,X,Y,Z,a0,a1,a2,a3,a4,a5]) S =
  (zN (yB zi 33 33 x4 (dem x8) S) (fun v2 S1=>some ([x0,a,x2,x3,v2,x5,x6,x7,x8,x9,b,c,d,f,g,i,j,k,l,m,n,o,p,q,r,s,t,u,v,w,x,y,z,A,B,C,D,E,F,G,H,I,J,K,L,M,N,P,Q,R,U,dem x4,dem x8,dem v2,Y,Z,a0,a1,a2,a3,a4,a5],S1)) ()):=by
 kernel_rfl
theorem zS.r10 :jF zi ⟨false,false,false⟩ (jd zi O) (reg Try.f19 10) (reg Try.f19 10).toList ([x0,a,x2,x3,x4,x5,x6,x7,x8,x9,b,c,d,f,g,i,j,k,l,m,n,o,p,q,r,s,t,u,v,w,x,y,z,A,B,C,D,E,F,G,H,I,J,K,L,M,N,P,Q,R,U,V,W,X,Y,Z,a0,a1,a2,a3,a4,a5]) S =
  (zN (zG zi 48 a 1 S) (fun v0 S1=>zN (jl zi false 3 v0 S1) (fun v1 S2=>zN ((jd zi O) 40 [(dem v1)] S2) (fun v2 S3=>zN ((jd zi O) 39 [(dem v2),(dem (dem x4))] S3) (fun v4 S4=>zN ((jd zi O) 38 [(dem v4)] S4) (fun v5 S5=>zN (yB zi 33 33 v5 (dem x4) S5) (fun v7 S6=>some ([x0,a,v7,.int .i64 0,x4,x5,x6,x7,x8,x9,b,c,d,f,g,i,j,k,l,m,n,o,p,q,r,s,t,u,v,w,x,y,z,A,B,C,D,E,F,G,H,I,J,K,L,M,N,P,Q,R,U,V,W,X,v0,v1,v2,dem x4,v4,dem v5,dem x4,dem v7],S6)) ()) ()) ()) ()) ()) ()):=by
 kernel_rfl
theorem zS.rs:type_of% (alY @zS.r0 (alY @zS.r1 (alY @zS.r2 (alY @zS.r3 (alY @zS.r4 (alY @zS.r5 (alY @zS.r6 (alY @zS.r7 (alY @zS.r8 (alY @zS.r9 (@zS.r10))))))))))):=alY @zS.r0 (alY @zS.r1 (alY @zS.r2 (alY @zS.r3 (alY @zS.r4 (alY @zS.r5 (alY @zS.r6 (alY @zS.r7 (alY @zS.r8 (alY @zS.r9 (@zS.r10))))))))))
theorem zS.runs {x0:Value} {S S1:zx} {e:AEx} {T:List Value} (h:zL zi O false zS.code ([x0,zh,zh,zh,zh,zh,zh,zh,zh,zh,zh,zh,zh,zh,zh,zh,zh,zh,zh,zh,zh,zh,zh,zh,zh,zh,zh,zh,zh,zh,zh,zh,zh,zh,zh,zh,zh,zh,zh,zh,zh,zh,zh,zh,zh,zh,zh,zh,zh,zh,zh,zh,zh,zh,zh,zh,zh,zh,zh,zh,zh,zh]) zx.empty=some (e,T,S1)) (he:e=.normal∨e=.ret)  (h0:wE (T.getD 2 zh)=true) (h1:wE (T.getD 3 zh)=true) (hca:[x0].all (jL 16)=true) (hcv:jL 16 (Value.tuple #[T.getD 2 zh,T.getD 3 zh])=true):jd zi O 19 [x0] S=some (Value.tuple #[T.getD 2 zh,T.getD 3 zh],S) :=
 yD rfl rfl Try.func19 (by decide) zS.body (by exact h) he ((qj ((show zQ zi T S1 Try.f19.results.toList=zQ zi T S1 [(ResultVar.tmp 2),(ResultVar.tmp 3)] from by kernel_rfl).trans (by simp only [zQ])) (by kernel_rfl) (by simp only [List.all_cons,List.all_nil,h0,h1,Bool.and_true])).trans rfl) hca hcv
end Go.Proofs.Ytfjogganfjkckaa
namespace Go.Proofs.Ytfjogganfjkckaa
open Go.Abs
abbrev jH.id:FuncId:=58
noncomputable def jH.code:Code:=(.seq (.region 0 (reg Try.f58 0) false) (.seq (.seq (.region 1 (reg Try.f58 1) true) (.cond (.tmp 27) (.seq (.region 2 (reg Try.f58 2) false) Code.ret) Code.skip)) (.seq (.seq (.region 3 (reg Try.f58 3) false) (.block 0 (.seq (.region 4 (reg Try.f58 4) false) (.cond (.tmp 30) (.seq (.region 5 (reg Try.f58 5) false) Code.ret) (.seq (.region 6 (reg Try.f58 6) false) (.cond (.tmp 35) (.seq (.region 7 (reg Try.f58 7) false) Code.ret) (.seq (.region 8 (reg Try.f58 8) false) (.cond (.tmp 40) (.seq (.region 9 (reg Try.f58 9) false) (.cond (.tmp 51) (.seq (.region 10 (reg Try.f58 10) false) Code.ret) Code.skip)) Code.skip)))))))) (.seq (.region 11 (reg Try.f58 11) false) Code.ret))))
theorem jH.body:Try.f58.body=some jH.code:=by kernel_rfl
variable (x0 b x2 x3 x4 x5 x6 x7 x8 x9 d f g i k l m n o p q r s t u w x y z c A B C D E F G H I J K L M N P Q R U V W X Y Z a0 a1 a2 a3 a4 a5 a6 a7 a8 a9 b0 b1 b2 b3 b4 b5 b6 b7 b8 b9 c0:Value) (S:zx)
theorem jH.r0 :jF zi ⟨false,false,false⟩ (jd zi O) (reg Try.f58 0) (reg Try.f58 0).toList ([x0,b,x2,x3,x4,x5,x6,x7,x8,x9,d,f,g,i,k,l,m,n,o,p,q,r,s,t,u,w,x,y,z,c,A,B,C,D,E,F,G,H,I,J,K,L,M,N,P,Q,R,U,V,W,X,Y,Z,a0,a1,a2,a3,a4,a5,a6,a7,a8,a9,b0,b1,b2,b3,b4,b5,b6,b7,b8,b9,c0]) S =
  (zN (JK (dem x0) S) (fun v0 S1=>some ([x0,v0,Value.bool false,x3,x4,x5,x6,x7,x8,x9,d,f,g,i,k,l,m,n,o,p,q,r,s,t,u,w,x,y,z,c,A,B,C,D,E,F,G,H,I,J,K,L,M,N,P,Q,R,U,V,W,X,Y,Z,a0,a1,a2,a3,a4,a5,a6,a7,a8,a9,b0,b1,b2,b3,b4,b5,b6,b7,b8,b9,c0],S1)) ()):=by
 kernel_rfl
theorem jH.d1:kC zi (reg Try.f58 1)=true:=by kernel_rfl
theorem jH.ff1:fixed zi (reg Try.f58 1)=false:=by kernel_rfl
theorem jH.k1:checked zi (reg Try.f58 1)=[19]:=by kernel_rfl
theorem jH.g1:again zi (reg Try.f58 1)=[(19,21)]:=by kernel_rfl
theorem jH.r1 :zL zi O false (.region 1 (reg Try.f58 1) true) ([x0,b,x2,x3,x4,x5,x6,x7,x8,x9,d,f,g,i,k,l,m,n,o,p,q,r,s,t,u,w,x,y,z,c,A,B,C,D,E,F,G,H,I,J,K,L,M,N,P,Q,R,U,V,W,X,Y,Z,a0,a1,a2,a3,a4,a5,a6,a7,a8,a9,b0,b1,b2,b3,b4,b5,b6,b7,b8,b9,c0]) S =
  Z8 (zN (zG zi 48 b 0 S) (fun v0 S1=>zN (jl zi false 3 v0 S1) (fun v1 S2=>zN (wH zi BinOp.lss 3 v1 (.int .i64 0) S2) (fun v2 S3=>gdK (dem v2) false (zG zi 48 b 0) S3 (fun v4 S4=>gdK (dem v2) false (jl zi false 3 v4) S4 (fun v5 S5=>gdK (dem v2) false (wH zi BinOp.gtr 3 v5 (.int .i64 6)) S5 (fun v6 S6=>zN (wW (dem v2) (Value.bool true) v6 S6) (fun v7 S7=>gdK (dem v7) false (zG zi 48 b 1) S7 (fun v9 S8=>gdK (dem v7) false (jl zi false 3 v9) S8 (fun c5 S9=>gdK (dem v7) false (wH zi BinOp.lss 3 c5 (.int .i64 0)) S9 (fun c6 d4=>zN (wW (dem v7) (Value.bool true) c6 d4) (fun c2 d5=>gdK (dem c2) false (zG zi 48 b 1) d5 (fun c3 d6=>gdK (dem c2) false (jl zi false 3 c3) d6 (fun c7 d7=>gdK (dem c2) false (wH zi BinOp.geq 3 c7 (.int .i64 7)) d7 (fun c8 d8=>zN (wW (dem c2) (Value.bool true) c8 d8) (fun c1 d2=>ain (dem c1) false (jl zi false 48 b) d2 (fun c9 d9=>gdK (dem c1) false (jl zi false 48 b) d9 (fun d0 f0=>gdK (dem c1) false ((jd zi O) 67 [(dem d0)]) f0 (fun c4 d3=>gdK (dem c1) false ((jd zi O) 66 [(dem c9),(dem c4)]) d3 (fun f1 f3=>gdK (dem c1) false (aUn zi UnOp.not f1) f3 (fun f2 f4=>zN (wW (dem c1) (Value.bool true) f2 f4) (fun f5 f6=>ckK (qV b d2 d3 && (true)) (some ([x0,b,x2,v0,v1,v2,dem v2,v4,v5,v6,v7,dem v7,v9,c5,c6,c2,dem c2,c3,c7,c8,c1,dem c1,c9,d0,c4,f1,f2,f5,z,c,A,B,C,D,E,F,G,H,I,J,K,L,M,N,P,Q,R,U,V,W,X,Y,Z,a0,a1,a2,a3,a4,a5,a6,a7,a8,a9,b0,b1,b2,b3,b4,b5,b6,b7,b8,b9,c0],f6)) ()) ()) ()) ()) ()) ()) ()) ()) ()) ()) ()) ()) ()) ()) ()) ()) ()) ()) ()) ()) ()) ()):=by
 rw [yM jH.d1 jH.ff1 jH.k1 jH.g1]
 refine congrArg Z8 ?_
 refine uD Try.f58 1 0 (pe:=zh) (fun v0 S1=>?_)
 refine uD Try.f58 1 1 (pe:=v0) (fun v1 S2=>?_)
 refine uD Try.f58 1 2 (pe:=zh) (fun v2 S3=>?_)
 refine uP Try.f58 1 3 (v:=v2) (pe:=zh) ?_
 refine uG Try.f58 1 4 (j:=3) (pe:=zh) (fun v4 S4=>?_)
 refine uG Try.f58 1 5 (j:=3) (pe:=v4) (fun v5 S5=>?_)
 refine uG Try.f58 1 6 (j:=3) (pe:=zh) (fun v6 S6=>?_)
 refine uD Try.f58 1 7 (pe:=zh) (fun v7 S7=>?_)
 refine uP Try.f58 1 8 (v:=v7) (pe:=zh) ?_
 refine uG Try.f58 1 9 (j:=8) (pe:=zh) (fun v9 S8=>?_)
 refine uG Try.f58 1 10 (j:=8) (pe:=v9) (fun c5 S9=>?_)
 refine uG Try.f58 1 11 (j:=8) (pe:=zh) (fun c6 d4=>?_)
 refine uD Try.f58 1 12 (pe:=zh) (fun c2 d5=>?_)
 refine uP Try.f58 1 13 (v:=c2) (pe:=zh) ?_
 refine uG Try.f58 1 14 (j:=13) (pe:=zh) (fun c3 d6=>?_)
 refine uG Try.f58 1 15 (j:=13) (pe:=c3) (fun c7 d7=>?_)
 refine uG Try.f58 1 16 (j:=13) (pe:=zh) (fun c8 d8=>?_)
 refine uD Try.f58 1 17 (pe:=zh) (fun c1 d2=>?_)
 refine uP Try.f58 1 18 (v:=c1) (pe:=zh) ?_
 refine uGC Try.f58 1 19 (j:=18) (pe:=b) (fun c9 d9=>?_)
 refine uG Try.f58 1 20 (j:=18) (pe:=b) (fun d0 f0=>?_)
 refine uG Try.f58 1 21 (j:=18) (pe:=zh) (fun c4 d3=>?_)
 refine uG Try.f58 1 22 (j:=18) (pe:=zh) (fun f1 f3=>?_)
 refine uG Try.f58 1 23 (j:=18) (pe:=zh) (fun f2 f4=>?_)
 refine uD Try.f58 1 24 (pe:=zh) (fun f5 f6=>?_)
 kernel_rfl
theorem jH.r2 :jF zi ⟨false,false,false⟩ (jd zi O) (reg Try.f58 2) (reg Try.f58 2).toList ([x0,b,x2,x3,x4,x5,x6,x7,x8,x9,d,f,g,i,k,l,m,n,o,p,q,r,s,t,u,w,x,y,z,c,A,B,C,D,E,F,G,H,I,J,K,L,M,N,P,Q,R,U,V,W,X,Y,Z,a0,a1,a2,a3,a4,a5,a6,a7,a8,a9,b0,b1,b2,b3,b4,b5,b6,b7,b8,b9,c0]) S =
  ( some ([x0,b,Value.bool false,x3,x4,x5,x6,x7,x8,x9,d,f,g,i,k,l,m,n,o,p,q,r,s,t,u,w,x,y,z,c,A,B,C,D,E,F,G,H,I,J,K,L,M,N,P,Q,R,U,V,W,X,Y,Z,a0,a1,a2,a3,a4,a5,a6,a7,a8,a9,b0,b1,b2,b3,b4,b5,b6,b7,b8,b9,c0],S)):=by
 kernel_rfl
theorem jH.r3 :jF zi ⟨false,false,false⟩ (jd zi O) (reg Try.f58 3) (reg Try.f58 3).toList ([x0,b,x2,x3,x4,x5,x6,x7,x8,x9,d,f,g,i,k,l,m,n,o,p,q,r,s,t,u,w,x,y,z,c,A,B,C,D,E,F,G,H,I,J,K,L,M,N,P,Q,R,U,V,W,X,Y,Z,a0,a1,a2,a3,a4,a5,a6,a7,a8,a9,b0,b1,b2,b3,b4,b5,b6,b7,b8,b9,c0]) S =
  (zN (zG zi 48 b 0 S) (fun v0 S1=>zN (jl zi false 3 v0 S1) (fun v1 S2=>some ([x0,b,x2,x3,x4,x5,x6,x7,x8,x9,d,f,g,i,k,l,m,n,o,p,q,r,s,t,u,w,x,y,v0,v1,A,B,C,D,E,F,G,H,I,J,K,L,M,N,P,Q,R,U,V,W,X,Y,Z,a0,a1,a2,a3,a4,a5,a6,a7,a8,a9,b0,b1,b2,b3,b4,b5,b6,b7,b8,b9,c0],S2)) ()) ()):=by
 kernel_rfl
theorem jH.r4 :jF zi ⟨false,false,false⟩ (jd zi O) (reg Try.f58 4) (reg Try.f58 4).toList ([x0,b,x2,x3,x4,x5,x6,x7,x8,x9,d,f,g,i,k,l,m,n,o,p,q,r,s,t,u,w,x,y,z,c,A,B,C,D,E,F,G,H,I,J,K,L,M,N,P,Q,R,U,V,W,X,Y,Z,a0,a1,a2,a3,a4,a5,a6,a7,a8,a9,b0,b1,b2,b3,b4,b5,b6,b7,b8,b9,c0]) S =
  (zN (wH zi BinOp.eql 3 c (.int .i64 0) S) (fun v0 S1=>some ([x0,b,x2,x3,x4,x5,x6,x7,x8,x9,d,f,g,i,k,l,m,n,o,p,q,r,s,t,u,w,x,y,z,c,v0,dem v0,C,D,E,F,G,H,I,J,K,L,M,N,P,Q,R,U,V,W,X,Y,Z,a0,a1,a2,a3,a4,a5,a6,a7,a8,a9,b0,b1,b2,b3,b4,b5,b6,b7,b8,b9,c0],S1)) ()):=by
 kernel_rfl
theorem jH.r5 :jF zi ⟨false,false,false⟩ (jd zi O) (reg Try.f58 5) (reg Try.f58 5).toList ([x0,b,x2,x3,x4,x5,x6,x7,x8,x9,d,f,g,i,k,l,m,n,o,p,q,r,s,t,u,w,x,y,z,c,A,B,C,D,E,F,G,H,I,J,K,L,M,N,P,Q,R,U,V,W,X,Y,Z,a0,a1,a2,a3,a4,a5,a6,a7,a8,a9,b0,b1,b2,b3,b4,b5,b6,b7,b8,b9,c0]) S =
  (zN (zG zi 48 b 6 S) (fun v0 S1=>zN (jl zi false 43 v0 S1) (fun v1 S2=>zN ((jd zi O) 68 [(dem v1)] S2) (fun v2 S3=>some ([x0,b,v2,x3,x4,x5,x6,x7,x8,x9,d,f,g,i,k,l,m,n,o,p,q,r,s,t,u,w,x,y,z,c,A,B,v0,v1,dem v2,F,G,H,I,J,K,L,M,N,P,Q,R,U,V,W,X,Y,Z,a0,a1,a2,a3,a4,a5,a6,a7,a8,a9,b0,b1,b2,b3,b4,b5,b6,b7,b8,b9,c0],S3)) ()) ()) ()):=by
 kernel_rfl
theorem jH.r6 :jF zi ⟨false,false,false⟩ (jd zi O) (reg Try.f58 6) (reg Try.f58 6).toList ([x0,b,x2,x3,x4,x5,x6,x7,x8,x9,d,f,g,i,k,l,m,n,o,p,q,r,s,t,u,w,x,y,z,c,A,B,C,D,E,F,G,H,I,J,K,L,M,N,P,Q,R,U,V,W,X,Y,Z,a0,a1,a2,a3,a4,a5,a6,a7,a8,a9,b0,b1,b2,b3,b4,b5,b6,b7,b8,b9,c0]) S =
  (zN (wH zi BinOp.eql 3 c (.int .i64 1) S) (fun v0 S1=>some ([x0,b,x2,x3,x4,x5,x6,x7,x8,x9,d,f,g,i,k,l,m,n,o,p,q,r,s,t,u,w,x,y,z,c,A,B,C,D,E,v0,dem v0,H,I,J,K,L,M,N,P,Q,R,U,V,W,X,Y,Z,a0,a1,a2,a3,a4,a5,a6,a7,a8,a9,b0,b1,b2,b3,b4,b5,b6,b7,b8,b9,c0],S1)) ()):=by
 kernel_rfl
theorem jH.r7 :jF zi ⟨false,false,false⟩ (jd zi O) (reg Try.f58 7) (reg Try.f58 7).toList ([x0,b,x2,x3,x4,x5,x6,x7,x8,x9,d,f,g,i,k,l,m,n,o,p,q,r,s,t,u,w,x,y,z,c,A,B,C,D,E,F,G,H,I,J,K,L,M,N,P,Q,R,U,V,W,X,Y,Z,a0,a1,a2,a3,a4,a5,a6,a7,a8,a9,b0,b1,b2,b3,b4,b5,b6,b7,b8,b9,c0]) S =
  (zN (zG zi 48 b 7 S) (fun v0 S1=>zN (jl zi false 46 v0 S1) (fun v1 S2=>zN ((jd zi O) 45 [(dem v1)] S2) (fun v2 S3=>some ([x0,b,v2,x3,x4,x5,x6,x7,x8,x9,d,f,g,i,k,l,m,n,o,p,q,r,s,t,u,w,x,y,z,c,A,B,C,D,E,F,G,v0,v1,dem v2,K,L,M,N,P,Q,R,U,V,W,X,Y,Z,a0,a1,a2,a3,a4,a5,a6,a7,a8,a9,b0,b1,b2,b3,b4,b5,b6,b7,b8,b9,c0],S3)) ()) ()) ()):=by
 kernel_rfl
theorem jH.r8 :jF zi ⟨false,false,false⟩ (jd zi O) (reg Try.f58 8) (reg Try.f58 8).toList ([x0,b,x2,x3,x4,x5,x6,x7,x8,x9,d,f,g,i,k,l,m,n,o,p,q,r,s,t,u,w,x,y,z,c,A,B,C,D,E,F,G,H,I,J,K,L,M,N,P,Q,R,U,V,W,X,Y,Z,a0,a1,a2,a3,a4,a5,a6,a7,a8,a9,b0,b1,b2,b3,b4,b5,b6,b7,b8,b9,c0]) S =
  (zN (wH zi BinOp.eql 3 c (.int .i64 3) S) (fun v0 S1=>some ([x0,b,x2,x3,x4,x5,x6,x7,x8,x9,d,f,g,i,k,l,m,n,o,p,q,r,s,t,u,w,x,y,z,c,A,B,C,D,E,F,G,H,I,J,v0,dem v0,M,N,P,Q,R,U,V,W,X,Y,Z,a0,a1,a2,a3,a4,a5,a6,a7,a8,a9,b0,b1,b2,b3,b4,b5,b6,b7,b8,b9,c0],S1)) ()):=by
 kernel_rfl
theorem jH.r9 :jF zi ⟨false,false,false⟩ (jd zi O) (reg Try.f58 9) (reg Try.f58 9).toList ([x0,b,x2,x3,x4,x5,x6,x7,x8,x9,d,f,g,i,k,l,m,n,o,p,q,r,s,t,u,w,x,y,z,c,A,B,C,D,E,F,G,H,I,J,K,L,M,N,P,Q,R,U,V,W,X,Y,Z,a0,a1,a2,a3,a4,a5,a6,a7,a8,a9,b0,b1,b2,b3,b4,b5,b6,b7,b8,b9,c0]) S =
  (zN (zG zi 48 b 5 S) (fun v0 S1=>zN (jl zi false 3 v0 S1) (fun v1 S2=>zN (wH zi BinOp.lss 3 v1 (.int .i64 (-1)) S2) (fun v2 S3=>gdK (dem v2) false (zG zi 48 b 5) S3 (fun v4 S4=>gdK (dem v2) false (jl zi false 3 v4) S4 (fun v5 S5=>gdK (dem v2) false (zG zi 48 b 3) S5 (fun v6 S6=>gdK (dem v2) false (jl zi false 3 v6) S6 (fun v7 S7=>gdK (dem v2) false (wH zi BinOp.geq 3 v5 v7) S7 (fun v8 S8=>zN (wW (dem v2) (Value.bool true) v8 S8) (fun v9 S9=>some ([x0,b,x2,x3,x4,x5,x6,x7,x8,x9,d,f,g,i,k,l,m,n,o,p,q,r,s,t,u,w,x,y,z,c,A,B,C,D,E,F,G,H,I,J,K,L,v0,v1,v2,dem v2,v4,v5,v6,v7,v8,v9,Z,a0,a1,a2,a3,a4,a5,a6,a7,a8,a9,b0,b1,b2,b3,b4,b5,b6,b7,b8,b9,c0],S9)) ()) ()) ()) ()) ()) ()) ()) ()) ()):=by
 refine sD Try.f58 9 0 (fun v0 S1=>?_)
 refine sD Try.f58 9 1 (fun v1 S2=>?_)
 refine sD Try.f58 9 2 (fun v2 S3=>?_)
 refine sP Try.f58 9 3 (v:=v2) ?_
 refine sG Try.f58 9 4 (j:=3) (fun v4 S4=>?_)
 refine sG Try.f58 9 5 (j:=3) (fun v5 S5=>?_)
 refine sG Try.f58 9 6 (j:=3) (fun v6 S6=>?_)
 refine sG Try.f58 9 7 (j:=3) (fun v7 S7=>?_)
 refine sG Try.f58 9 8 (j:=3) (fun v8 S8=>?_)
 refine sD Try.f58 9 9 (fun v9 S9=>?_)
 kernel_rfl
theorem jH.r10 :jF zi ⟨false,false,false⟩ (jd zi O) (reg Try.f58 10) (reg Try.f58 10).toList ([x0,b,x2,x3,x4,x5,x6,x7,x8,x9,d,f,g,i,k,l,m,n,o,p,q,r,s,t,u,w,x,y,z,c,A,B,C,D,E,F,G,H,I,J,K,L,M,N,P,Q,R,U,V,W,X,Y,Z,a0,a1,a2,a3,a4,a5,a6,a7,a8,a9,b0,b1,b2,b3,b4,b5,b6,b7,b8,b9,c0]) S =
  ( some ([x0,b,Value.bool false,x3,x4,x5,x6,x7,x8,x9,d,f,g,i,k,l,m,n,o,p,q,r,s,t,u,w,x,y,z,c,A,B,C,D,E,F,G,H,I,J,K,L,M,N,P,Q,R,U,V,W,X,Y,Z,a0,a1,a2,a3,a4,a5,a6,a7,a8,a9,b0,b1,b2,b3,b4,b5,b6,b7,b8,b9,c0],S)):=by
 kernel_rfl
theorem jH.r11 :jF zi ⟨false,false,false⟩ (jd zi O) (reg Try.f58 11) (reg Try.f58 11).toList ([x0,b,x2,x3,x4,x5,x6,x7,x8,x9,d,f,g,i,k,l,m,n,o,p,q,r,s,t,u,w,x,y,z,c,A,B,C,D,E,F,G,H,I,J,K,L,M,N,P,Q,R,U,V,W,X,Y,Z,a0,a1,a2,a3,a4,a5,a6,a7,a8,a9,b0,b1,b2,b3,b4,b5,b6,b7,b8,b9,c0]) S =
  (zN (zG zi 48 b 2 S) (fun v0 S1=>zN (jl zi false 3 v0 S1) (fun v1 S2=>zN (wH zi BinOp.geq 3 v1 (.int .i64 0) S2) (fun v2 S3=>gdK (dem v2) true (zG zi 48 b 2) S3 (fun v4 S4=>gdK (dem v2) true (jl zi false 3 v4) S4 (fun v5 S5=>gdK (dem v2) true (wH zi BinOp.leq 3 v5 (.int .i64 1000)) S5 (fun v6 S6=>zN (wW (dem v2) v6 (Value.bool false) S6) (fun v7 S7=>gdK (dem v7) true (zG zi 48 b 3) S7 (fun v9 S8=>gdK (dem v7) true (jl zi false 3 v9) S8 (fun c5 S9=>gdK (dem v7) true (wH zi BinOp.geq 3 c5 (.int .i64 0)) S9 (fun c6 d4=>zN (wW (dem v7) c6 (Value.bool false) d4) (fun c2 d5=>gdK (dem c2) true (zG zi 48 b 3) d5 (fun c3 d6=>gdK (dem c2) true (jl zi false 3 c3) d6 (fun c7 d7=>gdK (dem c2) true (wH zi BinOp.leq 3 c7 (.int .i64 1000)) d7 (fun c8 d8=>zN (wW (dem c2) c8 (Value.bool false) d8) (fun c1 d2=>gdK (dem c1) true (jl zi false 48 b) d2 (fun c9 d9=>gdK (dem c1) true ((jd zi O) 69 [(dem c9)]) d9 (fun d0 f0=>zN (wW (dem c1) d0 (Value.bool false) f0) (fun c4 d3=>some ([x0,b,c4,x3,x4,x5,x6,x7,x8,x9,d,f,g,i,k,l,m,n,o,p,q,r,s,t,u,w,x,y,z,c,A,B,C,D,E,F,G,H,I,J,K,L,M,N,P,Q,R,U,V,W,X,Y,v0,v1,v2,dem v2,v4,v5,v6,v7,dem v7,v9,c5,c6,c2,dem c2,c3,c7,c8,c1,dem c1,c9,d0,dem c4],d3)) ()) ()) ()) ()) ()) ()) ()) ()) ()) ()) ()) ()) ()) ()) ()) ()) ()) ()):=by
 refine sD Try.f58 11 0 (fun v0 S1=>?_)
 refine sD Try.f58 11 1 (fun v1 S2=>?_)
 refine sD Try.f58 11 2 (fun v2 S3=>?_)
 refine sP Try.f58 11 3 (v:=v2) ?_
 refine sG Try.f58 11 4 (j:=3) (fun v4 S4=>?_)
 refine sG Try.f58 11 5 (j:=3) (fun v5 S5=>?_)
 refine sG Try.f58 11 6 (j:=3) (fun v6 S6=>?_)
 refine sD Try.f58 11 7 (fun v7 S7=>?_)
 refine sP Try.f58 11 8 (v:=v7) ?_
 refine sG Try.f58 11 9 (j:=8) (fun v9 S8=>?_)
 refine sG Try.f58 11 10 (j:=8) (fun c5 S9=>?_)
 refine sG Try.f58 11 11 (j:=8) (fun c6 d4=>?_)
 refine sD Try.f58 11 12 (fun c2 d5=>?_)
 refine sP Try.f58 11 13 (v:=c2) ?_
 refine sG Try.f58 11 14 (j:=13) (fun c3 d6=>?_)
 refine sG Try.f58 11 15 (j:=13) (fun c7 d7=>?_)
 refine sG Try.f58 11 16 (j:=13) (fun c8 d8=>?_)
 refine sD Try.f58 11 17 (fun c1 d2=>?_)
 refine sP Try.f58 11 18 (v:=c1) ?_
 refine sG Try.f58 11 19 (j:=18) (fun c9 d9=>?_)
 refine sG Try.f58 11 20 (j:=18) (fun d0 f0=>?_)
 refine sD Try.f58 11 21 (fun c4 d3=>?_)
 refine sP Try.f58 11 22 (v:=c4) ?_
 kernel_rfl
theorem jH.rs:type_of% (alY @jH.r0 (alY @jH.r1 (alY @jH.r2 (alY @jH.r3 (alY @jH.r4 (alY @jH.r5 (alY @jH.r6 (alY @jH.r7 (alY @jH.r8 (alY @jH.r9 (alY @jH.r10 (@jH.r11)))))))))))):=alY @jH.r0 (alY @jH.r1 (alY @jH.r2 (alY @jH.r3 (alY @jH.r4 (alY @jH.r5 (alY @jH.r6 (alY @jH.r7 (alY @jH.r8 (alY @jH.r9 (alY @jH.r10 (@jH.r11)))))))))))
theorem jH.runs {x0:Value} {S S1:zx} {e:AEx} {T:List Value} (h:zL zi O false jH.code ([x0,zh,zh,zh,zh,zh,zh,zh,zh,zh,zh,zh,zh,zh,zh,zh,zh,zh,zh,zh,zh,zh,zh,zh,zh,zh,zh,zh,zh,zh,zh,zh,zh,zh,zh,zh,zh,zh,zh,zh,zh,zh,zh,zh,zh,zh,zh,zh,zh,zh,zh,zh,zh,zh,zh,zh,zh,zh,zh,zh,zh,zh,zh,zh,zh,zh,zh,zh,zh,zh,zh,zh,zh,zh]) zx.empty=some (e,T,S1)) (he:e=.normal∨e=.ret) (hca:[x0].all (jL 16)=true) (hcv:jL 16 (T.getD 2 zh)=true):jd zi O 58 [x0] S=some (T.getD 2 zh,S) :=
 yD rfl rfl Try.func58 (by decide) jH.body (by exact h) he (yG (a:=T.getD 2 zh) ((show zQ zi T S1 Try.f58.results.toList=zQ zi T S1 [(ResultVar.tmp 2)] from by kernel_rfl).trans (by simp only [zQ])) (by kernel_rfl)) hca hcv
end Go.Proofs.Ytfjogganfjkckaa
namespace Go.Proofs.Ytfjogganfjkckaa
open Go.Abs
abbrev zu.id:FuncId:=34
noncomputable def zu.code:Code:=(.seq (.region 0 (reg Try.f34 0) false) (.seq (.seq (.region 1 (reg Try.f34 1) false) (.cond (.tmp 12) (.seq (.region 2 (reg Try.f34 2) false) Code.ret) Code.skip)) (.seq (.seq (.region 3 (reg Try.f34 3) false) (.cond (.tmp 42) (.seq (.region 4 (reg Try.f34 4) false) Code.ret) Code.skip)) (.seq (.region 5 (reg Try.f34 5) false) (.seq (.region 6 (reg Try.f34 6) false) (.seq (.seq (.region 7 (reg Try.f34 7) false) (.block 0 (.seq (.region 8 (reg Try.f34 8) false) (.cond (.tmp 61) (.seq (.region 9 (reg Try.f34 9) false) Code.ret) (.seq (.region 10 (reg Try.f34 10) false) (.cond (.tmp 81) (.seq (.region 11 (reg Try.f34 11) false) Code.ret) (.seq (.region 12 (reg Try.f34 12) false) (.cond (.tmp 101) (.seq (.region 13 (reg Try.f34 13) false) Code.ret) (.seq (.region 14 (reg Try.f34 14) false) (.cond (.tmp 116) (.seq (.region 15 (reg Try.f34 15) false) Code.ret) (.seq (.seq (.region 16 (reg Try.f34 16) false) (.cond (.tmp 139) Code.skip (.region 17 (reg Try.f34 17) false))) (.cond (.tmp 139) (.seq (.region 18 (reg Try.f34 18) false) Code.ret) (.seq (.region 19 (reg Try.f34 19) false) (.cond (.tmp 156) (.seq (.region 20 (reg Try.f34 20) false) Code.ret) Code.skip)))))))))))))) (.seq (.region 21 (reg Try.f34 21) false) Code.ret)))))))
theorem zu.body:Try.f34.body=some zu.code:=by kernel_rfl
variable (x0 x1 x2 x3 x4 x5 x6 x7 x8 x9 c6 c7 c8 c9 d0 d1 d2 d3 d4 d5 d6 d7 d8 d9 f0 f1 f2 f3 f4 f5 f6 f7 f8 f9 g0 g1 g2 g3 g4 g5 g6 g7 g8 g9 i0 i1 i2 i3 i4 i5 i6 i7 i8 i9 j0 j1 j2 j3 j4 j5 c5 j6 j7 j8 j9 k0 k1 k2 k3 k4 k5 k6 k7 k8 k9 l0 l1 l2 l3 l4 l5 l6 l7 l8 l9 m0 m1 m2 m3 m4 m5 m6 m7 m8 m9 n0 n1 n2 n3 n4 b c d f g i k l m n o p q r s t u w x y z A B C D E F G H I J K L M N P Q R U c4 V W X Y Z a0 a1 a2 a3 a4 a5 a6 a7 a8 a9 b0 b1 b2 b3 b4 b5 b6 b7 b8 b9 c0 c1 c2 c3:Value) (S:zx)
theorem zu.r0 :jF zi ⟨false,false,false⟩ (jd zi O) (reg Try.f34 0) (reg Try.f34 0).toList ([x0,x1,x2,x3,x4,x5,x6,x7,x8,x9,c6,c7,c8,c9,d0,d1,d2,d3,d4,d5,d6,d7,d8,d9,f0,f1,f2,f3,f4,f5,f6,f7,f8,f9,g0,g1,g2,g3,g4,g5,g6,g7,g8,g9,i0,i1,i2,i3,i4,i5,i6,i7,i8,i9,j0,j1,j2,j3,j4,j5,c5,j6,j7,j8,j9,k0,k1,k2,k3,k4,k5,k6,k7,k8,k9,l0,l1,l2,l3,l4,l5,l6,l7,l8,l9,m0,m1,m2,m3,m4,m5,m6,m7,m8,m9,n0,n1,n2,n3,n4,b,c,d,f,g,i,k,l,m,n,o,p,q,r,s,t,u,w,x,y,z,A,B,C,D,E,F,G,H,I,J,K,L,M,N,P,Q,R,U,c4,V,W,X,Y,Z,a0,a1,a2,a3,a4,a5,a6,a7,a8,a9,b0,b1,b2,b3,b4,b5,b6,b7,b8,b9,c0,c1,c2,c3]) S =
  (zN (JK (dem x0) S) (fun v0 S1=>some ([x0,v0,Value.bool false,x3,x4,x5,x6,x7,x8,x9,c6,c7,c8,c9,d0,d1,d2,d3,d4,d5,d6,d7,d8,d9,f0,f1,f2,f3,f4,f5,f6,f7,f8,f9,g0,g1,g2,g3,g4,g5,g6,g7,g8,g9,i0,i1,i2,i3,i4,i5,i6,i7,i8,i9,j0,j1,j2,j3,j4,j5,c5,j6,j7,j8,j9,k0,k1,k2,k3,k4,k5,k6,k7,k8,k9,l0,l1,l2,l3,l4,l5,l6,l7,l8,l9,m0,m1,m2,m3,m4,m5,m6,m7,m8,m9,n0,n1,n2,n3,n4,b,c,d,f,g,i,k,l,m,n,o,p,q,r,s,t,u,w,x,y,z,A,B,C,D,E,F,G,H,I,J,K,L,M,N,P,Q,R,U,c4,V,W,X,Y,Z,a0,a1,a2,a3,a4,a5,a6,a7,a8,a9,b0,b1,b2,b3,b4,b5,b6,b7,b8,b9,c0,c1,c2,c3],S1)) ()):=by
 kernel_rfl
theorem zu.r1 :jF zi ⟨false,false,false⟩ (jd zi O) (reg Try.f34 1) (reg Try.f34 1).toList ([x0,x1,x2,x3,x4,x5,x6,x7,x8,x9,c6,c7,c8,c9,d0,d1,d2,d3,d4,d5,d6,d7,d8,d9,f0,f1,f2,f3,f4,f5,f6,f7,f8,f9,g0,g1,g2,g3,g4,g5,g6,g7,g8,g9,i0,i1,i2,i3,i4,i5,i6,i7,i8,i9,j0,j1,j2,j3,j4,j5,c5,j6,j7,j8,j9,k0,k1,k2,k3,k4,k5,k6,k7,k8,k9,l0,l1,l2,l3,l4,l5,l6,l7,l8,l9,m0,m1,m2,m3,m4,m5,m6,m7,m8,m9,n0,n1,n2,n3,n4,b,c,d,f,g,i,k,l,m,n,o,p,q,r,s,t,u,w,x,y,z,A,B,C,D,E,F,G,H,I,J,K,L,M,N,P,Q,R,U,c4,V,W,X,Y,Z,a0,a1,a2,a3,a4,a5,a6,a7,a8,a9,b0,b1,b2,b3,b4,b5,b6,b7,b8,b9,c0,c1,c2,c3]) S =
  (zN (zG zi 48 x1 1 S) (fun v0 S1=>zN (jl zi false 3 v0 S1) (fun v1 S2=>zN (wH zi BinOp.lss 3 v1 (.int .i64 0) S2) (fun v2 S3=>gdK (dem v2) false (zG zi 48 x1 1) S3 (fun v4 S4=>gdK (dem v2) false (jl zi false 3 v4) S4 (fun v5 S5=>gdK (dem v2) false (wH zi BinOp.gtr 3 v5 (.int .i64 6)) S5 (fun v6 S6=>zN (wW (dem v2) (Value.bool true) v6 S6) (fun v7 S7=>some ([x0,x1,x2,x3,x4,v0,v1,v2,dem v2,v4,v5,v6,v7,c9,d0,d1,d2,d3,d4,d5,d6,d7,d8,d9,f0,f1,f2,f3,f4,f5,f6,f7,f8,f9,g0,g1,g2,g3,g4,g5,g6,g7,g8,g9,i0,i1,i2,i3,i4,i5,i6,i7,i8,i9,j0,j1,j2,j3,j4,j5,c5,j6,j7,j8,j9,k0,k1,k2,k3,k4,k5,k6,k7,k8,k9,l0,l1,l2,l3,l4,l5,l6,l7,l8,l9,m0,m1,m2,m3,m4,m5,m6,m7,m8,m9,n0,n1,n2,n3,n4,b,c,d,f,g,i,k,l,m,n,o,p,q,r,s,t,u,w,x,y,z,A,B,C,D,E,F,G,H,I,J,K,L,M,N,P,Q,R,U,c4,V,W,X,Y,Z,a0,a1,a2,a3,a4,a5,a6,a7,a8,a9,b0,b1,b2,b3,b4,b5,b6,b7,b8,b9,c0,c1,c2,c3],S7)) ()) ()) ()) ()) ()) ()) ()):=by
 refine sD Try.f34 1 0 (fun v0 S1=>?_)
 refine sD Try.f34 1 1 (fun v1 S2=>?_)
 refine sD Try.f34 1 2 (fun v2 S3=>?_)
 refine sP Try.f34 1 3 (v:=v2) ?_
 refine sG Try.f34 1 4 (j:=3) (fun v4 S4=>?_)
 refine sG Try.f34 1 5 (j:=3) (fun v5 S5=>?_)
 refine sG Try.f34 1 6 (j:=3) (fun v6 S6=>?_)
 refine sD Try.f34 1 7 (fun v7 S7=>?_)
 kernel_rfl
theorem zu.r2 :jF zi ⟨false,false,false⟩ (jd zi O) (reg Try.f34 2) (reg Try.f34 2).toList ([x0,x1,x2,x3,x4,x5,x6,x7,x8,x9,c6,c7,c8,c9,d0,d1,d2,d3,d4,d5,d6,d7,d8,d9,f0,f1,f2,f3,f4,f5,f6,f7,f8,f9,g0,g1,g2,g3,g4,g5,g6,g7,g8,g9,i0,i1,i2,i3,i4,i5,i6,i7,i8,i9,j0,j1,j2,j3,j4,j5,c5,j6,j7,j8,j9,k0,k1,k2,k3,k4,k5,k6,k7,k8,k9,l0,l1,l2,l3,l4,l5,l6,l7,l8,l9,m0,m1,m2,m3,m4,m5,m6,m7,m8,m9,n0,n1,n2,n3,n4,b,c,d,f,g,i,k,l,m,n,o,p,q,r,s,t,u,w,x,y,z,A,B,C,D,E,F,G,H,I,J,K,L,M,N,P,Q,R,U,c4,V,W,X,Y,Z,a0,a1,a2,a3,a4,a5,a6,a7,a8,a9,b0,b1,b2,b3,b4,b5,b6,b7,b8,b9,c0,c1,c2,c3]) S =
  ( some ([x0,x1,Value.bool false,x3,x4,x5,x6,x7,x8,x9,c6,c7,c8,c9,d0,d1,d2,d3,d4,d5,d6,d7,d8,d9,f0,f1,f2,f3,f4,f5,f6,f7,f8,f9,g0,g1,g2,g3,g4,g5,g6,g7,g8,g9,i0,i1,i2,i3,i4,i5,i6,i7,i8,i9,j0,j1,j2,j3,j4,j5,c5,j6,j7,j8,j9,k0,k1,k2,k3,k4,k5,k6,k7,k8,k9,l0,l1,l2,l3,l4,l5,l6,l7,l8,l9,m0,m1,m2,m3,m4,m5,m6,m7,m8,m9,n0,n1,n2,n3,n4,b,c,d,f,g,i,k,l,m,n,o,p,q,r,s,t,u,w,x,y,z,A,B,C,D,E,F,G,H,I,J,K,L,M,N,P,Q,R,U,c4,V,W,X,Y,Z,a0,a1,a2,a3,a4,a5,a6,a7,a8,a9,b0,b1,b2,b3,b4,b5,b6,b7,b8,b9,c0,c1,c2,c3],S)):=by
 kernel_rfl
theorem zu.r3 :jF zi ⟨false,false,false⟩ (jd zi O) (reg Try.f34 3) (reg Try.f34 3).toList ([x0,x1,x2,x3,x4,x5,x6,x7,x8,x9,c6,c7,c8,c9,d0,d1,d2,d3,d4,d5,d6,d7,d8,d9,f0,f1,f2,f3,f4,f5,f6,f7,f8,f9,g0,g1,g2,g3,g4,g5,g6,g7,g8,g9,i0,i1,i2,i3,i4,i5,i6,i7,i8,i9,j0,j1,j2,j3,j4,j5,c5,j6,j7,j8,j9,k0,k1,k2,k3,k4,k5,k6,k7,k8,k9,l0,l1,l2,l3,l4,l5,l6,l7,l8,l9,m0,m1,m2,m3,m4,m5,m6,m7,m8,m9,n0,n1,n2,n3,n4,b,c,d,f,g,i,k,l,m,n,o,p,q,r,s,t,u,w,x,y,z,A,B,C,D,E,F,G,H,I,J,K,L,M,N,P,Q,R,U,c4,V,W,X,Y,Z,a0,a1,a2,a3,a4,a5,a6,a7,a8,a9,b0,b1,b2,b3,b4,b5,b6,b7,b8,b9,c0,c1,c2,c3]) S =
  (zN (zG zi 48 x1 0 S) (fun v0 S1=>zN (jl zi false 3 v0 S1) (fun v1 S2=>zN (wH zi BinOp.neq 3 v1 (.int .i64 0) S2) (fun v2 S3=>gdK (dem v2) true (zG zi 48 x1 6) S3 (fun v4 S4=>gdK (dem v2) true (jl zi false 43 v4) S4 (fun v5 S5=>gdK (dem v2) true (yw zi 43 []) S5 (fun v6 S6=>gdK (dem v2) true (wH zi BinOp.neq 43 v5 v6) S6 (fun v7 S7=>zN (wW (dem v2) v7 (Value.bool false) S7) (fun v8 S8=>gdK (dem v8) false (zG zi 48 x1 0) S8 (fun n6 S9=>gdK (dem v8) false (jl zi false 3 n6) S9 (fun n7 n9=>gdK (dem v8) false (wH zi BinOp.neq 3 n7 (.int .i64 1)) n9 (fun n5 o0=>gdK (dem v8) false (ret n5) o0 (fun n8 o5=>gdK (dem n8) true (zG zi 48 x1 7) o5 (fun o6 o7=>gdK (dem n8) true (jl zi false 46 o6) o7 (fun o2 o8=>gdK (dem n8) true ((jd zi O) 52 [(dem o2)]) o8 (fun o3 o9=>gdK (dem n8) true (aUn zi UnOp.not o3) o9 (fun o1 p2=>gdK (dem v8) false (wW (dem n8) o1 (Value.bool false)) p2 (fun p0 q1=>zN (wW (dem v8) (Value.bool true) p0 q1) (fun o4 q2=>gdK (dem o4) false (zG zi 48 x1 0) q2 (fun p4 q3=>gdK (dem o4) false (jl zi false 3 p4) q3 (fun p5 q4=>gdK (dem o4) false (wH zi BinOp.neq 3 p5 (.int .i64 3)) q4 (fun p6 q5=>gdK (dem o4) false (ret p6) q5 (fun p1 q6=>gdK (dem p1) true (zG zi 48 x1 5) q6 (fun p7 q7=>gdK (dem p1) true (jl zi false 3 p7) q7 (fun p8 q8=>gdK (dem p1) true (wH zi BinOp.neq 3 p8 (.int .i64 0)) q8 (fun p9 q9=>gdK (dem o4) false (wW (dem p1) p9 (Value.bool false)) q9 (fun q0 s0=>zN (wW (dem o4) (Value.bool true) q0 s0) (fun s1 s2=>some ([x0,x1,x2,x3,x4,x5,x6,x7,x8,x9,c6,c7,c8,v0,v1,v2,dem v2,v4,v5,v6,v7,v8,dem v8,n6,n7,n5,dem n8,o6,o2,o3,o1,p0,o4,dem o4,p4,p5,p6,dem p1,p7,p8,p9,q0,s1,g9,i0,i1,i2,i3,i4,i5,i6,i7,i8,i9,j0,j1,j2,j3,j4,j5,c5,j6,j7,j8,j9,k0,k1,k2,k3,k4,k5,k6,k7,k8,k9,l0,l1,l2,l3,l4,l5,l6,l7,l8,l9,m0,m1,m2,m3,m4,m5,m6,m7,m8,m9,n0,n1,n2,n3,n4,b,c,d,f,g,i,k,l,m,n,o,p,q,r,s,t,u,w,x,y,z,A,B,C,D,E,F,G,H,I,J,K,L,M,N,P,Q,R,U,c4,V,W,X,Y,Z,a0,a1,a2,a3,a4,a5,a6,a7,a8,a9,b0,b1,b2,b3,b4,b5,b6,b7,b8,b9,c0,c1,c2,c3],s2)) ()) ()) ()) ()) ()) ()) ()) ()) ()) ()) ()) ()) ()) ()) ()) ()) ()) ()) ()) ()) ()) ()) ()) ()) ()) ()) ()):=by
 refine sD Try.f34 3 0 (fun v0 S1=>?_)
 refine sD Try.f34 3 1 (fun v1 S2=>?_)
 refine sD Try.f34 3 2 (fun v2 S3=>?_)
 refine sP Try.f34 3 3 (v:=v2) ?_
 refine sG Try.f34 3 4 (j:=3) (fun v4 S4=>?_)
 refine sG Try.f34 3 5 (j:=3) (fun v5 S5=>?_)
 refine sG Try.f34 3 6 (j:=3) (fun v6 S6=>?_)
 refine sG Try.f34 3 7 (j:=3) (fun v7 S7=>?_)
 refine sD Try.f34 3 8 (fun v8 S8=>?_)
 refine sP Try.f34 3 9 (v:=v8) ?_
 refine sG Try.f34 3 10 (j:=9) (fun n6 S9=>?_)
 refine sG Try.f34 3 11 (j:=9) (fun n7 n9=>?_)
 refine sG Try.f34 3 12 (j:=9) (fun n5 o0=>?_)
 refine sG Try.f34 3 13 (j:=9) (fun n8 o5=>?_)
 refine sG Try.f34 3 14 (j:=13) (fun o6 o7=>?_)
 refine sG Try.f34 3 15 (j:=13) (fun o2 o8=>?_)
 refine sG Try.f34 3 16 (j:=13) (fun o3 o9=>?_)
 refine sG Try.f34 3 17 (j:=13) (fun o1 p2=>?_)
 refine sG Try.f34 3 18 (j:=9) (fun p0 q1=>?_)
 refine sD Try.f34 3 19 (fun o4 q2=>?_)
 refine sP Try.f34 3 20 (v:=o4) ?_
 refine sG Try.f34 3 21 (j:=20) (fun p4 q3=>?_)
 refine sG Try.f34 3 22 (j:=20) (fun p5 q4=>?_)
 refine sG Try.f34 3 23 (j:=20) (fun p6 q5=>?_)
 refine sG Try.f34 3 24 (j:=20) (fun p1 q6=>?_)
 refine sG Try.f34 3 25 (j:=24) (fun p7 q7=>?_)
 refine sG Try.f34 3 26 (j:=24) (fun p8 q8=>?_)
 refine sG Try.f34 3 27 (j:=24) (fun p9 q9=>?_)
 refine sG Try.f34 3 28 (j:=20) (fun q0 s0=>?_)
 refine sD Try.f34 3 29 (fun s1 s2=>?_)
 kernel_rfl
theorem zu.r4 :jF zi ⟨false,false,false⟩ (jd zi O) (reg Try.f34 4) (reg Try.f34 4).toList ([x0,x1,x2,x3,x4,x5,x6,x7,x8,x9,c6,c7,c8,c9,d0,d1,d2,d3,d4,d5,d6,d7,d8,d9,f0,f1,f2,f3,f4,f5,f6,f7,f8,f9,g0,g1,g2,g3,g4,g5,g6,g7,g8,g9,i0,i1,i2,i3,i4,i5,i6,i7,i8,i9,j0,j1,j2,j3,j4,j5,c5,j6,j7,j8,j9,k0,k1,k2,k3,k4,k5,k6,k7,k8,k9,l0,l1,l2,l3,l4,l5,l6,l7,l8,l9,m0,m1,m2,m3,m4,m5,m6,m7,m8,m9,n0,n1,n2,n3,n4,b,c,d,f,g,i,k,l,m,n,o,p,q,r,s,t,u,w,x,y,z,A,B,C,D,E,F,G,H,I,J,K,L,M,N,P,Q,R,U,c4,V,W,X,Y,Z,a0,a1,a2,a3,a4,a5,a6,a7,a8,a9,b0,b1,b2,b3,b4,b5,b6,b7,b8,b9,c0,c1,c2,c3]) S =
  ( some ([x0,x1,Value.bool false,x3,x4,x5,x6,x7,x8,x9,c6,c7,c8,c9,d0,d1,d2,d3,d4,d5,d6,d7,d8,d9,f0,f1,f2,f3,f4,f5,f6,f7,f8,f9,g0,g1,g2,g3,g4,g5,g6,g7,g8,g9,i0,i1,i2,i3,i4,i5,i6,i7,i8,i9,j0,j1,j2,j3,j4,j5,c5,j6,j7,j8,j9,k0,k1,k2,k3,k4,k5,k6,k7,k8,k9,l0,l1,l2,l3,l4,l5,l6,l7,l8,l9,m0,m1,m2,m3,m4,m5,m6,m7,m8,m9,n0,n1,n2,n3,n4,b,c,d,f,g,i,k,l,m,n,o,p,q,r,s,t,u,w,x,y,z,A,B,C,D,E,F,G,H,I,J,K,L,M,N,P,Q,R,U,c4,V,W,X,Y,Z,a0,a1,a2,a3,a4,a5,a6,a7,a8,a9,b0,b1,b2,b3,b4,b5,b6,b7,b8,b9,c0,c1,c2,c3],S)):=by
 kernel_rfl
theorem zu.r5 :jF zi ⟨false,false,false⟩ (jd zi O) (reg Try.f34 5) (reg Try.f34 5).toList ([x0,x1,x2,x3,x4,x5,x6,x7,x8,x9,c6,c7,c8,c9,d0,d1,d2,d3,d4,d5,d6,d7,d8,d9,f0,f1,f2,f3,f4,f5,f6,f7,f8,f9,g0,g1,g2,g3,g4,g5,g6,g7,g8,g9,i0,i1,i2,i3,i4,i5,i6,i7,i8,i9,j0,j1,j2,j3,j4,j5,c5,j6,j7,j8,j9,k0,k1,k2,k3,k4,k5,k6,k7,k8,k9,l0,l1,l2,l3,l4,l5,l6,l7,l8,l9,m0,m1,m2,m3,m4,m5,m6,m7,m8,m9,n0,n1,n2,n3,n4,b,c,d,f,g,i,k,l,m,n,o,p,q,r,s,t,u,w,x,y,z,A,B,C,D,E,F,G,H,I,J,K,L,M,N,P,Q,R,U,c4,V,W,X,Y,Z,a0,a1,a2,a3,a4,a5,a6,a7,a8,a9,b0,b1,b2,b3,b4,b5,b6,b7,b8,b9,c0,c1,c2,c3]) S =
  (zN (zG zi 48 x1 3 S) (fun v0 S1=>zN (jl zi false 3 v0 S1) (fun v1 S2=>zN (wH zi BinOp.geq 3 v1 (.int .i64 0) S2) (fun v2 S3=>gdK (dem v2) true (zG zi 48 x1 3) S3 (fun v4 S4=>gdK (dem v2) true (jl zi false 3 v4) S4 (fun v5 S5=>gdK (dem v2) true (wH zi BinOp.leq 3 v5 (.int .i64 1000)) S5 (fun v6 S6=>zN (wW (dem v2) v6 (Value.bool false) S6) (fun v7 S7=>some ([x0,x1,x2,v7,x4,x5,x6,x7,x8,x9,c6,c7,c8,c9,d0,d1,d2,d3,d4,d5,d6,d7,d8,d9,f0,f1,f2,f3,f4,f5,f6,f7,f8,f9,g0,g1,g2,g3,g4,g5,g6,g7,g8,v0,v1,v2,dem v2,v4,v5,v6,dem v7,i7,i8,i9,j0,j1,j2,j3,j4,j5,c5,j6,j7,j8,j9,k0,k1,k2,k3,k4,k5,k6,k7,k8,k9,l0,l1,l2,l3,l4,l5,l6,l7,l8,l9,m0,m1,m2,m3,m4,m5,m6,m7,m8,m9,n0,n1,n2,n3,n4,b,c,d,f,g,i,k,l,m,n,o,p,q,r,s,t,u,w,x,y,z,A,B,C,D,E,F,G,H,I,J,K,L,M,N,P,Q,R,U,c4,V,W,X,Y,Z,a0,a1,a2,a3,a4,a5,a6,a7,a8,a9,b0,b1,b2,b3,b4,b5,b6,b7,b8,b9,c0,c1,c2,c3],S7)) ()) ()) ()) ()) ()) ()) ()):=by
 refine sD Try.f34 5 0 (fun v0 S1=>?_)
 refine sD Try.f34 5 1 (fun v1 S2=>?_)
 refine sD Try.f34 5 2 (fun v2 S3=>?_)
 refine sP Try.f34 5 3 (v:=v2) ?_
 refine sG Try.f34 5 4 (j:=3) (fun v4 S4=>?_)
 refine sG Try.f34 5 5 (j:=3) (fun v5 S5=>?_)
 refine sG Try.f34 5 6 (j:=3) (fun v6 S6=>?_)
 refine sD Try.f34 5 7 (fun v7 S7=>?_)
 refine sP Try.f34 5 8 (v:=v7) ?_
 kernel_rfl
theorem zu.r6 :jF zi ⟨false,false,false⟩ (jd zi O) (reg Try.f34 6) (reg Try.f34 6).toList ([x0,x1,x2,x3,x4,x5,x6,x7,x8,x9,c6,c7,c8,c9,d0,d1,d2,d3,d4,d5,d6,d7,d8,d9,f0,f1,f2,f3,f4,f5,f6,f7,f8,f9,g0,g1,g2,g3,g4,g5,g6,g7,g8,g9,i0,i1,i2,i3,i4,i5,i6,i7,i8,i9,j0,j1,j2,j3,j4,j5,c5,j6,j7,j8,j9,k0,k1,k2,k3,k4,k5,k6,k7,k8,k9,l0,l1,l2,l3,l4,l5,l6,l7,l8,l9,m0,m1,m2,m3,m4,m5,m6,m7,m8,m9,n0,n1,n2,n3,n4,b,c,d,f,g,i,k,l,m,n,o,p,q,r,s,t,u,w,x,y,z,A,B,C,D,E,F,G,H,I,J,K,L,M,N,P,Q,R,U,c4,V,W,X,Y,Z,a0,a1,a2,a3,a4,a5,a6,a7,a8,a9,b0,b1,b2,b3,b4,b5,b6,b7,b8,b9,c0,c1,c2,c3]) S =
  (zN (zG zi 48 x1 2 S) (fun v0 S1=>zN (jl zi false 3 v0 S1) (fun v1 S2=>zN (wH zi BinOp.geq 3 v1 (.int .i64 0) S2) (fun v2 S3=>gdK (dem v2) true (zG zi 48 x1 2) S3 (fun v4 S4=>gdK (dem v2) true (jl zi false 3 v4) S4 (fun v5 S5=>gdK (dem v2) true (wH zi BinOp.leq 3 v5 (.int .i64 1000)) S5 (fun v6 S6=>zN (wW (dem v2) v6 (Value.bool false) S6) (fun v7 S7=>some ([x0,x1,x2,x3,v7,x5,x6,x7,x8,x9,c6,c7,c8,c9,d0,d1,d2,d3,d4,d5,d6,d7,d8,d9,f0,f1,f2,f3,f4,f5,f6,f7,f8,f9,g0,g1,g2,g3,g4,g5,g6,g7,g8,g9,i0,i1,i2,i3,i4,i5,i6,v0,v1,v2,dem v2,v4,v5,v6,dem v7,j5,c5,j6,j7,j8,j9,k0,k1,k2,k3,k4,k5,k6,k7,k8,k9,l0,l1,l2,l3,l4,l5,l6,l7,l8,l9,m0,m1,m2,m3,m4,m5,m6,m7,m8,m9,n0,n1,n2,n3,n4,b,c,d,f,g,i,k,l,m,n,o,p,q,r,s,t,u,w,x,y,z,A,B,C,D,E,F,G,H,I,J,K,L,M,N,P,Q,R,U,c4,V,W,X,Y,Z,a0,a1,a2,a3,a4,a5,a6,a7,a8,a9,b0,b1,b2,b3,b4,b5,b6,b7,b8,b9,c0,c1,c2,c3],S7)) ()) ()) ()) ()) ()) ()) ()):=by
 refine sD Try.f34 6 0 (fun v0 S1=>?_)
 refine sD Try.f34 6 1 (fun v1 S2=>?_)
 refine sD Try.f34 6 2 (fun v2 S3=>?_)
 refine sP Try.f34 6 3 (v:=v2) ?_
 refine sG Try.f34 6 4 (j:=3) (fun v4 S4=>?_)
 refine sG Try.f34 6 5 (j:=3) (fun v5 S5=>?_)
 refine sG Try.f34 6 6 (j:=3) (fun v6 S6=>?_)
 refine sD Try.f34 6 7 (fun v7 S7=>?_)
 refine sP Try.f34 6 8 (v:=v7) ?_
 kernel_rfl
theorem zu.r7 :jF zi ⟨false,false,false⟩ (jd zi O) (reg Try.f34 7) (reg Try.f34 7).toList ([x0,x1,x2,x3,x4,x5,x6,x7,x8,x9,c6,c7,c8,c9,d0,d1,d2,d3,d4,d5,d6,d7,d8,d9,f0,f1,f2,f3,f4,f5,f6,f7,f8,f9,g0,g1,g2,g3,g4,g5,g6,g7,g8,g9,i0,i1,i2,i3,i4,i5,i6,i7,i8,i9,j0,j1,j2,j3,j4,j5,c5,j6,j7,j8,j9,k0,k1,k2,k3,k4,k5,k6,k7,k8,k9,l0,l1,l2,l3,l4,l5,l6,l7,l8,l9,m0,m1,m2,m3,m4,m5,m6,m7,m8,m9,n0,n1,n2,n3,n4,b,c,d,f,g,i,k,l,m,n,o,p,q,r,s,t,u,w,x,y,z,A,B,C,D,E,F,G,H,I,J,K,L,M,N,P,Q,R,U,c4,V,W,X,Y,Z,a0,a1,a2,a3,a4,a5,a6,a7,a8,a9,b0,b1,b2,b3,b4,b5,b6,b7,b8,b9,c0,c1,c2,c3]) S =
  (zN (zG zi 48 x1 0 S) (fun v0 S1=>zN (jl zi false 3 v0 S1) (fun v1 S2=>some ([x0,x1,x2,x3,x4,x5,x6,x7,x8,x9,c6,c7,c8,c9,d0,d1,d2,d3,d4,d5,d6,d7,d8,d9,f0,f1,f2,f3,f4,f5,f6,f7,f8,f9,g0,g1,g2,g3,g4,g5,g6,g7,g8,g9,i0,i1,i2,i3,i4,i5,i6,i7,i8,i9,j0,j1,j2,j3,j4,v0,v1,j6,j7,j8,j9,k0,k1,k2,k3,k4,k5,k6,k7,k8,k9,l0,l1,l2,l3,l4,l5,l6,l7,l8,l9,m0,m1,m2,m3,m4,m5,m6,m7,m8,m9,n0,n1,n2,n3,n4,b,c,d,f,g,i,k,l,m,n,o,p,q,r,s,t,u,w,x,y,z,A,B,C,D,E,F,G,H,I,J,K,L,M,N,P,Q,R,U,c4,V,W,X,Y,Z,a0,a1,a2,a3,a4,a5,a6,a7,a8,a9,b0,b1,b2,b3,b4,b5,b6,b7,b8,b9,c0,c1,c2,c3],S2)) ()) ()):=by
 kernel_rfl
theorem zu.r8 :jF zi ⟨false,false,false⟩ (jd zi O) (reg Try.f34 8) (reg Try.f34 8).toList ([x0,x1,x2,x3,x4,x5,x6,x7,x8,x9,c6,c7,c8,c9,d0,d1,d2,d3,d4,d5,d6,d7,d8,d9,f0,f1,f2,f3,f4,f5,f6,f7,f8,f9,g0,g1,g2,g3,g4,g5,g6,g7,g8,g9,i0,i1,i2,i3,i4,i5,i6,i7,i8,i9,j0,j1,j2,j3,j4,j5,c5,j6,j7,j8,j9,k0,k1,k2,k3,k4,k5,k6,k7,k8,k9,l0,l1,l2,l3,l4,l5,l6,l7,l8,l9,m0,m1,m2,m3,m4,m5,m6,m7,m8,m9,n0,n1,n2,n3,n4,b,c,d,f,g,i,k,l,m,n,o,p,q,r,s,t,u,w,x,y,z,A,B,C,D,E,F,G,H,I,J,K,L,M,N,P,Q,R,U,c4,V,W,X,Y,Z,a0,a1,a2,a3,a4,a5,a6,a7,a8,a9,b0,b1,b2,b3,b4,b5,b6,b7,b8,b9,c0,c1,c2,c3]) S =
  (zN (wH zi BinOp.eql 3 c5 (.int .i64 0) S) (fun v0 S1=>some ([x0,x1,x2,x3,x4,x5,x6,x7,x8,x9,c6,c7,c8,c9,d0,d1,d2,d3,d4,d5,d6,d7,d8,d9,f0,f1,f2,f3,f4,f5,f6,f7,f8,f9,g0,g1,g2,g3,g4,g5,g6,g7,g8,g9,i0,i1,i2,i3,i4,i5,i6,i7,i8,i9,j0,j1,j2,j3,j4,j5,c5,v0,dem v0,j8,j9,k0,k1,k2,k3,k4,k5,k6,k7,k8,k9,l0,l1,l2,l3,l4,l5,l6,l7,l8,l9,m0,m1,m2,m3,m4,m5,m6,m7,m8,m9,n0,n1,n2,n3,n4,b,c,d,f,g,i,k,l,m,n,o,p,q,r,s,t,u,w,x,y,z,A,B,C,D,E,F,G,H,I,J,K,L,M,N,P,Q,R,U,c4,V,W,X,Y,Z,a0,a1,a2,a3,a4,a5,a6,a7,a8,a9,b0,b1,b2,b3,b4,b5,b6,b7,b8,b9,c0,c1,c2,c3],S1)) ()):=by
 kernel_rfl
theorem zu.r9 :jF zi ⟨false,false,false⟩ (jd zi O) (reg Try.f34 9) (reg Try.f34 9).toList ([x0,x1,x2,x3,x4,x5,x6,x7,x8,x9,c6,c7,c8,c9,d0,d1,d2,d3,d4,d5,d6,d7,d8,d9,f0,f1,f2,f3,f4,f5,f6,f7,f8,f9,g0,g1,g2,g3,g4,g5,g6,g7,g8,g9,i0,i1,i2,i3,i4,i5,i6,i7,i8,i9,j0,j1,j2,j3,j4,j5,c5,j6,j7,j8,j9,k0,k1,k2,k3,k4,k5,k6,k7,k8,k9,l0,l1,l2,l3,l4,l5,l6,l7,l8,l9,m0,m1,m2,m3,m4,m5,m6,m7,m8,m9,n0,n1,n2,n3,n4,b,c,d,f,g,i,k,l,m,n,o,p,q,r,s,t,u,w,x,y,z,A,B,C,D,E,F,G,H,I,J,K,L,M,N,P,Q,R,U,c4,V,W,X,Y,Z,a0,a1,a2,a3,a4,a5,a6,a7,a8,a9,b0,b1,b2,b3,b4,b5,b6,b7,b8,b9,c0,c1,c2,c3]) S =
  (zN (zG zi 48 x1 2 S) (fun v0 S1=>zN (jl zi false 3 v0 S1) (fun v1 S2=>zN (wH zi BinOp.eql 3 v1 (.int .i64 0) S2) (fun v2 S3=>gdK (dem v2) true (zG zi 48 x1 3) S3 (fun v4 S4=>gdK (dem v2) true (jl zi false 3 v4) S4 (fun v5 S5=>gdK (dem v2) true (wH zi BinOp.eql 3 v5 (.int .i64 0)) S5 (fun v6 S6=>zN (wW (dem v2) v6 (Value.bool false) S6) (fun v7 S7=>gdK (dem v7) true (zG zi 48 x1 4) S7 (fun v9 S8=>gdK (dem v7) true (jl zi false 3 v9) S8 (fun n6 S9=>gdK (dem v7) true (wH zi BinOp.eql 3 n6 (.int .i64 0)) S9 (fun n7 n9=>zN (wW (dem v7) n7 (Value.bool false) n9) (fun n5 o0=>gdK (dem n5) true (zG zi 48 x1 6) o0 (fun o6 o5=>gdK (dem n5) true (jl zi false 43 o6) o5 (fun o2 o7=>gdK (dem n5) true ((jd zi O) 48 [(dem o2)]) o7 (fun o3 o8=>zN (wW (dem n5) o3 (Value.bool false) o8) (fun o1 o9=>some ([x0,x1,o1,x3,x4,x5,x6,x7,x8,x9,c6,c7,c8,c9,d0,d1,d2,d3,d4,d5,d6,d7,d8,d9,f0,f1,f2,f3,f4,f5,f6,f7,f8,f9,g0,g1,g2,g3,g4,g5,g6,g7,g8,g9,i0,i1,i2,i3,i4,i5,i6,i7,i8,i9,j0,j1,j2,j3,j4,j5,c5,j6,j7,v0,v1,v2,dem v2,v4,v5,v6,v7,dem v7,v9,n6,n7,n5,dem n5,o6,o2,o3,dem o1,l6,l7,l8,l9,m0,m1,m2,m3,m4,m5,m6,m7,m8,m9,n0,n1,n2,n3,n4,b,c,d,f,g,i,k,l,m,n,o,p,q,r,s,t,u,w,x,y,z,A,B,C,D,E,F,G,H,I,J,K,L,M,N,P,Q,R,U,c4,V,W,X,Y,Z,a0,a1,a2,a3,a4,a5,a6,a7,a8,a9,b0,b1,b2,b3,b4,b5,b6,b7,b8,b9,c0,c1,c2,c3],o9)) ()) ()) ()) ()) ()) ()) ()) ()) ()) ()) ()) ()) ()) ()) ()):=by
 refine sD Try.f34 9 0 (fun v0 S1=>?_)
 refine sD Try.f34 9 1 (fun v1 S2=>?_)
 refine sD Try.f34 9 2 (fun v2 S3=>?_)
 refine sP Try.f34 9 3 (v:=v2) ?_
 refine sG Try.f34 9 4 (j:=3) (fun v4 S4=>?_)
 refine sG Try.f34 9 5 (j:=3) (fun v5 S5=>?_)
 refine sG Try.f34 9 6 (j:=3) (fun v6 S6=>?_)
 refine sD Try.f34 9 7 (fun v7 S7=>?_)
 refine sP Try.f34 9 8 (v:=v7) ?_
 refine sG Try.f34 9 9 (j:=8) (fun v9 S8=>?_)
 refine sG Try.f34 9 10 (j:=8) (fun n6 S9=>?_)
 refine sG Try.f34 9 11 (j:=8) (fun n7 n9=>?_)
 refine sD Try.f34 9 12 (fun n5 o0=>?_)
 refine sP Try.f34 9 13 (v:=n5) ?_
 refine sG Try.f34 9 14 (j:=13) (fun o6 o5=>?_)
 refine sG Try.f34 9 15 (j:=13) (fun o2 o7=>?_)
 refine sG Try.f34 9 16 (j:=13) (fun o3 o8=>?_)
 refine sD Try.f34 9 17 (fun o1 o9=>?_)
 refine sP Try.f34 9 18 (v:=o1) ?_
 kernel_rfl
theorem zu.r10 :jF zi ⟨false,false,false⟩ (jd zi O) (reg Try.f34 10) (reg Try.f34 10).toList ([x0,x1,x2,x3,x4,x5,x6,x7,x8,x9,c6,c7,c8,c9,d0,d1,d2,d3,d4,d5,d6,d7,d8,d9,f0,f1,f2,f3,f4,f5,f6,f7,f8,f9,g0,g1,g2,g3,g4,g5,g6,g7,g8,g9,i0,i1,i2,i3,i4,i5,i6,i7,i8,i9,j0,j1,j2,j3,j4,j5,c5,j6,j7,j8,j9,k0,k1,k2,k3,k4,k5,k6,k7,k8,k9,l0,l1,l2,l3,l4,l5,l6,l7,l8,l9,m0,m1,m2,m3,m4,m5,m6,m7,m8,m9,n0,n1,n2,n3,n4,b,c,d,f,g,i,k,l,m,n,o,p,q,r,s,t,u,w,x,y,z,A,B,C,D,E,F,G,H,I,J,K,L,M,N,P,Q,R,U,c4,V,W,X,Y,Z,a0,a1,a2,a3,a4,a5,a6,a7,a8,a9,b0,b1,b2,b3,b4,b5,b6,b7,b8,b9,c0,c1,c2,c3]) S =
  (zN (wH zi BinOp.eql 3 c5 (.int .i64 1) S) (fun v0 S1=>some ([x0,x1,x2,x3,x4,x5,x6,x7,x8,x9,c6,c7,c8,c9,d0,d1,d2,d3,d4,d5,d6,d7,d8,d9,f0,f1,f2,f3,f4,f5,f6,f7,f8,f9,g0,g1,g2,g3,g4,g5,g6,g7,g8,g9,i0,i1,i2,i3,i4,i5,i6,i7,i8,i9,j0,j1,j2,j3,j4,j5,c5,j6,j7,j8,j9,k0,k1,k2,k3,k4,k5,k6,k7,k8,k9,l0,l1,l2,l3,l4,l5,v0,dem v0,l8,l9,m0,m1,m2,m3,m4,m5,m6,m7,m8,m9,n0,n1,n2,n3,n4,b,c,d,f,g,i,k,l,m,n,o,p,q,r,s,t,u,w,x,y,z,A,B,C,D,E,F,G,H,I,J,K,L,M,N,P,Q,R,U,c4,V,W,X,Y,Z,a0,a1,a2,a3,a4,a5,a6,a7,a8,a9,b0,b1,b2,b3,b4,b5,b6,b7,b8,b9,c0,c1,c2,c3],S1)) ()):=by
 kernel_rfl
theorem zu.r11 :jF zi ⟨false,false,false⟩ (jd zi O) (reg Try.f34 11) (reg Try.f34 11).toList ([x0,x1,x2,x3,x4,x5,x6,x7,x8,x9,c6,c7,c8,c9,d0,d1,d2,d3,d4,d5,d6,d7,d8,d9,f0,f1,f2,f3,f4,f5,f6,f7,f8,f9,g0,g1,g2,g3,g4,g5,g6,g7,g8,g9,i0,i1,i2,i3,i4,i5,i6,i7,i8,i9,j0,j1,j2,j3,j4,j5,c5,j6,j7,j8,j9,k0,k1,k2,k3,k4,k5,k6,k7,k8,k9,l0,l1,l2,l3,l4,l5,l6,l7,l8,l9,m0,m1,m2,m3,m4,m5,m6,m7,m8,m9,n0,n1,n2,n3,n4,b,c,d,f,g,i,k,l,m,n,o,p,q,r,s,t,u,w,x,y,z,A,B,C,D,E,F,G,H,I,J,K,L,M,N,P,Q,R,U,c4,V,W,X,Y,Z,a0,a1,a2,a3,a4,a5,a6,a7,a8,a9,b0,b1,b2,b3,b4,b5,b6,b7,b8,b9,c0,c1,c2,c3]) S =
  (zN (zG zi 48 x1 2 S) (fun v0 S1=>zN (jl zi false 3 v0 S1) (fun v1 S2=>zN (wH zi BinOp.eql 3 v1 (.int .i64 0) S2) (fun v2 S3=>gdK (dem v2) true (zG zi 48 x1 3) S3 (fun v4 S4=>gdK (dem v2) true (jl zi false 3 v4) S4 (fun v5 S5=>gdK (dem v2) true (wH zi BinOp.eql 3 v5 (.int .i64 0)) S5 (fun v6 S6=>zN (wW (dem v2) v6 (Value.bool false) S6) (fun v7 S7=>gdK (dem v7) true (zG zi 48 x1 4) S7 (fun v9 S8=>gdK (dem v7) true (jl zi false 3 v9) S8 (fun n6 S9=>gdK (dem v7) true (wH zi BinOp.eql 3 n6 (.int .i64 0)) S9 (fun n7 n9=>zN (wW (dem v7) n7 (Value.bool false) n9) (fun n5 o0=>gdK (dem n5) true (zG zi 48 x1 7) o0 (fun o6 o5=>gdK (dem n5) true (jl zi false 46 o6) o5 (fun o2 o7=>gdK (dem n5) true ((jd zi O) 32 [(dem o2)]) o7 (fun o3 o8=>zN (wW (dem n5) o3 (Value.bool false) o8) (fun o1 o9=>some ([x0,x1,o1,x3,x4,x5,x6,x7,x8,x9,c6,c7,c8,c9,d0,d1,d2,d3,d4,d5,d6,d7,d8,d9,f0,f1,f2,f3,f4,f5,f6,f7,f8,f9,g0,g1,g2,g3,g4,g5,g6,g7,g8,g9,i0,i1,i2,i3,i4,i5,i6,i7,i8,i9,j0,j1,j2,j3,j4,j5,c5,j6,j7,j8,j9,k0,k1,k2,k3,k4,k5,k6,k7,k8,k9,l0,l1,l2,l3,l4,l5,l6,l7,v0,v1,v2,dem v2,v4,v5,v6,v7,dem v7,v9,n6,n7,n5,dem n5,o6,o2,o3,dem o1,c,d,f,g,i,k,l,m,n,o,p,q,r,s,t,u,w,x,y,z,A,B,C,D,E,F,G,H,I,J,K,L,M,N,P,Q,R,U,c4,V,W,X,Y,Z,a0,a1,a2,a3,a4,a5,a6,a7,a8,a9,b0,b1,b2,b3,b4,b5,b6,b7,b8,b9,c0,c1,c2,c3],o9)) ()) ()) ()) ()) ()) ()) ()) ()) ()) ()) ()) ()) ()) ()) ()):=by
 refine sD Try.f34 11 0 (fun v0 S1=>?_)
 refine sD Try.f34 11 1 (fun v1 S2=>?_)
 refine sD Try.f34 11 2 (fun v2 S3=>?_)
 refine sP Try.f34 11 3 (v:=v2) ?_
 refine sG Try.f34 11 4 (j:=3) (fun v4 S4=>?_)
 refine sG Try.f34 11 5 (j:=3) (fun v5 S5=>?_)
 refine sG Try.f34 11 6 (j:=3) (fun v6 S6=>?_)
 refine sD Try.f34 11 7 (fun v7 S7=>?_)
 refine sP Try.f34 11 8 (v:=v7) ?_
 refine sG Try.f34 11 9 (j:=8) (fun v9 S8=>?_)
 refine sG Try.f34 11 10 (j:=8) (fun n6 S9=>?_)
 refine sG Try.f34 11 11 (j:=8) (fun n7 n9=>?_)
 refine sD Try.f34 11 12 (fun n5 o0=>?_)
 refine sP Try.f34 11 13 (v:=n5) ?_
 refine sG Try.f34 11 14 (j:=13) (fun o6 o5=>?_)
 refine sG Try.f34 11 15 (j:=13) (fun o2 o7=>?_)
 refine sG Try.f34 11 16 (j:=13) (fun o3 o8=>?_)
 refine sD Try.f34 11 17 (fun o1 o9=>?_)
 refine sP Try.f34 11 18 (v:=o1) ?_
 kernel_rfl
theorem zu.r12 :jF zi ⟨false,false,false⟩ (jd zi O) (reg Try.f34 12) (reg Try.f34 12).toList ([x0,x1,x2,x3,x4,x5,x6,x7,x8,x9,c6,c7,c8,c9,d0,d1,d2,d3,d4,d5,d6,d7,d8,d9,f0,f1,f2,f3,f4,f5,f6,f7,f8,f9,g0,g1,g2,g3,g4,g5,g6,g7,g8,g9,i0,i1,i2,i3,i4,i5,i6,i7,i8,i9,j0,j1,j2,j3,j4,j5,c5,j6,j7,j8,j9,k0,k1,k2,k3,k4,k5,k6,k7,k8,k9,l0,l1,l2,l3,l4,l5,l6,l7,l8,l9,m0,m1,m2,m3,m4,m5,m6,m7,m8,m9,n0,n1,n2,n3,n4,b,c,d,f,g,i,k,l,m,n,o,p,q,r,s,t,u,w,x,y,z,A,B,C,D,E,F,G,H,I,J,K,L,M,N,P,Q,R,U,c4,V,W,X,Y,Z,a0,a1,a2,a3,a4,a5,a6,a7,a8,a9,b0,b1,b2,b3,b4,b5,b6,b7,b8,b9,c0,c1,c2,c3]) S =
  (zN (wH zi BinOp.eql 3 c5 (.int .i64 2) S) (fun v0 S1=>some ([x0,x1,x2,x3,x4,x5,x6,x7,x8,x9,c6,c7,c8,c9,d0,d1,d2,d3,d4,d5,d6,d7,d8,d9,f0,f1,f2,f3,f4,f5,f6,f7,f8,f9,g0,g1,g2,g3,g4,g5,g6,g7,g8,g9,i0,i1,i2,i3,i4,i5,i6,i7,i8,i9,j0,j1,j2,j3,j4,j5,c5,j6,j7,j8,j9,k0,k1,k2,k3,k4,k5,k6,k7,k8,k9,l0,l1,l2,l3,l4,l5,l6,l7,l8,l9,m0,m1,m2,m3,m4,m5,m6,m7,m8,m9,n0,n1,n2,n3,n4,b,v0,dem v0,f,g,i,k,l,m,n,o,p,q,r,s,t,u,w,x,y,z,A,B,C,D,E,F,G,H,I,J,K,L,M,N,P,Q,R,U,c4,V,W,X,Y,Z,a0,a1,a2,a3,a4,a5,a6,a7,a8,a9,b0,b1,b2,b3,b4,b5,b6,b7,b8,b9,c0,c1,c2,c3],S1)) ()):=by
 kernel_rfl
theorem zu.r13 :jF zi ⟨false,false,false⟩ (jd zi O) (reg Try.f34 13) (reg Try.f34 13).toList ([x0,x1,x2,x3,x4,x5,x6,x7,x8,x9,c6,c7,c8,c9,d0,d1,d2,d3,d4,d5,d6,d7,d8,d9,f0,f1,f2,f3,f4,f5,f6,f7,f8,f9,g0,g1,g2,g3,g4,g5,g6,g7,g8,g9,i0,i1,i2,i3,i4,i5,i6,i7,i8,i9,j0,j1,j2,j3,j4,j5,c5,j6,j7,j8,j9,k0,k1,k2,k3,k4,k5,k6,k7,k8,k9,l0,l1,l2,l3,l4,l5,l6,l7,l8,l9,m0,m1,m2,m3,m4,m5,m6,m7,m8,m9,n0,n1,n2,n3,n4,b,c,d,f,g,i,k,l,m,n,o,p,q,r,s,t,u,w,x,y,z,A,B,C,D,E,F,G,H,I,J,K,L,M,N,P,Q,R,U,c4,V,W,X,Y,Z,a0,a1,a2,a3,a4,a5,a6,a7,a8,a9,b0,b1,b2,b3,b4,b5,b6,b7,b8,b9,c0,c1,c2,c3]) S =
  (zN (zG zi 48 x1 2 S) (fun v0 S1=>zN (jl zi false 3 v0 S1) (fun v1 S2=>zN (wH zi BinOp.eql 3 v1 (.int .i64 0) S2) (fun v2 S3=>gdK (dem v2) true (zG zi 48 x1 3) S3 (fun v4 S4=>gdK (dem v2) true (jl zi false 3 v4) S4 (fun v5 S5=>gdK (dem v2) true (wH zi BinOp.eql 3 v5 (.int .i64 0)) S5 (fun v6 S6=>zN (wW (dem v2) v6 (Value.bool false) S6) (fun v7 S7=>gdK (dem v7) true (zG zi 48 x1 4) S7 (fun v9 S8=>gdK (dem v7) true (jl zi false 3 v9) S8 (fun n6 S9=>gdK (dem v7) true ((jd zi O) 53 [(dem n6)]) S9 (fun n7 n9=>zN (wW (dem v7) n7 (Value.bool false) n9) (fun n5 o0=>some ([x0,x1,n5,x3,x4,x5,x6,x7,x8,x9,c6,c7,c8,c9,d0,d1,d2,d3,d4,d5,d6,d7,d8,d9,f0,f1,f2,f3,f4,f5,f6,f7,f8,f9,g0,g1,g2,g3,g4,g5,g6,g7,g8,g9,i0,i1,i2,i3,i4,i5,i6,i7,i8,i9,j0,j1,j2,j3,j4,j5,c5,j6,j7,j8,j9,k0,k1,k2,k3,k4,k5,k6,k7,k8,k9,l0,l1,l2,l3,l4,l5,l6,l7,l8,l9,m0,m1,m2,m3,m4,m5,m6,m7,m8,m9,n0,n1,n2,n3,n4,b,c,d,v0,v1,v2,dem v2,v4,v5,v6,v7,dem v7,v9,n6,n7,dem n5,u,w,x,y,z,A,B,C,D,E,F,G,H,I,J,K,L,M,N,P,Q,R,U,c4,V,W,X,Y,Z,a0,a1,a2,a3,a4,a5,a6,a7,a8,a9,b0,b1,b2,b3,b4,b5,b6,b7,b8,b9,c0,c1,c2,c3],o0)) ()) ()) ()) ()) ()) ()) ()) ()) ()) ()) ()):=by
 refine sD Try.f34 13 0 (fun v0 S1=>?_)
 refine sD Try.f34 13 1 (fun v1 S2=>?_)
 refine sD Try.f34 13 2 (fun v2 S3=>?_)
 refine sP Try.f34 13 3 (v:=v2) ?_
 refine sG Try.f34 13 4 (j:=3) (fun v4 S4=>?_)
 refine sG Try.f34 13 5 (j:=3) (fun v5 S5=>?_)
 refine sG Try.f34 13 6 (j:=3) (fun v6 S6=>?_)
 refine sD Try.f34 13 7 (fun v7 S7=>?_)
 refine sP Try.f34 13 8 (v:=v7) ?_
 refine sG Try.f34 13 9 (j:=8) (fun v9 S8=>?_)
 refine sG Try.f34 13 10 (j:=8) (fun n6 S9=>?_)
 refine sG Try.f34 13 11 (j:=8) (fun n7 n9=>?_)
 refine sD Try.f34 13 12 (fun n5 o0=>?_)
 refine sP Try.f34 13 13 (v:=n5) ?_
 kernel_rfl
theorem zu.r14 :jF zi ⟨false,false,false⟩ (jd zi O) (reg Try.f34 14) (reg Try.f34 14).toList ([x0,x1,x2,x3,x4,x5,x6,x7,x8,x9,c6,c7,c8,c9,d0,d1,d2,d3,d4,d5,d6,d7,d8,d9,f0,f1,f2,f3,f4,f5,f6,f7,f8,f9,g0,g1,g2,g3,g4,g5,g6,g7,g8,g9,i0,i1,i2,i3,i4,i5,i6,i7,i8,i9,j0,j1,j2,j3,j4,j5,c5,j6,j7,j8,j9,k0,k1,k2,k3,k4,k5,k6,k7,k8,k9,l0,l1,l2,l3,l4,l5,l6,l7,l8,l9,m0,m1,m2,m3,m4,m5,m6,m7,m8,m9,n0,n1,n2,n3,n4,b,c,d,f,g,i,k,l,m,n,o,p,q,r,s,t,u,w,x,y,z,A,B,C,D,E,F,G,H,I,J,K,L,M,N,P,Q,R,U,c4,V,W,X,Y,Z,a0,a1,a2,a3,a4,a5,a6,a7,a8,a9,b0,b1,b2,b3,b4,b5,b6,b7,b8,b9,c0,c1,c2,c3]) S =
  (zN (wH zi BinOp.eql 3 c5 (.int .i64 3) S) (fun v0 S1=>some ([x0,x1,x2,x3,x4,x5,x6,x7,x8,x9,c6,c7,c8,c9,d0,d1,d2,d3,d4,d5,d6,d7,d8,d9,f0,f1,f2,f3,f4,f5,f6,f7,f8,f9,g0,g1,g2,g3,g4,g5,g6,g7,g8,g9,i0,i1,i2,i3,i4,i5,i6,i7,i8,i9,j0,j1,j2,j3,j4,j5,c5,j6,j7,j8,j9,k0,k1,k2,k3,k4,k5,k6,k7,k8,k9,l0,l1,l2,l3,l4,l5,l6,l7,l8,l9,m0,m1,m2,m3,m4,m5,m6,m7,m8,m9,n0,n1,n2,n3,n4,b,c,d,f,g,i,k,l,m,n,o,p,q,r,s,t,v0,dem v0,x,y,z,A,B,C,D,E,F,G,H,I,J,K,L,M,N,P,Q,R,U,c4,V,W,X,Y,Z,a0,a1,a2,a3,a4,a5,a6,a7,a8,a9,b0,b1,b2,b3,b4,b5,b6,b7,b8,b9,c0,c1,c2,c3],S1)) ()):=by
 kernel_rfl
theorem zu.r15 :jF zi ⟨false,false,false⟩ (jd zi O) (reg Try.f34 15) (reg Try.f34 15).toList ([x0,x1,x2,x3,x4,x5,x6,x7,x8,x9,c6,c7,c8,c9,d0,d1,d2,d3,d4,d5,d6,d7,d8,d9,f0,f1,f2,f3,f4,f5,f6,f7,f8,f9,g0,g1,g2,g3,g4,g5,g6,g7,g8,g9,i0,i1,i2,i3,i4,i5,i6,i7,i8,i9,j0,j1,j2,j3,j4,j5,c5,j6,j7,j8,j9,k0,k1,k2,k3,k4,k5,k6,k7,k8,k9,l0,l1,l2,l3,l4,l5,l6,l7,l8,l9,m0,m1,m2,m3,m4,m5,m6,m7,m8,m9,n0,n1,n2,n3,n4,b,c,d,f,g,i,k,l,m,n,o,p,q,r,s,t,u,w,x,y,z,A,B,C,D,E,F,G,H,I,J,K,L,M,N,P,Q,R,U,c4,V,W,X,Y,Z,a0,a1,a2,a3,a4,a5,a6,a7,a8,a9,b0,b1,b2,b3,b4,b5,b6,b7,b8,b9,c0,c1,c2,c3]) S =
  (gdK (dem x4) true (ret x3) S (fun v2 S1=>zN (wW (dem x4) (dem v2) (Value.bool false) S1) (fun v3 S2=>gdK (dem v3) true (zG zi 48 x1 4) S2 (fun v5 S3=>gdK (dem v3) true (jl zi false 3 v5) S3 (fun v6 S4=>gdK (dem v3) true ((jd zi O) 53 [(dem v6)]) S4 (fun v7 S5=>zN (wW (dem v3) v7 (Value.bool false) S5) (fun v8 S6=>gdK (dem v8) true (zG zi 48 x1 5) S6 (fun n6 S7=>gdK (dem v8) true (jl zi false 3 n6) S7 (fun n7 S8=>gdK (dem v8) true (wH zi BinOp.geq 3 n7 (.int .i64 (-1))) S8 (fun n5 S9=>zN (wW (dem v8) n5 (Value.bool false) S9) (fun n8 n9=>gdK (dem n8) true (zG zi 48 x1 5) n9 (fun o2 o0=>gdK (dem n8) true (jl zi false 3 o2) o0 (fun o3 o5=>gdK (dem n8) true (zG zi 48 x1 3) o5 (fun o1 o7=>gdK (dem n8) true (jl zi false 3 o1) o7 (fun p0 o8=>gdK (dem n8) true (wH zi BinOp.lss 3 o3 p0) o8 (fun o4 o9=>zN (wW (dem n8) o4 (Value.bool false) o9) (fun p3 p2=>some ([x0,x1,p3,x3,dem x4,x5,x6,x7,x8,x9,c6,c7,c8,c9,d0,d1,d2,d3,d4,d5,d6,d7,d8,d9,f0,f1,f2,f3,f4,f5,f6,f7,f8,f9,g0,g1,g2,g3,g4,g5,g6,g7,g8,g9,i0,i1,i2,i3,i4,i5,i6,i7,i8,i9,j0,j1,j2,j3,j4,j5,c5,j6,j7,j8,j9,k0,k1,k2,k3,k4,k5,k6,k7,k8,k9,l0,l1,l2,l3,l4,l5,l6,l7,l8,l9,m0,m1,m2,m3,m4,m5,m6,m7,m8,m9,n0,n1,n2,n3,n4,b,c,d,f,g,i,k,l,m,n,o,p,q,r,s,t,u,w,x4,dem x4,dem v2,v3,dem v3,v5,v6,v7,v8,dem v8,n6,n7,n5,n8,dem n8,o2,o3,o1,p0,o4,dem p3,c4,V,W,X,Y,Z,a0,a1,a2,a3,a4,a5,a6,a7,a8,a9,b0,b1,b2,b3,b4,b5,b6,b7,b8,b9,c0,c1,c2,c3],p2)) ()) ()) ()) ()) ()) ()) ()) ()) ()) ()) ()) ()) ()) ()) ()) ()):=by
 refine sP Try.f34 15 0 (v:=x4) ?_
 refine sP Try.f34 15 1 (v:=x4) ?_
 refine sG Try.f34 15 2 (j:=1) (fun v2 S1=>?_)
 refine sD Try.f34 15 3 (fun v3 S2=>?_)
 refine sP Try.f34 15 4 (v:=v3) ?_
 refine sG Try.f34 15 5 (j:=4) (fun v5 S3=>?_)
 refine sG Try.f34 15 6 (j:=4) (fun v6 S4=>?_)
 refine sG Try.f34 15 7 (j:=4) (fun v7 S5=>?_)
 refine sD Try.f34 15 8 (fun v8 S6=>?_)
 refine sP Try.f34 15 9 (v:=v8) ?_
 refine sG Try.f34 15 10 (j:=9) (fun n6 S7=>?_)
 refine sG Try.f34 15 11 (j:=9) (fun n7 S8=>?_)
 refine sG Try.f34 15 12 (j:=9) (fun n5 S9=>?_)
 refine sD Try.f34 15 13 (fun n8 n9=>?_)
 refine sP Try.f34 15 14 (v:=n8) ?_
 refine sG Try.f34 15 15 (j:=14) (fun o2 o0=>?_)
 refine sG Try.f34 15 16 (j:=14) (fun o3 o5=>?_)
 refine sG Try.f34 15 17 (j:=14) (fun o1 o7=>?_)
 refine sG Try.f34 15 18 (j:=14) (fun p0 o8=>?_)
 refine sG Try.f34 15 19 (j:=14) (fun o4 o9=>?_)
 refine sD Try.f34 15 20 (fun p3 p2=>?_)
 refine sP Try.f34 15 21 (v:=p3) ?_
 kernel_rfl
theorem zu.r16 :jF zi ⟨false,false,false⟩ (jd zi O) (reg Try.f34 16) (reg Try.f34 16).toList ([x0,x1,x2,x3,x4,x5,x6,x7,x8,x9,c6,c7,c8,c9,d0,d1,d2,d3,d4,d5,d6,d7,d8,d9,f0,f1,f2,f3,f4,f5,f6,f7,f8,f9,g0,g1,g2,g3,g4,g5,g6,g7,g8,g9,i0,i1,i2,i3,i4,i5,i6,i7,i8,i9,j0,j1,j2,j3,j4,j5,c5,j6,j7,j8,j9,k0,k1,k2,k3,k4,k5,k6,k7,k8,k9,l0,l1,l2,l3,l4,l5,l6,l7,l8,l9,m0,m1,m2,m3,m4,m5,m6,m7,m8,m9,n0,n1,n2,n3,n4,b,c,d,f,g,i,k,l,m,n,o,p,q,r,s,t,u,w,x,y,z,A,B,C,D,E,F,G,H,I,J,K,L,M,N,P,Q,R,U,c4,V,W,X,Y,Z,a0,a1,a2,a3,a4,a5,a6,a7,a8,a9,b0,b1,b2,b3,b4,b5,b6,b7,b8,b9,c0,c1,c2,c3]) S =
  (zN (wH zi BinOp.eql 3 c5 (.int .i64 4) S) (fun v0 S1=>some ([x0,x1,x2,x3,x4,x5,x6,x7,x8,x9,c6,c7,c8,c9,d0,d1,d2,d3,d4,d5,d6,d7,d8,d9,f0,f1,f2,f3,f4,f5,f6,f7,f8,f9,g0,g1,g2,g3,g4,g5,g6,g7,g8,g9,i0,i1,i2,i3,i4,i5,i6,i7,i8,i9,j0,j1,j2,j3,j4,j5,c5,j6,j7,j8,j9,k0,k1,k2,k3,k4,k5,k6,k7,k8,k9,l0,l1,l2,l3,l4,l5,l6,l7,l8,l9,m0,m1,m2,m3,m4,m5,m6,m7,m8,m9,n0,n1,n2,n3,n4,b,c,d,f,g,i,k,l,m,n,o,p,q,r,s,t,u,w,x,y,z,A,B,C,D,E,F,G,H,I,J,K,L,M,N,P,Q,R,U,v0,dem v0,W,X,Y,Z,a0,a1,a2,a3,a4,a5,a6,a7,a8,a9,b0,b1,b2,b3,b4,b5,b6,b7,b8,b9,c0,c1,c2,c3],S1)) ()):=by
 kernel_rfl
theorem zu.r17 :jF zi ⟨false,false,false⟩ (jd zi O) (reg Try.f34 17) (reg Try.f34 17).toList ([x0,x1,x2,x3,x4,x5,x6,x7,x8,x9,c6,c7,c8,c9,d0,d1,d2,d3,d4,d5,d6,d7,d8,d9,f0,f1,f2,f3,f4,f5,f6,f7,f8,f9,g0,g1,g2,g3,g4,g5,g6,g7,g8,g9,i0,i1,i2,i3,i4,i5,i6,i7,i8,i9,j0,j1,j2,j3,j4,j5,c5,j6,j7,j8,j9,k0,k1,k2,k3,k4,k5,k6,k7,k8,k9,l0,l1,l2,l3,l4,l5,l6,l7,l8,l9,m0,m1,m2,m3,m4,m5,m6,m7,m8,m9,n0,n1,n2,n3,n4,b,c,d,f,g,i,k,l,m,n,o,p,q,r,s,t,u,w,x,y,z,A,B,C,D,E,F,G,H,I,J,K,L,M,N,P,Q,R,U,c4,V,W,X,Y,Z,a0,a1,a2,a3,a4,a5,a6,a7,a8,a9,b0,b1,b2,b3,b4,b5,b6,b7,b8,b9,c0,c1,c2,c3]) S =
  (zN (wH zi BinOp.eql 3 c5 (.int .i64 5) S) (fun v0 S1=>some ([x0,x1,x2,x3,x4,x5,x6,x7,x8,x9,c6,c7,c8,c9,d0,d1,d2,d3,d4,d5,d6,d7,d8,d9,f0,f1,f2,f3,f4,f5,f6,f7,f8,f9,g0,g1,g2,g3,g4,g5,g6,g7,g8,g9,i0,i1,i2,i3,i4,i5,i6,i7,i8,i9,j0,j1,j2,j3,j4,j5,c5,j6,j7,j8,j9,k0,k1,k2,k3,k4,k5,k6,k7,k8,k9,l0,l1,l2,l3,l4,l5,l6,l7,l8,l9,m0,m1,m2,m3,m4,m5,m6,m7,m8,m9,n0,n1,n2,n3,n4,b,c,d,f,g,i,k,l,m,n,o,p,q,r,s,t,u,w,x,y,z,A,B,C,D,E,F,G,H,I,J,K,L,M,N,P,Q,R,U,v0,V,dem v0,X,Y,Z,a0,a1,a2,a3,a4,a5,a6,a7,a8,a9,b0,b1,b2,b3,b4,b5,b6,b7,b8,b9,c0,c1,c2,c3],S1)) ()):=by
 kernel_rfl
theorem zu.r18 :jF zi ⟨false,false,false⟩ (jd zi O) (reg Try.f34 18) (reg Try.f34 18).toList ([x0,x1,x2,x3,x4,x5,x6,x7,x8,x9,c6,c7,c8,c9,d0,d1,d2,d3,d4,d5,d6,d7,d8,d9,f0,f1,f2,f3,f4,f5,f6,f7,f8,f9,g0,g1,g2,g3,g4,g5,g6,g7,g8,g9,i0,i1,i2,i3,i4,i5,i6,i7,i8,i9,j0,j1,j2,j3,j4,j5,c5,j6,j7,j8,j9,k0,k1,k2,k3,k4,k5,k6,k7,k8,k9,l0,l1,l2,l3,l4,l5,l6,l7,l8,l9,m0,m1,m2,m3,m4,m5,m6,m7,m8,m9,n0,n1,n2,n3,n4,b,c,d,f,g,i,k,l,m,n,o,p,q,r,s,t,u,w,x,y,z,A,B,C,D,E,F,G,H,I,J,K,L,M,N,P,Q,R,U,c4,V,W,X,Y,Z,a0,a1,a2,a3,a4,a5,a6,a7,a8,a9,b0,b1,b2,b3,b4,b5,b6,b7,b8,b9,c0,c1,c2,c3]) S =
  (gdK (dem x4) true (ret x3) S (fun v2 S1=>zN (wW (dem x4) (dem v2) (Value.bool false) S1) (fun v3 S2=>gdK (dem v3) true (zG zi 48 x1 4) S2 (fun v5 S3=>gdK (dem v3) true (jl zi false 3 v5) S3 (fun v6 S4=>gdK (dem v3) true (wH zi BinOp.eql 3 v6 (.int .i64 (-1))) S4 (fun v7 S5=>gdK (dem v3) true (ret v7) S5 (fun v8 S6=>gdK (dem v8) false (zG zi 48 x1 4) S6 (fun v9 S7=>gdK (dem v8) false (jl zi false 3 v9) S7 (fun n6 S8=>gdK (dem v8) false ((jd zi O) 53 [(dem n6)]) S8 (fun n7 S9=>gdK (dem v3) true (wW (dem v8) (Value.bool true) n7) S9 (fun n5 n9=>zN (wW (dem v3) n5 (Value.bool false) n9) (fun n8 o0=>some ([x0,x1,n8,x3,dem x4,x5,x6,x7,x8,x9,c6,c7,c8,c9,d0,d1,d2,d3,d4,d5,d6,d7,d8,d9,f0,f1,f2,f3,f4,f5,f6,f7,f8,f9,g0,g1,g2,g3,g4,g5,g6,g7,g8,g9,i0,i1,i2,i3,i4,i5,i6,i7,i8,i9,j0,j1,j2,j3,j4,j5,c5,j6,j7,j8,j9,k0,k1,k2,k3,k4,k5,k6,k7,k8,k9,l0,l1,l2,l3,l4,l5,l6,l7,l8,l9,m0,m1,m2,m3,m4,m5,m6,m7,m8,m9,n0,n1,n2,n3,n4,b,c,d,f,g,i,k,l,m,n,o,p,q,r,s,t,u,w,x,y,z,A,B,C,D,E,F,G,H,I,J,K,L,M,N,P,Q,R,U,c4,V,W,x4,dem x4,dem v2,v3,dem v3,v5,v6,v7,dem v8,v9,n6,n7,n5,dem n8,b1,b2,b3,b4,b5,b6,b7,b8,b9,c0,c1,c2,c3],o0)) ()) ()) ()) ()) ()) ()) ()) ()) ()) ()) ()):=by
 refine sP Try.f34 18 0 (v:=x4) ?_
 refine sP Try.f34 18 1 (v:=x4) ?_
 refine sG Try.f34 18 2 (j:=1) (fun v2 S1=>?_)
 refine sD Try.f34 18 3 (fun v3 S2=>?_)
 refine sP Try.f34 18 4 (v:=v3) ?_
 refine sG Try.f34 18 5 (j:=4) (fun v5 S3=>?_)
 refine sG Try.f34 18 6 (j:=4) (fun v6 S4=>?_)
 refine sG Try.f34 18 7 (j:=4) (fun v7 S5=>?_)
 refine sG Try.f34 18 8 (j:=4) (fun v8 S6=>?_)
 refine sG Try.f34 18 9 (j:=8) (fun v9 S7=>?_)
 refine sG Try.f34 18 10 (j:=8) (fun n6 S8=>?_)
 refine sG Try.f34 18 11 (j:=8) (fun n7 S9=>?_)
 refine sG Try.f34 18 12 (j:=4) (fun n5 n9=>?_)
 refine sD Try.f34 18 13 (fun n8 o0=>?_)
 refine sP Try.f34 18 14 (v:=n8) ?_
 kernel_rfl
theorem zu.r19 :jF zi ⟨false,false,false⟩ (jd zi O) (reg Try.f34 19) (reg Try.f34 19).toList ([x0,x1,x2,x3,x4,x5,x6,x7,x8,x9,c6,c7,c8,c9,d0,d1,d2,d3,d4,d5,d6,d7,d8,d9,f0,f1,f2,f3,f4,f5,f6,f7,f8,f9,g0,g1,g2,g3,g4,g5,g6,g7,g8,g9,i0,i1,i2,i3,i4,i5,i6,i7,i8,i9,j0,j1,j2,j3,j4,j5,c5,j6,j7,j8,j9,k0,k1,k2,k3,k4,k5,k6,k7,k8,k9,l0,l1,l2,l3,l4,l5,l6,l7,l8,l9,m0,m1,m2,m3,m4,m5,m6,m7,m8,m9,n0,n1,n2,n3,n4,b,c,d,f,g,i,k,l,m,n,o,p,q,r,s,t,u,w,x,y,z,A,B,C,D,E,F,G,H,I,J,K,L,M,N,P,Q,R,U,c4,V,W,X,Y,Z,a0,a1,a2,a3,a4,a5,a6,a7,a8,a9,b0,b1,b2,b3,b4,b5,b6,b7,b8,b9,c0,c1,c2,c3]) S =
  (zN (wH zi BinOp.eql 3 c5 (.int .i64 6) S) (fun v0 S1=>some ([x0,x1,x2,x3,x4,x5,x6,x7,x8,x9,c6,c7,c8,c9,d0,d1,d2,d3,d4,d5,d6,d7,d8,d9,f0,f1,f2,f3,f4,f5,f6,f7,f8,f9,g0,g1,g2,g3,g4,g5,g6,g7,g8,g9,i0,i1,i2,i3,i4,i5,i6,i7,i8,i9,j0,j1,j2,j3,j4,j5,c5,j6,j7,j8,j9,k0,k1,k2,k3,k4,k5,k6,k7,k8,k9,l0,l1,l2,l3,l4,l5,l6,l7,l8,l9,m0,m1,m2,m3,m4,m5,m6,m7,m8,m9,n0,n1,n2,n3,n4,b,c,d,f,g,i,k,l,m,n,o,p,q,r,s,t,u,w,x,y,z,A,B,C,D,E,F,G,H,I,J,K,L,M,N,P,Q,R,U,c4,V,W,X,Y,Z,a0,a1,a2,a3,a4,a5,a6,a7,a8,a9,b0,v0,dem v0,b3,b4,b5,b6,b7,b8,b9,c0,c1,c2,c3],S1)) ()):=by
 kernel_rfl
theorem zu.r20 :jF zi ⟨false,false,false⟩ (jd zi O) (reg Try.f34 20) (reg Try.f34 20).toList ([x0,x1,x2,x3,x4,x5,x6,x7,x8,x9,c6,c7,c8,c9,d0,d1,d2,d3,d4,d5,d6,d7,d8,d9,f0,f1,f2,f3,f4,f5,f6,f7,f8,f9,g0,g1,g2,g3,g4,g5,g6,g7,g8,g9,i0,i1,i2,i3,i4,i5,i6,i7,i8,i9,j0,j1,j2,j3,j4,j5,c5,j6,j7,j8,j9,k0,k1,k2,k3,k4,k5,k6,k7,k8,k9,l0,l1,l2,l3,l4,l5,l6,l7,l8,l9,m0,m1,m2,m3,m4,m5,m6,m7,m8,m9,n0,n1,n2,n3,n4,b,c,d,f,g,i,k,l,m,n,o,p,q,r,s,t,u,w,x,y,z,A,B,C,D,E,F,G,H,I,J,K,L,M,N,P,Q,R,U,c4,V,W,X,Y,Z,a0,a1,a2,a3,a4,a5,a6,a7,a8,a9,b0,b1,b2,b3,b4,b5,b6,b7,b8,b9,c0,c1,c2,c3]) S =
  (gdK (dem x4) true (zG zi 48 x1 3) S (fun v2 S1=>gdK (dem x4) true (jl zi false 3 v2) S1 (fun v3 S2=>gdK (dem x4) true (wH zi BinOp.eql 3 v3 (.int .i64 0)) S2 (fun v4 S3=>zN (wW (dem x4) v4 (Value.bool false) S3) (fun v5 S4=>gdK (dem v5) true (zG zi 48 x1 4) S4 (fun v7 S5=>gdK (dem v5) true (jl zi false 3 v7) S5 (fun v8 S6=>gdK (dem v5) true ((jd zi O) 53 [(dem v8)]) S6 (fun v9 S7=>zN (wW (dem v5) v9 (Value.bool false) S7) (fun n6 S8=>some ([x0,x1,n6,x3,dem x4,x5,x6,x7,x8,x9,c6,c7,c8,c9,d0,d1,d2,d3,d4,d5,d6,d7,d8,d9,f0,f1,f2,f3,f4,f5,f6,f7,f8,f9,g0,g1,g2,g3,g4,g5,g6,g7,g8,g9,i0,i1,i2,i3,i4,i5,i6,i7,i8,i9,j0,j1,j2,j3,j4,j5,c5,j6,j7,j8,j9,k0,k1,k2,k3,k4,k5,k6,k7,k8,k9,l0,l1,l2,l3,l4,l5,l6,l7,l8,l9,m0,m1,m2,m3,m4,m5,m6,m7,m8,m9,n0,n1,n2,n3,n4,b,c,d,f,g,i,k,l,m,n,o,p,q,r,s,t,u,w,x,y,z,A,B,C,D,E,F,G,H,I,J,K,L,M,N,P,Q,R,U,c4,V,W,X,Y,Z,a0,a1,a2,a3,a4,a5,a6,a7,a8,a9,b0,b1,b2,x4,dem x4,v2,v3,v4,v5,dem v5,v7,v8,v9,dem n6],S8)) ()) ()) ()) ()) ()) ()) ()) ()):=by
 refine sP Try.f34 20 0 (v:=x4) ?_
 refine sP Try.f34 20 1 (v:=x4) ?_
 refine sG Try.f34 20 2 (j:=1) (fun v2 S1=>?_)
 refine sG Try.f34 20 3 (j:=1) (fun v3 S2=>?_)
 refine sG Try.f34 20 4 (j:=1) (fun v4 S3=>?_)
 refine sD Try.f34 20 5 (fun v5 S4=>?_)
 refine sP Try.f34 20 6 (v:=v5) ?_
 refine sG Try.f34 20 7 (j:=6) (fun v7 S5=>?_)
 refine sG Try.f34 20 8 (j:=6) (fun v8 S6=>?_)
 refine sG Try.f34 20 9 (j:=6) (fun v9 S7=>?_)
 refine sD Try.f34 20 10 (fun n6 S8=>?_)
 refine sP Try.f34 20 11 (v:=n6) ?_
 kernel_rfl
theorem zu.r21 :jF zi ⟨false,false,false⟩ (jd zi O) (reg Try.f34 21) (reg Try.f34 21).toList ([x0,x1,x2,x3,x4,x5,x6,x7,x8,x9,c6,c7,c8,c9,d0,d1,d2,d3,d4,d5,d6,d7,d8,d9,f0,f1,f2,f3,f4,f5,f6,f7,f8,f9,g0,g1,g2,g3,g4,g5,g6,g7,g8,g9,i0,i1,i2,i3,i4,i5,i6,i7,i8,i9,j0,j1,j2,j3,j4,j5,c5,j6,j7,j8,j9,k0,k1,k2,k3,k4,k5,k6,k7,k8,k9,l0,l1,l2,l3,l4,l5,l6,l7,l8,l9,m0,m1,m2,m3,m4,m5,m6,m7,m8,m9,n0,n1,n2,n3,n4,b,c,d,f,g,i,k,l,m,n,o,p,q,r,s,t,u,w,x,y,z,A,B,C,D,E,F,G,H,I,J,K,L,M,N,P,Q,R,U,c4,V,W,X,Y,Z,a0,a1,a2,a3,a4,a5,a6,a7,a8,a9,b0,b1,b2,b3,b4,b5,b6,b7,b8,b9,c0,c1,c2,c3]) S =
  ( some ([x0,x1,Value.bool false,x3,x4,x5,x6,x7,x8,x9,c6,c7,c8,c9,d0,d1,d2,d3,d4,d5,d6,d7,d8,d9,f0,f1,f2,f3,f4,f5,f6,f7,f8,f9,g0,g1,g2,g3,g4,g5,g6,g7,g8,g9,i0,i1,i2,i3,i4,i5,i6,i7,i8,i9,j0,j1,j2,j3,j4,j5,c5,j6,j7,j8,j9,k0,k1,k2,k3,k4,k5,k6,k7,k8,k9,l0,l1,l2,l3,l4,l5,l6,l7,l8,l9,m0,m1,m2,m3,m4,m5,m6,m7,m8,m9,n0,n1,n2,n3,n4,b,c,d,f,g,i,k,l,m,n,o,p,q,r,s,t,u,w,x,y,z,A,B,C,D,E,F,G,H,I,J,K,L,M,N,P,Q,R,U,c4,V,W,X,Y,Z,a0,a1,a2,a3,a4,a5,a6,a7,a8,a9,b0,b1,b2,b3,b4,b5,b6,b7,b8,b9,c0,c1,c2,c3],S)):=by
 kernel_rfl
theorem zu.rs:type_of% (alY @zu.r0 (alY @zu.r1 (alY @zu.r2 (alY @zu.r3 (alY @zu.r4 (alY @zu.r5 (alY @zu.r6 (alY @zu.r7 (alY @zu.r8 (alY @zu.r9 (alY @zu.r10 (alY @zu.r11 (alY @zu.r12 (alY @zu.r13 (alY @zu.r14 (alY @zu.r15 (alY @zu.r16 (alY @zu.r17 (alY @zu.r18 (alY @zu.r19 (alY @zu.r20 (@zu.r21)))))))))))))))))))))):=alY @zu.r0 (alY @zu.r1 (alY @zu.r2 (alY @zu.r3 (alY @zu.r4 (alY @zu.r5 (alY @zu.r6 (alY @zu.r7 (alY @zu.r8 (alY @zu.r9 (alY @zu.r10 (alY @zu.r11 (alY @zu.r12 (alY @zu.r13 (alY @zu.r14 (alY @zu.r15 (alY @zu.r16 (alY @zu.r17 (alY @zu.r18 (alY @zu.r19 (alY @zu.r20 (@zu.r21)))))))))))))))))))))
theorem zu.runs {x0:Value} {S S1:zx} {e:AEx} {T:List Value} (h:zL zi O false zu.code ([x0,zh,zh,zh,zh,zh,zh,zh,zh,zh,zh,zh,zh,zh,zh,zh,zh,zh,zh,zh,zh,zh,zh,zh,zh,zh,zh,zh,zh,zh,zh,zh,zh,zh,zh,zh,zh,zh,zh,zh,zh,zh,zh,zh,zh,zh,zh,zh,zh,zh,zh,zh,zh,zh,zh,zh,zh,zh,zh,zh,zh,zh,zh,zh,zh,zh,zh,zh,zh,zh,zh,zh,zh,zh,zh,zh,zh,zh,zh,zh,zh,zh,zh,zh,zh,zh,zh,zh,zh,zh,zh,zh,zh,zh,zh,zh,zh,zh,zh,zh,zh,zh,zh,zh,zh,zh,zh,zh,zh,zh,zh,zh,zh,zh,zh,zh,zh,zh,zh,zh,zh,zh,zh,zh,zh,zh,zh,zh,zh,zh,zh,zh,zh,zh,zh,zh,zh,zh,zh,zh,zh,zh,zh,zh,zh,zh,zh,zh,zh,zh,zh,zh,zh,zh,zh,zh,zh,zh,zh,zh,zh,zh,zh,zh,zh,zh,zh,zh,zh]) zx.empty=some (e,T,S1)) (he:e=.normal∨e=.ret) (hca:[x0].all (jL 16)=true) (hcv:jL 16 (T.getD 2 zh)=true):jd zi O 34 [x0] S=some (T.getD 2 zh,S) :=
 yD rfl rfl Try.func34 (by decide) zu.body (by exact h) he (yG (a:=T.getD 2 zh) ((show zQ zi T S1 Try.f34.results.toList=zQ zi T S1 [(ResultVar.tmp 2)] from by kernel_rfl).trans (by simp only [zQ])) (by kernel_rfl)) hca hcv
end Go.Proofs.Ytfjogganfjkckaa
namespace Go.Proofs.Ytfjogganfjkckaa
open Go.Abs
abbrev jJ.id:FuncId:=53
noncomputable def jJ.code:Code:=(.seq (.region 0 (reg Try.f53 0) false) (.seq (.region 1 (reg Try.f53 1) false) (.seq (.region 2 (reg Try.f53 2) false) Code.ret)))
theorem jJ.body:Try.f53.body=some jJ.code:=by kernel_rfl
variable (b r B u w x s y z A f g i k l m n o p:Value) (S:zx)
theorem jJ.r0 :jF zi ⟨false,false,false⟩ (jd zi O) (reg Try.f53 0) (reg Try.f53 0).toList ([b,r,B,u,w,x,s,y,z,A,f,g,i,k,l,m,n,o,p]) S =
  ( some ([b,r,Value.bool false,u,w,x,s,y,z,A,f,g,i,k,l,m,n,o,p],S)):=by
 kernel_rfl
theorem jJ.r1 :jF zi ⟨false,false,false⟩ (jd zi O) (reg Try.f53 1) (reg Try.f53 1).toList ([b,r,B,u,w,x,s,y,z,A,f,g,i,k,l,m,n,o,p]) S =
  (zN ((jd zi O) 51 [(dem (dem b))] S) (fun c d=>zN (zZ c 0 d) (fun t C=>zN (zZ (zV 0 c) 1 C) (fun q D=>zN (zZ (zV 1 (zV 0 c)) 2 D) (fun E G=>zN (zZ (zV 2 (zV 1 (zV 0 c))) 3 G) (fun F H=>some ([b,r,B,t,q,E,F,zV 3 (zV 2 (zV 1 (zV 0 c))),dem b,dem c,dem t,dem q,dem E,dem F,l,m,n,o,p],H)) ()) ()) ()) ()) ()):=by
 kernel_rfl
theorem jJ.r2 :jF zi ⟨false,false,false⟩ (jd zi O) (reg Try.f53 2) (reg Try.f53 2).toList ([b,r,B,u,w,x,s,y,z,A,f,g,i,k,l,m,n,o,p]) S =
  (zN (wH zi BinOp.eql 3 (dem b) (.int .i64 0) S) (fun c d=>gdK (dem c) false (ret s) d (fun t C=>zN (wW (dem c) (Value.bool true) (dem t) C) (fun q D=>some ([b,r,q,u,w,x,s,y,z,A,f,g,i,k,dem b,c,dem c,dem t,dem q],D)) ()) ()) ()):=by
 refine sP Try.f53 2 0 (v:=b) ?_
 refine sD Try.f53 2 1 (fun c d=>?_)
 refine sP Try.f53 2 2 (v:=c) ?_
 refine sG Try.f53 2 3 (j:=2) (fun t C=>?_)
 refine sD Try.f53 2 4 (fun q D=>?_)
 refine sP Try.f53 2 5 (v:=q) ?_
 kernel_rfl
theorem jJ.rs:type_of% (alY @jJ.r0 (alY @jJ.r1 (@jJ.r2))):=alY @jJ.r0 (alY @jJ.r1 (@jJ.r2))
theorem jJ.runs {b:Value} {S d:zx} {e:AEx} {T:List Value} (h:zL zi O false jJ.code ([b,zh,zh,zh,zh,zh,zh,zh,zh,zh,zh,zh,zh,zh,zh,zh,zh,zh,zh]) S=some (e,T,d)) (he:e=.normal∨e=.ret):jd zi O 53 [b] S=some (T.getD 2 zh,d) :=
 yK rfl rfl Try.func53 (by decide) jJ.body (by exact h) he (yG (a:=T.getD 2 zh) ((show zQ zi T d Try.f53.results.toList=zQ zi T d [(ResultVar.tmp 2)] from by kernel_rfl).trans (by simp only [zQ])) (by kernel_rfl))
end Go.Proofs.Ytfjogganfjkckaa
namespace Go.Proofs.Ytfjogganfjkckaa
open Go.Abs
abbrev jK.id:FuncId:=52
noncomputable def jK.code:Code:=(.seq (.region 0 (reg Try.f52 0) false) (.seq (.region 1 (reg Try.f52 1) false) Code.ret))
theorem jK.body:Try.f52.body=some jK.code:=by kernel_rfl
variable (b d k g i j:Value) (S:zx)
theorem jK.r0 :jF zi ⟨false,false,false⟩ (jd zi O) (reg Try.f52 0) (reg Try.f52 0).toList ([b,d,k,g,i,j]) S =
  (zN (JK (dem b) S) (fun f c=>some ([b,f,Value.bool false,g,i,j],c)) ()):=by
 kernel_rfl
theorem jK.r1 :jF zi ⟨false,false,false⟩ (jd zi O) (reg Try.f52 1) (reg Try.f52 1).toList ([b,d,k,g,i,j]) S =
  (zN (jl zi false 46 d S) (fun f c=>zN (yw zi 46 [] c) (fun l n=>zN ((jd zi O) 18 [(dem f),(dem l)] n) (fun m o=>some ([b,d,m,f,l,dem m],o)) ()) ()) ()):=by
 kernel_rfl
theorem jK.rs:type_of% (alY @jK.r0 (@jK.r1)):=alY @jK.r0 (@jK.r1)
theorem jK.runs {b:Value} {S c:zx} {e:AEx} {T:List Value} (h:zL zi O false jK.code ([b,zh,zh,zh,zh,zh]) zx.empty=some (e,T,c)) (he:e=.normal∨e=.ret) (hca:[b].all (jL 16)=true) (hcv:jL 16 (T.getD 2 zh)=true):jd zi O 52 [b] S=some (T.getD 2 zh,S) :=
 yD rfl rfl Try.func52 (by decide) jK.body (by exact h) he (yG (a:=T.getD 2 zh) ((show zQ zi T c Try.f52.results.toList=zQ zi T c [(ResultVar.tmp 2)] from by kernel_rfl).trans (by simp only [zQ])) (by kernel_rfl)) hca hcv
end Go.Proofs.Ytfjogganfjkckaa
namespace Go.Proofs.Ytfjogganfjkckaa
open Go.Abs
abbrev jv.id:FuncId:=67
noncomputable def jv.code:Code:=(.seq (.region 0 (reg Try.f67 0) false) (.seq (.region 1 (reg Try.f67 1) false) (.seq (.seq (.region 2 (reg Try.f67 2) false) (.block 0 (.seq (.block 6 (.seq (.block 5 (.seq (.block 4 (.seq (.block 3 (.seq (.block 2 (.seq (.block 1 (.seq (.seq (.seq (.region 3 (reg Try.f67 3) false) (.cond (.tmp 11) (.exit 1) Code.skip)) (.seq (.seq (.region 4 (reg Try.f67 4) false) (.cond (.tmp 13) (.exit 2) Code.skip)) (.seq (.seq (.region 5 (reg Try.f67 5) false) (.cond (.tmp 15) (.exit 3) Code.skip)) (.seq (.seq (.region 6 (reg Try.f67 6) false) (.cond (.tmp 17) (.exit 4) Code.skip)) (.seq (.seq (.seq (.region 7 (reg Try.f67 7) false) (.cond (.tmp 19) Code.skip (.region 8 (reg Try.f67 8) false))) (.cond (.tmp 19) (.exit 5) Code.skip)) (.seq (.region 9 (reg Try.f67 9) false) (.cond (.tmp 22) (.exit 6) Code.skip))))))) (.exit 0))) (.seq (.region 10 (reg Try.f67 10) false) (.exit 0)))) (.seq (.region 11 (reg Try.f67 11) false) (.exit 0)))) (.seq (.region 12 (reg Try.f67 12) false) (.exit 0)))) (.region 13 (reg Try.f67 13) false))) (.region 14 (reg Try.f67 14) false))) (.seq (.region 15 (reg Try.f67 15) true) (.exit 0))))) (.seq (.region 16 (reg Try.f67 16) false) Code.ret))))
theorem jv.body:Try.f67.body=some jv.code:=by kernel_rfl
variable (U P V Q W X Y Z x8 x9 b d f g i j k l m N n o p q r s t u v w x y z A B C D E F G H I J K L M:Value) (S:zx)
theorem jv.r0 :jF zi ⟨false,false,false⟩ (jd zi O) (reg Try.f67 0) (reg Try.f67 0).toList ([U,P,V,Q,W,X,Y,Z,x8,x9,b,d,f,g,i,j,k,l,m,N,n,o,p,q,r,s,t,u,v,w,x,y,z,A,B,C,D,E,F,G,H,I,J,K,L,M]) S =
  (zN (JK (dem U) S) (fun c R=>zN (yR zi 48 R) (fun v1 S2=>some ([U,c,v1,Q,W,X,Y,Z,x8,x9,b,d,f,g,i,j,k,l,m,N,n,o,p,q,r,s,t,u,v,w,x,y,z,A,B,C,D,E,F,G,H,I,J,K,L,M],S2)) ()) ()):=by
 kernel_rfl
theorem jv.r1 :jF zi ⟨false,false,false⟩ (jd zi O) (reg Try.f67 1) (reg Try.f67 1).toList ([U,P,V,Q,W,X,Y,Z,x8,x9,b,d,f,g,i,j,k,l,m,N,n,o,p,q,r,s,t,u,v,w,x,y,z,A,B,C,D,E,F,G,H,I,J,K,L,M]) S =
  (zN (zG zi 48 P 0 S) (fun c R=>zN (jl zi false 3 c R) (fun v1 S2=>zN (zG zi 48 P 1 S2) (fun v2 S3=>zN (jl zi false 3 v2 S3) (fun v3 S4=>zN (yw zi 48 [(0,(dem v1)),(1,(dem v3))] S4) (fun v4 S5=>zN (yR zi 48 S5) (fun v5 S6=>zN (wS zi 48 v5 (dem v4) S6) (fun v6 S7=>some ([U,P,V,v5,c,v1,v2,v3,v4,x9,b,d,f,g,i,j,k,l,m,N,n,o,p,q,r,s,t,u,v,w,x,y,z,A,B,C,D,E,F,G,H,I,J,K,L,M],S7)) ()) ()) ()) ()) ()) ()) ()):=by
 kernel_rfl
theorem jv.r2 :jF zi ⟨false,false,false⟩ (jd zi O) (reg Try.f67 2) (reg Try.f67 2).toList ([U,P,V,Q,W,X,Y,Z,x8,x9,b,d,f,g,i,j,k,l,m,N,n,o,p,q,r,s,t,u,v,w,x,y,z,A,B,C,D,E,F,G,H,I,J,K,L,M]) S =
  (zN (zG zi 48 P 0 S) (fun c R=>zN (jl zi false 3 c R) (fun v1 S2=>some ([U,P,V,Q,W,X,Y,Z,x8,c,v1,d,f,g,i,j,k,l,m,N,n,o,p,q,r,s,t,u,v,w,x,y,z,A,B,C,D,E,F,G,H,I,J,K,L,M],S2)) ()) ()):=by
 kernel_rfl
theorem jv.r3 :jF zi ⟨false,false,false⟩ (jd zi O) (reg Try.f67 3) (reg Try.f67 3).toList ([U,P,V,Q,W,X,Y,Z,x8,x9,b,d,f,g,i,j,k,l,m,N,n,o,p,q,r,s,t,u,v,w,x,y,z,A,B,C,D,E,F,G,H,I,J,K,L,M]) S =
  (zN (wH zi BinOp.eql 3 b (.int .i64 0) S) (fun c R=>some ([U,P,V,Q,W,X,Y,Z,x8,x9,b,c,dem c,g,i,j,k,l,m,N,n,o,p,q,r,s,t,u,v,w,x,y,z,A,B,C,D,E,F,G,H,I,J,K,L,M],R)) ()):=by
 kernel_rfl
theorem jv.r4 :jF zi ⟨false,false,false⟩ (jd zi O) (reg Try.f67 4) (reg Try.f67 4).toList ([U,P,V,Q,W,X,Y,Z,x8,x9,b,d,f,g,i,j,k,l,m,N,n,o,p,q,r,s,t,u,v,w,x,y,z,A,B,C,D,E,F,G,H,I,J,K,L,M]) S =
  (zN (wH zi BinOp.eql 3 b (.int .i64 1) S) (fun c R=>some ([U,P,V,Q,W,X,Y,Z,x8,x9,b,d,f,c,dem c,j,k,l,m,N,n,o,p,q,r,s,t,u,v,w,x,y,z,A,B,C,D,E,F,G,H,I,J,K,L,M],R)) ()):=by
 kernel_rfl
theorem jv.r5 :jF zi ⟨false,false,false⟩ (jd zi O) (reg Try.f67 5) (reg Try.f67 5).toList ([U,P,V,Q,W,X,Y,Z,x8,x9,b,d,f,g,i,j,k,l,m,N,n,o,p,q,r,s,t,u,v,w,x,y,z,A,B,C,D,E,F,G,H,I,J,K,L,M]) S =
  (zN (wH zi BinOp.eql 3 b (.int .i64 2) S) (fun c R=>some ([U,P,V,Q,W,X,Y,Z,x8,x9,b,d,f,g,i,c,dem c,l,m,N,n,o,p,q,r,s,t,u,v,w,x,y,z,A,B,C,D,E,F,G,H,I,J,K,L,M],R)) ()):=by
 kernel_rfl
theorem jv.r6 :jF zi ⟨false,false,false⟩ (jd zi O) (reg Try.f67 6) (reg Try.f67 6).toList ([U,P,V,Q,W,X,Y,Z,x8,x9,b,d,f,g,i,j,k,l,m,N,n,o,p,q,r,s,t,u,v,w,x,y,z,A,B,C,D,E,F,G,H,I,J,K,L,M]) S =
  (zN (wH zi BinOp.eql 3 b (.int .i64 3) S) (fun c R=>some ([U,P,V,Q,W,X,Y,Z,x8,x9,b,d,f,g,i,j,k,c,dem c,N,n,o,p,q,r,s,t,u,v,w,x,y,z,A,B,C,D,E,F,G,H,I,J,K,L,M],R)) ()):=by
 kernel_rfl
theorem jv.r7 :jF zi ⟨false,false,false⟩ (jd zi O) (reg Try.f67 7) (reg Try.f67 7).toList ([U,P,V,Q,W,X,Y,Z,x8,x9,b,d,f,g,i,j,k,l,m,N,n,o,p,q,r,s,t,u,v,w,x,y,z,A,B,C,D,E,F,G,H,I,J,K,L,M]) S =
  (zN (wH zi BinOp.eql 3 b (.int .i64 4) S) (fun c R=>some ([U,P,V,Q,W,X,Y,Z,x8,x9,b,d,f,g,i,j,k,l,m,c,dem c,o,p,q,r,s,t,u,v,w,x,y,z,A,B,C,D,E,F,G,H,I,J,K,L,M],R)) ()):=by
 kernel_rfl
theorem jv.r8 :jF zi ⟨false,false,false⟩ (jd zi O) (reg Try.f67 8) (reg Try.f67 8).toList ([U,P,V,Q,W,X,Y,Z,x8,x9,b,d,f,g,i,j,k,l,m,N,n,o,p,q,r,s,t,u,v,w,x,y,z,A,B,C,D,E,F,G,H,I,J,K,L,M]) S =
  (zN (wH zi BinOp.eql 3 b (.int .i64 5) S) (fun c R=>some ([U,P,V,Q,W,X,Y,Z,x8,x9,b,d,f,g,i,j,k,l,m,c,n,dem c,p,q,r,s,t,u,v,w,x,y,z,A,B,C,D,E,F,G,H,I,J,K,L,M],R)) ()):=by
 kernel_rfl
theorem jv.r9 :jF zi ⟨false,false,false⟩ (jd zi O) (reg Try.f67 9) (reg Try.f67 9).toList ([U,P,V,Q,W,X,Y,Z,x8,x9,b,d,f,g,i,j,k,l,m,N,n,o,p,q,r,s,t,u,v,w,x,y,z,A,B,C,D,E,F,G,H,I,J,K,L,M]) S =
  (zN (wH zi BinOp.eql 3 b (.int .i64 6) S) (fun c R=>some ([U,P,V,Q,W,X,Y,Z,x8,x9,b,d,f,g,i,j,k,l,m,N,n,o,c,dem c,r,s,t,u,v,w,x,y,z,A,B,C,D,E,F,G,H,I,J,K,L,M],R)) ()):=by
 kernel_rfl
theorem jv.r10 :jF zi ⟨false,false,false⟩ (jd zi O) (reg Try.f67 10) (reg Try.f67 10).toList ([U,P,V,Q,W,X,Y,Z,x8,x9,b,d,f,g,i,j,k,l,m,N,n,o,p,q,r,s,t,u,v,w,x,y,z,A,B,C,D,E,F,G,H,I,J,K,L,M]) S =
  (zN (zG zi 48 P 6 S) (fun c R=>zN (jl zi false 43 c R) (fun v1 S2=>zN (zG zi 48 Q 6 S2) (fun v2 S3=>zN (wS zi 43 v2 (dem v1) S3) (fun v3 S4=>some ([U,P,V,Q,W,X,Y,Z,x8,x9,b,d,f,g,i,j,k,l,m,N,n,o,p,q,c,v1,v2,u,v,w,x,y,z,A,B,C,D,E,F,G,H,I,J,K,L,M],S4)) ()) ()) ()) ()):=by
 kernel_rfl
theorem jv.r11 :jF zi ⟨false,false,false⟩ (jd zi O) (reg Try.f67 11) (reg Try.f67 11).toList ([U,P,V,Q,W,X,Y,Z,x8,x9,b,d,f,g,i,j,k,l,m,N,n,o,p,q,r,s,t,u,v,w,x,y,z,A,B,C,D,E,F,G,H,I,J,K,L,M]) S =
  (zN (zG zi 48 P 7 S) (fun c R=>zN (jl zi false 46 c R) (fun v1 S2=>zN (zG zi 48 Q 7 S2) (fun v2 S3=>zN (wS zi 46 v2 (dem v1) S3) (fun v3 S4=>some ([U,P,V,Q,W,X,Y,Z,x8,x9,b,d,f,g,i,j,k,l,m,N,n,o,p,q,r,s,t,c,v1,v2,x,y,z,A,B,C,D,E,F,G,H,I,J,K,L,M],S4)) ()) ()) ()) ()):=by
 kernel_rfl
theorem jv.r12 :jF zi ⟨false,false,false⟩ (jd zi O) (reg Try.f67 12) (reg Try.f67 12).toList ([U,P,V,Q,W,X,Y,Z,x8,x9,b,d,f,g,i,j,k,l,m,N,n,o,p,q,r,s,t,u,v,w,x,y,z,A,B,C,D,E,F,G,H,I,J,K,L,M]) S =
  (zN (zG zi 48 P 4 S) (fun c R=>zN (jl zi false 3 c R) (fun v1 S2=>zN (zG zi 48 Q 4 S2) (fun v2 S3=>zN (wS zi 3 v2 (dem v1) S3) (fun v3 S4=>some ([U,P,V,Q,W,X,Y,Z,x8,x9,b,d,f,g,i,j,k,l,m,N,n,o,p,q,r,s,t,u,v,w,c,v1,v2,A,B,C,D,E,F,G,H,I,J,K,L,M],S4)) ()) ()) ()) ()):=by
 kernel_rfl
theorem jv.r13 :jF zi ⟨false,false,false⟩ (jd zi O) (reg Try.f67 13) (reg Try.f67 13).toList ([U,P,V,Q,W,X,Y,Z,x8,x9,b,d,f,g,i,j,k,l,m,N,n,o,p,q,r,s,t,u,v,w,x,y,z,A,B,C,D,E,F,G,H,I,J,K,L,M]) S =
  (zN (zG zi 48 P 5 S) (fun c R=>zN (jl zi false 3 c R) (fun v1 S2=>zN (zG zi 48 Q 5 S2) (fun v2 S3=>zN (wS zi 3 v2 (dem v1) S3) (fun v3 S4=>some ([U,P,V,Q,W,X,Y,Z,x8,x9,b,d,f,g,i,j,k,l,m,N,n,o,p,q,r,s,t,u,v,w,x,y,z,c,v1,v2,D,E,F,G,H,I,J,K,L,M],S4)) ()) ()) ()) ()):=by
 kernel_rfl
theorem jv.r14 :jF zi ⟨false,false,false⟩ (jd zi O) (reg Try.f67 14) (reg Try.f67 14).toList ([U,P,V,Q,W,X,Y,Z,x8,x9,b,d,f,g,i,j,k,l,m,N,n,o,p,q,r,s,t,u,v,w,x,y,z,A,B,C,D,E,F,G,H,I,J,K,L,M]) S =
  (zN (zG zi 48 P 3 S) (fun c R=>zN (jl zi false 3 c R) (fun v1 S2=>zN (zG zi 48 Q 3 S2) (fun v2 S3=>zN (wS zi 3 v2 (dem v1) S3) (fun v3 S4=>some ([U,P,V,Q,W,X,Y,Z,x8,x9,b,d,f,g,i,j,k,l,m,N,n,o,p,q,r,s,t,u,v,w,x,y,z,A,B,C,c,v1,v2,G,H,I,J,K,L,M],S4)) ()) ()) ()) ()):=by
 kernel_rfl
theorem jv.d15:kC zi (reg Try.f67 15)=true:=by kernel_rfl
theorem jv.alU:fixed zi (reg Try.f67 15)=false:=by kernel_rfl
theorem jv.k15:checked zi (reg Try.f67 15)=[2,3]:=by kernel_rfl
theorem jv.g15:again zi (reg Try.f67 15)=[(3,5)]:=by kernel_rfl
theorem jv.r15 :zL zi O false (.region 15 (reg Try.f67 15) true) ([U,P,V,Q,W,X,Y,Z,x8,x9,b,d,f,g,i,j,k,l,m,N,n,o,p,q,r,s,t,u,v,w,x,y,z,A,B,C,D,E,F,G,H,I,J,K,L,M]) S =
  Z8 (zN (zG zi 48 P 2 S) (fun c R=>zN (jl zi false 3 c R) (fun v1 S2=>zN (zG zi 48 P 4 S2) (fun v2 S3=>okK v2 ( zN (jl zi false 3 v2 S3) (fun v3 S4=>okK v3 ( zN (zG zi 48 Q 2 S4) (fun v4 S5=>zN (wS zi 3 v4 (dem v1) S5) (fun v5 S6=>zN (zG zi 48 Q 4 S6) (fun v6 S7=>zN (wS zi 3 v6 (dem v3) S7) (fun v7 S8=>ckK (qV v2 S3 S6 && (true)) (some ([U,P,V,Q,W,X,Y,Z,x8,x9,b,d,f,g,i,j,k,l,m,N,n,o,p,q,r,s,t,u,v,w,x,y,z,A,B,C,D,E,F,c,v1,v2,v3,v4,v6,M],S8)) ()) ()) ()) ()) ()) ()) ()) ()) ()) ()) ()):=by
 rw [yM jv.d15 jv.alU jv.k15 jv.g15]
 refine congrArg Z8 ?_
 refine uD Try.f67 15 0 (pe:=zh) (fun c R=>?_)
 refine uD Try.f67 15 1 (pe:=c) (fun v1 S2=>?_)
 refine uDC Try.f67 15 2 (pe:=zh) (fun v2 S3=>?_)
 refine uDC Try.f67 15 3 (pe:=v2) (fun v3 S4=>?_)
 refine uD Try.f67 15 4 (pe:=zh) (fun v4 S5=>?_)
 refine uD Try.f67 15 5 (pe:=zh) (fun v5 S6=>?_)
 refine uD Try.f67 15 6 (pe:=zh) (fun v6 S7=>?_)
 refine uD Try.f67 15 7 (pe:=zh) (fun v7 S8=>?_)
 kernel_rfl
theorem jv.r16 :jF zi ⟨false,false,false⟩ (jd zi O) (reg Try.f67 16) (reg Try.f67 16).toList ([U,P,V,Q,W,X,Y,Z,x8,x9,b,d,f,g,i,j,k,l,m,N,n,o,p,q,r,s,t,u,v,w,x,y,z,A,B,C,D,E,F,G,H,I,J,K,L,M]) S =
  (zN (jl zi false 48 Q S) (fun c R=>zN (wS zi 48 V (dem c) R) (fun v1 S2=>some ([U,P,V,Q,W,X,Y,Z,x8,x9,b,d,f,g,i,j,k,l,m,N,n,o,p,q,r,s,t,u,v,w,x,y,z,A,B,C,D,E,F,G,H,I,J,K,L,c],S2)) ()) ()):=by
 kernel_rfl
theorem jv.rs:type_of% (alY @jv.r0 (alY @jv.r1 (alY @jv.r2 (alY @jv.r3 (alY @jv.r4 (alY @jv.r5 (alY @jv.r6 (alY @jv.r7 (alY @jv.r8 (alY @jv.r9 (alY @jv.r10 (alY @jv.r11 (alY @jv.r12 (alY @jv.r13 (alY @jv.r14 (alY @jv.r15 (@jv.r16))))))))))))))))):=alY @jv.r0 (alY @jv.r1 (alY @jv.r2 (alY @jv.r3 (alY @jv.r4 (alY @jv.r5 (alY @jv.r6 (alY @jv.r7 (alY @jv.r8 (alY @jv.r9 (alY @jv.r10 (alY @jv.r11 (alY @jv.r12 (alY @jv.r13 (alY @jv.r14 (alY @jv.r15 (@jv.r16))))))))))))))))
theorem jv.runs {U:Value} {S R:zx} {e:AEx} {T:List Value} (h:zL zi O false jv.code ([U,zh,zh,zh,zh,zh,zh,zh,zh,zh,zh,zh,zh,zh,zh,zh,zh,zh,zh,zh,zh,zh,zh,zh,zh,zh,zh,zh,zh,zh,zh,zh,zh,zh,zh,zh,zh,zh,zh,zh,zh,zh,zh,zh,zh,zh]) zx.empty=some (e,T,R)) (he:e=.normal∨e=.ret) {w0:Value} (c0:jl zi false 48 (T.getD 2 zh) R=some (w0,R)) (hca:[U].all (jL 16)=true) (hcv:jL 16 (w0)=true):jd zi O 67 [U] S=some (w0,S) :=
 yD rfl rfl Try.func67 (by decide) jv.body (by exact h) he (yG (a:=w0) ((show zQ zi T R Try.f67.results.toList=zQ zi T R [(ResultVar.cell 2 48)] from by kernel_rfl).trans (by simp only [zQ,c0])) (by kernel_rfl)) hca hcv
end Go.Proofs.Ytfjogganfjkckaa
namespace Go.Proofs.Ytfjogganfjkckaa
open Go.Abs
abbrev wX.id:FuncId:=66
noncomputable def wX.code:Code:=(.seq (.region 0 (reg Try.f66 0) false) (.seq (.region 1 (reg Try.f66 1) false) (.seq (.region 2 (reg Try.f66 2) false) Code.ret)))
theorem wX.body:Try.f66.body=some wX.code:=by kernel_rfl
variable (o p l m x4 g x6 x7 x8 x9 z A B C D E F G H I J K L M N P Q R U V W X Y Z a0 a1 a2 a3 a4 a5 a6 a7 a8 a9 b0 b1 b2 b3 b4 b5 b6 b7 b8 b9 c0 c1 c2 c3 c4 c5 c6:Value) (S:zx)
theorem wX.r0 :jF zi ⟨false,false,false⟩ (jd zi O) (reg Try.f66 0) (reg Try.f66 0).toList ([o,p,l,m,x4,g,x6,x7,x8,x9,z,A,B,C,D,E,F,G,H,I,J,K,L,M,N,P,Q,R,U,V,W,X,Y,Z,a0,a1,a2,a3,a4,a5,a6,a7,a8,a9,b0,b1,b2,b3,b4,b5,b6,b7,b8,b9,c0,c1,c2,c3,c4,c5,c6]) S =
  (zN (JK (dem o) S) (fun v0 q=>zN (JK (dem p) q) (fun v1 S2=>some ([o,p,v0,v1,Value.bool false,g,x6,x7,x8,x9,z,A,B,C,D,E,F,G,H,I,J,K,L,M,N,P,Q,R,U,V,W,X,Y,Z,a0,a1,a2,a3,a4,a5,a6,a7,a8,a9,b0,b1,b2,b3,b4,b5,b6,b7,b8,b9,c0,c1,c2,c3,c4,c5,c6],S2)) ()) ()):=by
 kernel_rfl
theorem wX.r1 :jF zi ⟨false,false,false⟩ (jd zi O) (reg Try.f66 1) (reg Try.f66 1).toList ([o,p,l,m,x4,g,x6,x7,x8,x9,z,A,B,C,D,E,F,G,H,I,J,K,L,M,N,P,Q,R,U,V,W,X,Y,Z,a0,a1,a2,a3,a4,a5,a6,a7,a8,a9,b0,b1,b2,b3,b4,b5,b6,b7,b8,b9,c0,c1,c2,c3,c4,c5,c6]) S =
  (zN (zG zi 48 l 0 S) (fun v0 q=>zN (jl zi false 3 v0 q) (fun v1 S2=>zN (zG zi 48 m 0 S2) (fun v2 S3=>zN (jl zi false 3 v2 S3) (fun v3 S4=>zN (wH zi BinOp.eql 3 v1 v3 S4) (fun i S5=>gdK (dem i) true (zG zi 48 l 1) S5 (fun v6 S6=>gdK (dem i) true (jl zi false 3 v6) S6 (fun k S7=>gdK (dem i) true (zG zi 48 m 1) S7 (fun v8 S8=>gdK (dem i) true (jl zi false 3 v8) S8 (fun v9 S9=>gdK (dem i) true (wH zi BinOp.eql 3 k v9) S9 (fun r c7=>zN (wW (dem i) r (Value.bool false) c7) (fun b c8=>gdK (dem b) true (zG zi 48 l 2) c8 (fun s c9=>gdK (dem b) true (jl zi false 3 s) c9 (fun c d0=>gdK (dem b) true (zG zi 48 m 2) d0 (fun f2 d1=>gdK (dem b) true (jl zi false 3 f2) d1 (fun t d2=>gdK (dem b) true (wH zi BinOp.eql 3 c t) d2 (fun u d3=>zN (wW (dem b) u (Value.bool false) d3) (fun d d4=>gdK (dem d) true (zG zi 48 l 3) d4 (fun w d5=>gdK (dem d) true (jl zi false 3 w) d5 (fun f d6=>gdK (dem d) true (zG zi 48 m 3) d6 (fun f3 d7=>gdK (dem d) true (jl zi false 3 f3) d7 (fun x d8=>gdK (dem d) true (wH zi BinOp.eql 3 f x) d8 (fun y d9=>zN (wW (dem d) y (Value.bool false) d9) (fun n f0=>some ([o,p,l,m,x4,n,v0,v1,v2,v3,i,dem i,v6,k,v8,v9,r,b,dem b,s,c,f2,t,u,d,dem d,w,f,f3,x,y,dem n,Y,Z,a0,a1,a2,a3,a4,a5,a6,a7,a8,a9,b0,b1,b2,b3,b4,b5,b6,b7,b8,b9,c0,c1,c2,c3,c4,c5,c6],f0)) ()) ()) ()) ()) ()) ()) ()) ()) ()) ()) ()) ()) ()) ()) ()) ()) ()) ()) ()) ()) ()) ()) ()):=by
 refine sD Try.f66 1 0 (fun v0 q=>?_)
 refine sD Try.f66 1 1 (fun v1 S2=>?_)
 refine sD Try.f66 1 2 (fun v2 S3=>?_)
 refine sD Try.f66 1 3 (fun v3 S4=>?_)
 refine sD Try.f66 1 4 (fun i S5=>?_)
 refine sP Try.f66 1 5 (v:=i) ?_
 refine sG Try.f66 1 6 (j:=5) (fun v6 S6=>?_)
 refine sG Try.f66 1 7 (j:=5) (fun k S7=>?_)
 refine sG Try.f66 1 8 (j:=5) (fun v8 S8=>?_)
 refine sG Try.f66 1 9 (j:=5) (fun v9 S9=>?_)
 refine sG Try.f66 1 10 (j:=5) (fun r c7=>?_)
 refine sD Try.f66 1 11 (fun b c8=>?_)
 refine sP Try.f66 1 12 (v:=b) ?_
 refine sG Try.f66 1 13 (j:=12) (fun s c9=>?_)
 refine sG Try.f66 1 14 (j:=12) (fun c d0=>?_)
 refine sG Try.f66 1 15 (j:=12) (fun f2 d1=>?_)
 refine sG Try.f66 1 16 (j:=12) (fun t d2=>?_)
 refine sG Try.f66 1 17 (j:=12) (fun u d3=>?_)
 refine sD Try.f66 1 18 (fun d d4=>?_)
 refine sP Try.f66 1 19 (v:=d) ?_
 refine sG Try.f66 1 20 (j:=19) (fun w d5=>?_)
 refine sG Try.f66 1 21 (j:=19) (fun f d6=>?_)
 refine sG Try.f66 1 22 (j:=19) (fun f3 d7=>?_)
 refine sG Try.f66 1 23 (j:=19) (fun x d8=>?_)
 refine sG Try.f66 1 24 (j:=19) (fun y d9=>?_)
 refine sD Try.f66 1 25 (fun n f0=>?_)
 refine sP Try.f66 1 26 (v:=n) ?_
 kernel_rfl
theorem wX.r2 :jF zi ⟨false,false,false⟩ (jd zi O) (reg Try.f66 2) (reg Try.f66 2).toList ([o,p,l,m,x4,g,x6,x7,x8,x9,z,A,B,C,D,E,F,G,H,I,J,K,L,M,N,P,Q,R,U,V,W,X,Y,Z,a0,a1,a2,a3,a4,a5,a6,a7,a8,a9,b0,b1,b2,b3,b4,b5,b6,b7,b8,b9,c0,c1,c2,c3,c4,c5,c6]) S =
  (gdK (dem g) true (zG zi 48 l 4) S (fun v2 q=>gdK (dem g) true (jl zi false 3 v2) q (fun v3 S2=>gdK (dem g) true (zG zi 48 m 4) S2 (fun i S3=>gdK (dem g) true (jl zi false 3 i) S3 (fun v5 S4=>gdK (dem g) true (wH zi BinOp.eql 3 v3 v5) S4 (fun v6 S5=>zN (wW (dem g) v6 (Value.bool false) S5) (fun k S6=>gdK (dem k) true (zG zi 48 l 5) S6 (fun v9 S7=>gdK (dem k) true (jl zi false 3 v9) S7 (fun r S8=>gdK (dem k) true (zG zi 48 m 5) S8 (fun b S9=>gdK (dem k) true (jl zi false 3 b) S9 (fun f4 c7=>gdK (dem k) true (wH zi BinOp.eql 3 r f4) c7 (fun s c8=>zN (wW (dem k) s (Value.bool false) c8) (fun c c9=>gdK (dem c) true (zG zi 48 l 6) c9 (fun t d0=>gdK (dem c) true (jl zi false 43 t) d0 (fun u d1=>gdK (dem c) true (zG zi 48 m 6) d1 (fun d d2=>gdK (dem c) true (jl zi false 43 d) d2 (fun f5 d3=>gdK (dem c) true (wH zi BinOp.eql 43 u f5) d3 (fun w d4=>zN (wW (dem c) w (Value.bool false) d4) (fun f d5=>gdK (dem f) true (zG zi 48 l 7) d5 (fun x d6=>gdK (dem f) true (jl zi false 46 x) d6 (fun y d7=>gdK (dem f) true (zG zi 48 m 7) d7 (fun n d8=>gdK (dem f) true (jl zi false 46 n) d8 (fun f6 d9=>gdK (dem f) true ((jd zi O) 73 [(dem y),(dem f6)]) d9 (fun f7 f0=>zN (wW (dem f) f7 (Value.bool false) f0) (fun f1 f8=>some ([o,p,l,m,f1,dem g,x6,x7,x8,x9,z,A,B,C,D,E,F,G,H,I,J,K,L,M,N,P,Q,R,U,V,W,X,g,dem g,v2,v3,i,v5,v6,k,dem k,v9,r,b,f4,s,c,dem c,t,u,d,f5,w,f,dem f,x,y,n,f6,f7,dem f1],f8)) ()) ()) ()) ()) ()) ()) ()) ()) ()) ()) ()) ()) ()) ()) ()) ()) ()) ()) ()) ()) ()) ()) ()) ()):=by
 refine sP Try.f66 2 0 (v:=g) ?_
 refine sP Try.f66 2 1 (v:=g) ?_
 refine sG Try.f66 2 2 (j:=1) (fun v2 q=>?_)
 refine sG Try.f66 2 3 (j:=1) (fun v3 S2=>?_)
 refine sG Try.f66 2 4 (j:=1) (fun i S3=>?_)
 refine sG Try.f66 2 5 (j:=1) (fun v5 S4=>?_)
 refine sG Try.f66 2 6 (j:=1) (fun v6 S5=>?_)
 refine sD Try.f66 2 7 (fun k S6=>?_)
 refine sP Try.f66 2 8 (v:=k) ?_
 refine sG Try.f66 2 9 (j:=8) (fun v9 S7=>?_)
 refine sG Try.f66 2 10 (j:=8) (fun r S8=>?_)
 refine sG Try.f66 2 11 (j:=8) (fun b S9=>?_)
 refine sG Try.f66 2 12 (j:=8) (fun f4 c7=>?_)
 refine sG Try.f66 2 13 (j:=8) (fun s c8=>?_)
 refine sD Try.f66 2 14 (fun c c9=>?_)
 refine sP Try.f66 2 15 (v:=c) ?_
 refine sG Try.f66 2 16 (j:=15) (fun t d0=>?_)
 refine sG Try.f66 2 17 (j:=15) (fun u d1=>?_)
 refine sG Try.f66 2 18 (j:=15) (fun d d2=>?_)
 refine sG Try.f66 2 19 (j:=15) (fun f5 d3=>?_)
 refine sG Try.f66 2 20 (j:=15) (fun w d4=>?_)
 refine sD Try.f66 2 21 (fun f d5=>?_)
 refine sP Try.f66 2 22 (v:=f) ?_
 refine sG Try.f66 2 23 (j:=22) (fun x d6=>?_)
 refine sG Try.f66 2 24 (j:=22) (fun y d7=>?_)
 refine sG Try.f66 2 25 (j:=22) (fun n d8=>?_)
 refine sG Try.f66 2 26 (j:=22) (fun f6 d9=>?_)
 refine sG Try.f66 2 27 (j:=22) (fun f7 f0=>?_)
 refine sD Try.f66 2 28 (fun f1 f8=>?_)
 refine sP Try.f66 2 29 (v:=f1) ?_
 kernel_rfl
theorem wX.rs:type_of% (alY @wX.r0 (alY @wX.r1 (@wX.r2))):=alY @wX.r0 (alY @wX.r1 (@wX.r2))
theorem wX.runs {o p:Value} {S q:zx} {e:AEx} {T:List Value} (h:zL zi O false wX.code ([o,p,zh,zh,zh,zh,zh,zh,zh,zh,zh,zh,zh,zh,zh,zh,zh,zh,zh,zh,zh,zh,zh,zh,zh,zh,zh,zh,zh,zh,zh,zh,zh,zh,zh,zh,zh,zh,zh,zh,zh,zh,zh,zh,zh,zh,zh,zh,zh,zh,zh,zh,zh,zh,zh,zh,zh,zh,zh,zh,zh]) zx.empty=some (e,T,q)) (he:e=.normal∨e=.ret) (hca:[o,p].all (jL 16)=true) (hcv:jL 16 (T.getD 4 zh)=true):jd zi O 66 [o,p] S=some (T.getD 4 zh,S) :=
 yD rfl rfl Try.func66 (by decide) wX.body (by exact h) he (yG (a:=T.getD 4 zh) ((show zQ zi T q Try.f66.results.toList=zQ zi T q [(ResultVar.tmp 4)] from by kernel_rfl).trans (by simp only [zQ])) (by kernel_rfl)) hca hcv
end Go.Proofs.Ytfjogganfjkckaa
namespace Go.Proofs.Ytfjogganfjkckaa
open Go.Abs
abbrev wF.id:FuncId:=69
noncomputable def wF.code:Code:=(.seq (.region 0 (reg Try.f69 0) false) (.seq (.region 1 (reg Try.f69 1) false) (.seq (.region 2 (reg Try.f69 2) false) Code.ret)))
theorem wF.body:Try.f69.body=some wF.code:=by kernel_rfl
variable (c f x2 L M N P Q R U k l m n o p q r s t u w x y z A B C D:Value) (S:zx)
theorem wF.r0 :jF zi ⟨false,false,false⟩ (jd zi O) (reg Try.f69 0) (reg Try.f69 0).toList ([c,f,x2,L,M,N,P,Q,R,U,k,l,m,n,o,p,q,r,s,t,u,w,x,y,z,A,B,C,D]) S =
  (zN (JK (dem c) S) (fun i d=>some ([c,i,Value.bool false,L,M,N,P,Q,R,U,k,l,m,n,o,p,q,r,s,t,u,w,x,y,z,A,B,C,D],d)) ()):=by
 kernel_rfl
theorem wF.r1 :jF zi ⟨false,false,false⟩ (jd zi O) (reg Try.f69 1) (reg Try.f69 1).toList ([c,f,x2,L,M,N,P,Q,R,U,k,l,m,n,o,p,q,r,s,t,u,w,x,y,z,A,B,C,D]) S =
  (zN (zG zi 48 f 0 S) (fun i d=>zN (jl zi false 3 i d) (fun G V=>zN (wH zi BinOp.eql 3 G (.int .i64 4) V) (fun b W=>gdK (dem b) false (zG zi 48 f 0) W (fun H X=>gdK (dem b) false (jl zi false 3 H) X (fun I Y=>gdK (dem b) false (wH zi BinOp.eql 3 I (.int .i64 5)) Y (fun J Z=>zN (wW (dem b) (Value.bool true) J Z) (fun E S7=>some ([c,f,x2,E,i,G,b,dem b,H,I,J,dem E,m,n,o,p,q,r,s,t,u,w,x,y,z,A,B,C,D],S7)) ()) ()) ()) ()) ()) ()) ()):=by
 refine sD Try.f69 1 0 (fun i d=>?_)
 refine sD Try.f69 1 1 (fun G V=>?_)
 refine sD Try.f69 1 2 (fun b W=>?_)
 refine sP Try.f69 1 3 (v:=b) ?_
 refine sG Try.f69 1 4 (j:=3) (fun H X=>?_)
 refine sG Try.f69 1 5 (j:=3) (fun I Y=>?_)
 refine sG Try.f69 1 6 (j:=3) (fun J Z=>?_)
 refine sD Try.f69 1 7 (fun E S7=>?_)
 refine sP Try.f69 1 8 (v:=E) ?_
 kernel_rfl
theorem wF.r2 :jF zi ⟨false,false,false⟩ (jd zi O) (reg Try.f69 2) (reg Try.f69 2).toList ([c,f,x2,L,M,N,P,Q,R,U,k,l,m,n,o,p,q,r,s,t,u,w,x,y,z,A,B,C,D]) S =
  (zN (zG zi 48 f 4 S) (fun i d=>zN (jl zi false 3 i d) (fun G V=>zN (wH zi BinOp.eql 3 G (.int .i64 0) V) (fun b W=>gdK (dem b) false (zG zi 48 f 4) W (fun H X=>gdK (dem b) false (jl zi false 3 H) X (fun I Y=>gdK (dem b) false ((jd zi O) 74 [(dem I)]) Y (fun J Z=>gdK (dem b) false (wH zi BinOp.gtr 3 J (.int .i64 0)) Z (fun E S7=>zN (wW (dem b) (Value.bool true) E S7) (fun F S8=>gdK (dem F) false (ret L) S8 (fun a0 S9=>gdK (dem F) false (ret a0) S9 (fun g a5=>gdK (dem g) true (zG zi 48 f 4) a5 (fun a1 a6=>gdK (dem g) true (jl zi false 3 a1) a6 (fun a2 a7=>gdK (dem g) true (wH zi BinOp.eql 3 a2 (.int .i64 (-1))) a7 (fun a3 a8=>gdK (dem F) false (wW (dem g) a3 (Value.bool false)) a8 (fun a4 a9=>zN (wW (dem F) (Value.bool true) a4 a9) (fun K b0=>some ([c,f,K,dem L,M,N,P,Q,R,U,k,l,i,G,b,dem b,H,I,J,E,F,dem F,a0,dem g,a1,a2,a3,a4,dem K],b0)) ()) ()) ()) ()) ()) ()) ()) ()) ()) ()) ()) ()) ()) ()) ()):=by
 refine sD Try.f69 2 0 (fun i d=>?_)
 refine sD Try.f69 2 1 (fun G V=>?_)
 refine sD Try.f69 2 2 (fun b W=>?_)
 refine sP Try.f69 2 3 (v:=b) ?_
 refine sG Try.f69 2 4 (j:=3) (fun H X=>?_)
 refine sG Try.f69 2 5 (j:=3) (fun I Y=>?_)
 refine sG Try.f69 2 6 (j:=3) (fun J Z=>?_)
 refine sG Try.f69 2 7 (j:=3) (fun E S7=>?_)
 refine sD Try.f69 2 8 (fun F S8=>?_)
 refine sP Try.f69 2 9 (v:=F) ?_
 refine sG Try.f69 2 10 (j:=9) (fun a0 S9=>?_)
 refine sG Try.f69 2 11 (j:=9) (fun g a5=>?_)
 refine sG Try.f69 2 12 (j:=11) (fun a1 a6=>?_)
 refine sG Try.f69 2 13 (j:=11) (fun a2 a7=>?_)
 refine sG Try.f69 2 14 (j:=11) (fun a3 a8=>?_)
 refine sG Try.f69 2 15 (j:=9) (fun a4 a9=>?_)
 refine sD Try.f69 2 16 (fun K b0=>?_)
 refine sP Try.f69 2 17 (v:=K) ?_
 kernel_rfl
theorem wF.rs:type_of% (alY @wF.r0 (alY @wF.r1 (@wF.r2))):=alY @wF.r0 (alY @wF.r1 (@wF.r2))
theorem wF.runs {c:Value} {S d:zx} {e:AEx} {T:List Value} (h:zL zi O false wF.code ([c,zh,zh,zh,zh,zh,zh,zh,zh,zh,zh,zh,zh,zh,zh,zh,zh,zh,zh,zh,zh,zh,zh,zh,zh,zh,zh,zh,zh]) zx.empty=some (e,T,d)) (he:e=.normal∨e=.ret) (hca:[c].all (jL 16)=true) (hcv:jL 16 (T.getD 2 zh)=true):jd zi O 69 [c] S=some (T.getD 2 zh,S) :=
 yD rfl rfl Try.func69 (by decide) wF.body (by exact h) he (yG (a:=T.getD 2 zh) ((show zQ zi T d Try.f69.results.toList=zQ zi T d [(ResultVar.tmp 2)] from by kernel_rfl).trans (by simp only [zQ])) (by kernel_rfl)) hca hcv
end Go.Proofs.Ytfjogganfjkckaa
namespace Go.Proofs.Ytfjogganfjkckaa
open Go.Abs
abbrev kU.id:FuncId:=44
noncomputable def kU.code:Code:=(.seq (.region 0 (reg Try.f44 0) false) (.seq (.region 1 (reg Try.f44 1) false) Code.ret))
theorem kU.body:Try.f44.body=some kU.code:=by kernel_rfl
variable (b d k f g i j:Value) (S:zx)
theorem kU.r0 :jF zi ⟨false,false,false⟩ (jd zi O) (reg Try.f44 0) (reg Try.f44 0).toList ([b,d,k,f,g,i,j]) S =
  ( some ([b,d,Value.int IntKind.u64 0,f,g,i,j],S)):=by
 kernel_rfl
theorem kU.r1 :jF zi ⟨false,false,false⟩ (jd zi O) (reg Try.f44 1) (reg Try.f44 1).toList ([b,d,k,f,g,i,j]) S =
  (zN (qL zi false false 3 73 (dem b) S) (fun l c=>zN (wH zi BinOp.add 73 l (Value.int IntKind.u64 1) c) (fun m o=>zN (wH zi BinOp.mul 73 m (Value.int IntKind.u64 11400714819323198485) o) (fun n p=>some ([b,d,n,dem b,l,m,dem n],p)) ()) ()) ()):=by
 kernel_rfl
theorem kU.rs:type_of% (alY @kU.r0 (@kU.r1)):=alY @kU.r0 (@kU.r1)
theorem kU.runs {b:Value} {S c:zx} {e:AEx} {T:List Value} (h:zL zi O false kU.code ([b,zh,zh,zh,zh,zh,zh]) S=some (e,T,c)) (he:e=.normal∨e=.ret):jd zi O 44 [b] S=some (T.getD 2 zh,c) :=
 yK rfl rfl Try.func44 (by decide) kU.body (by exact h) he (yG (a:=T.getD 2 zh) ((show zQ zi T c Try.f44.results.toList=zQ zi T c [(ResultVar.tmp 2)] from by kernel_rfl).trans (by simp only [zQ])) (by kernel_rfl))
end Go.Proofs.Ytfjogganfjkckaa
namespace Go.Proofs.Ytfjogganfjkckaa
open Go.Abs
abbrev wO.id:FuncId:=59
noncomputable def wO.jS:Code:=(.seq (.region 6 (reg Try.f59 6) false) (.seq (.cond (.tmp 21) Code.skip (.exit 2)) (.seq (.block 3 (.seq (.region 7 (reg Try.f59 7) false) (.region 8 (reg Try.f59 8) false))) (.region 9 (reg Try.f59 9) false))))
noncomputable def wO.Za:Code:=(.seq (.region 3 (reg Try.f59 3) false) (.seq (.cond (.tmp 15) Code.skip (.exit 0)) (.seq (.block 1 (.seq (.region 4 (reg Try.f59 4) false) (.seq (.region 5 (reg Try.f59 5) false) (.block 2 (.loop wO.jS))))) (.region 10 (reg Try.f59 10) false))))
noncomputable def wO.code:Code:=(.seq (.region 0 (reg Try.f59 0) false) (.seq (.region 1 (reg Try.f59 1) false) (.seq (.seq (.region 2 (reg Try.f59 2) false) (.block 0 (.loop wO.Za))) (.seq (.region 11 (reg Try.f59 11) false) Code.ret))))
theorem wO.body:Try.f59.body=some wO.code:=by kernel_rfl
theorem wO.eta {T:List Value} (h:T.length=35):T=[T.getD 0 zh,T.getD 1 zh,T.getD 2 zh,T.getD 3 zh,T.getD 4 zh,T.getD 5 zh,T.getD 6 zh,T.getD 7 zh,T.getD 8 zh,T.getD 9 zh,T.getD 10 zh,T.getD 11 zh,T.getD 12 zh,T.getD 13 zh,T.getD 14 zh,T.getD 15 zh,T.getD 16 zh,T.getD 17 zh,T.getD 18 zh,T.getD 19 zh,T.getD 20 zh,T.getD 21 zh,T.getD 22 zh,T.getD 23 zh,T.getD 24 zh,T.getD 25 zh,T.getD 26 zh,T.getD 27 zh,T.getD 28 zh,T.getD 29 zh,T.getD 30 zh,T.getD 31 zh,T.getD 32 zh,T.getD 33 zh,T.getD 34 zh]:=(qQ T 35 h).trans (by kernel_rfl)
variable (C D I J M E K G L H j k d f b l m n g i c o p q r s t u v w x y z A B:Value) (S:zx)
theorem wO.r0 :jF zi ⟨false,false,false⟩ (jd zi O) (reg Try.f59 0) (reg Try.f59 0).toList ([C,D,I,J,M,E,K,G,L,H,j,k,d,f,b,l,m,n,g,i,c,o,p,q,r,s,t,u,v,w,x,y,z,A,B]) S =
  ( some ([C,D,I,J,Value.int IntKind.u64 0,E,K,G,L,H,j,k,d,f,b,l,m,n,g,i,c,o,p,q,r,s,t,u,v,w,x,y,z,A,B],S)):=by
 kernel_rfl
theorem wO.r1 :jF zi ⟨false,false,false⟩ (jd zi O) (reg Try.f59 1) (reg Try.f59 1).toList ([C,D,I,J,M,E,K,G,L,H,j,k,d,f,b,l,m,n,g,i,c,o,p,q,r,s,t,u,v,w,x,y,z,A,B]) S =
  (zN (wH zi BinOp.xor 73 (dem C) (Value.int IntKind.u64 14695981039346656037) S) (fun P F=>some ([C,D,I,J,M,P,K,G,L,H,dem C,dem P,d,f,b,l,m,n,g,i,c,o,p,q,r,s,t,u,v,w,x,y,z,A,B],F)) ()):=by
 kernel_rfl
theorem wO.r2 :jF zi ⟨false,false,false⟩ (jd zi O) (reg Try.f59 2) (reg Try.f59 2).toList ([C,D,I,J,M,E,K,G,L,H,j,k,d,f,b,l,m,n,g,i,c,o,p,q,r,s,t,u,v,w,x,y,z,A,B]) S =
  (zN (ZY zi 29 (dem D) S) (fun P F=>some ([C,D,I,J,M,E,K,G,L,H,j,k,dem D,P,.int .i64 0,l,m,n,g,i,c,o,p,q,r,s,t,u,v,w,x,y,z,A,B],F)) ()):=by
 kernel_rfl
theorem wO.r3 :jF zi ⟨false,false,false⟩ (jd zi O) (reg Try.f59 3) (reg Try.f59 3).toList ([C,D,I,J,M,E,K,G,L,H,j,k,d,f,b,l,m,n,g,i,c,o,p,q,r,s,t,u,v,w,x,y,z,A,B]) S =
  (zN (wH zi BinOp.lss 3 b f S) (fun N F=>some ([C,D,I,J,M,E,K,G,L,H,j,k,d,f,b,N,m,n,g,i,c,o,p,q,r,s,t,u,v,w,x,y,z,A,B],F)) ()):=by
 kernel_rfl
theorem wO.r4 :jF zi ⟨false,false,false⟩ (jd zi O) (reg Try.f59 4) (reg Try.f59 4).toList ([C,D,I,J,M,E,K,G,L,H,j,k,d,f,b,l,m,n,g,i,c,o,p,q,r,s,t,u,v,w,x,y,z,A,B]) S =
  (zN (jr zi 29 d b S) (fun N F=>zN (jl zi false 33 N F) (fun P Q=>some ([C,D,I,J,M,E,K,P,L,H,j,k,d,f,b,l,N,dem P,g,i,c,o,p,q,r,s,t,u,v,w,x,y,z,A,B],Q)) ()) ()):=by
 kernel_rfl
theorem wO.r5 :jF zi ⟨false,false,false⟩ (jd zi O) (reg Try.f59 5) (reg Try.f59 5).toList ([C,D,I,J,M,E,K,G,L,H,j,k,d,f,b,l,m,n,g,i,c,o,p,q,r,s,t,u,v,w,x,y,z,A,B]) S =
  (zN (ZY zi 33 (dem G) S) (fun P F=>some ([C,D,I,J,M,E,K,G,L,H,j,k,d,f,b,l,m,n,dem G,P,.int .i64 0,o,p,q,r,s,t,u,v,w,x,y,z,A,B],F)) ()):=by
 kernel_rfl
theorem wO.r6 :jF zi ⟨false,false,false⟩ (jd zi O) (reg Try.f59 6) (reg Try.f59 6).toList ([C,D,I,J,M,E,K,G,L,H,j,k,d,f,b,l,m,n,g,i,c,o,p,q,r,s,t,u,v,w,x,y,z,A,B]) S =
  (zN (wH zi BinOp.lss 3 c i S) (fun N F=>some ([C,D,I,J,M,E,K,G,L,H,j,k,d,f,b,l,m,n,g,i,c,N,p,q,r,s,t,u,v,w,x,y,z,A,B],F)) ()):=by
 kernel_rfl
theorem wO.r7 :jF zi ⟨false,false,false⟩ (jd zi O) (reg Try.f59 7) (reg Try.f59 7).toList ([C,D,I,J,M,E,K,G,L,H,j,k,d,f,b,l,m,n,g,i,c,o,p,q,r,s,t,u,v,w,x,y,z,A,B]) S =
  (zN (jr zi 33 g c S) (fun N F=>zN (jl zi false 5 N F) (fun P Q=>some ([C,D,I,J,M,E,K,G,L,P,j,k,d,f,b,l,m,n,g,i,c,o,N,dem P,r,s,t,u,v,w,x,y,z,A,B],Q)) ()) ()):=by
 kernel_rfl
theorem wO.r8 :jF zi ⟨false,false,false⟩ (jd zi O) (reg Try.f59 8) (reg Try.f59 8).toList ([C,D,I,J,M,E,K,G,L,H,j,k,d,f,b,l,m,n,g,i,c,o,p,q,r,s,t,u,v,w,x,y,z,A,B]) S =
  (zN (qL zi false false 5 73 (dem H) S) (fun R F=>zN (wH zi BinOp.xor 73 (dem E) R F) (fun U Q=>zN (wH zi BinOp.mul 73 U (Value.int IntKind.u64 1099511628211) Q) (fun V W=>some ([C,D,I,J,M,V,K,G,L,H,j,k,d,f,b,l,m,n,g,i,c,o,p,q,dem E,dem H,R,U,dem V,w,x,y,z,A,B],W)) ()) ()) ()):=by
 kernel_rfl
theorem wO.r9 :jF zi ⟨false,false,false⟩ (jd zi O) (reg Try.f59 9) (reg Try.f59 9).toList ([C,D,I,J,M,E,K,G,L,H,j,k,d,f,b,l,m,n,g,i,c,o,p,q,r,s,t,u,v,w,x,y,z,A,B]) S =
  (zN (wH zi BinOp.add 3 c (.int .i64 1) S) (fun N F=>some ([C,D,I,J,M,E,K,G,L,H,j,k,d,f,b,l,m,n,g,i,dem N,o,p,q,r,s,t,u,v,N,x,y,z,A,B],F)) ()):=by
 kernel_rfl
theorem wO.r10 :jF zi ⟨false,false,false⟩ (jd zi O) (reg Try.f59 10) (reg Try.f59 10).toList ([C,D,I,J,M,E,K,G,L,H,j,k,d,f,b,l,m,n,g,i,c,o,p,q,r,s,t,u,v,w,x,y,z,A,B]) S =
  (zN (wH zi BinOp.add 3 b (.int .i64 1) S) (fun N F=>some ([C,D,I,J,M,E,K,G,L,H,j,k,d,f,dem N,l,m,n,g,i,c,o,p,q,r,s,t,u,v,w,N,y,z,A,B],F)) ()):=by
 kernel_rfl
theorem wO.r11 :jF zi ⟨false,false,false⟩ (jd zi O) (reg Try.f59 11) (reg Try.f59 11).toList ([C,D,I,J,M,E,K,G,L,H,j,k,d,f,b,l,m,n,g,i,c,o,p,q,r,s,t,u,v,w,x,y,z,A,B]) S =
  (zN (wH zi BinOp.shr 73 (dem E) (Value.int IntKind.u64 29) S) (fun R F=>zN (wH zi BinOp.xor 73 (dem E) R F) (fun U Q=>some ([C,D,I,J,U,E,K,G,L,H,j,k,d,f,b,l,m,n,g,i,c,o,p,q,r,s,t,u,v,w,x,dem E,dem E,R,dem U],Q)) ()) ()):=by
 kernel_rfl
theorem wO.rs:type_of% (alY @wO.r0 (alY @wO.r1 (alY @wO.r2 (alY @wO.r3 (alY @wO.r4 (alY @wO.r5 (alY @wO.r6 (alY @wO.r7 (alY @wO.r8 (alY @wO.r9 (alY @wO.r10 (@wO.r11)))))))))))):=alY @wO.r0 (alY @wO.r1 (alY @wO.r2 (alY @wO.r3 (alY @wO.r4 (alY @wO.r5 (alY @wO.r6 (alY @wO.r7 (alY @wO.r8 (alY @wO.r9 (alY @wO.r10 (@wO.r11)))))))))))
theorem wO.runs {C D:Value} {S F:zx} {e:AEx} {T:List Value} (h:zL zi O false wO.code ([C,D,zh,zh,zh,zh,zh,zh,zh,zh,zh,zh,zh,zh,zh,zh,zh,zh,zh,zh,zh,zh,zh,zh,zh,zh,zh,zh,zh,zh,zh,zh,zh,zh,zh]) S=some (e,T,F)) (he:e=.normal∨e=.ret):jd zi O 59 [C,D] S=some (T.getD 4 zh,F) :=
 yK rfl rfl Try.func59 (by decide) wO.body (by exact h) he (yG (a:=T.getD 4 zh) ((show zQ zi T F Try.f59.results.toList=zQ zi T F [(ResultVar.tmp 4)] from by kernel_rfl).trans (by simp only [zQ])) (by kernel_rfl))
end Go.Proofs.Ytfjogganfjkckaa
namespace Go.Proofs.Ytfjogganfjkckaa
open Go.Abs
abbrev qE.id:FuncId:=43
noncomputable def qE.code:Code:=(.seq (.region 0 (reg Try.f43 0) false) (.seq (.region 1 (reg Try.f43 1) false) Code.ret))
theorem qE.body:Try.f43.body=some qE.code:=by kernel_rfl
variable (b c d k l m q n o p g i j:Value) (S:zx)
theorem qE.r0 :jF zi ⟨false,false,false⟩ (jd zi O) (reg Try.f43 0) (reg Try.f43 0).toList ([b,c,d,k,l,m,q,n,o,p,g,i,j]) S =
  ( some ([b,c,d,k,l,m,Value.bool false,n,o,p,g,i,j],S)):=by
 kernel_rfl
theorem qE.r1 :jF zi ⟨false,false,false⟩ (jd zi O) (reg Try.f43 1) (reg Try.f43 1).toList ([b,c,d,k,l,m,q,n,o,p,g,i,j]) S =
  (zN (jU zi 29 1 [(0,(dem d))] S) (fun r f=>zN ((jd zi O) 59 [(dem (dem b)),(dem r)] f) (fun s u=>zN (wH zi BinOp.eql 73 s (dem c) u) (fun t v=>some ([b,c,d,k,l,m,t,dem b,dem d,r,s,dem c,dem t],v)) ()) ()) ()):=by
 kernel_rfl
theorem qE.rs:type_of% (alY @qE.r0 (@qE.r1)):=alY @qE.r0 (@qE.r1)
theorem qE.runs {b c d:Value} {S f:zx} {e:AEx} {T:List Value} (h:zL zi O false qE.code ([b,c,d,zh,zh,zh,zh,zh,zh,zh,zh,zh,zh]) S=some (e,T,f)) (he:e=.normal∨e=.ret):jd zi O 43 [b,c,d] S=some (T.getD 6 zh,f) :=
 yK rfl rfl Try.func43 (by decide) qE.body (by exact h) he (yG (a:=T.getD 6 zh) ((show zQ zi T f Try.f43.results.toList=zQ zi T f [(ResultVar.tmp 6)] from by kernel_rfl).trans (by simp only [zQ])) (by kernel_rfl))
end Go.Proofs.Ytfjogganfjkckaa
namespace Go.Proofs.Ytfjogganfjkckaa
open Go.Abs
abbrev qc.id:FuncId:=40
variable (p q r s t u v w x y a b c d f g i j k l m n o:Value) (S:zx)
end Go.Proofs.Ytfjogganfjkckaa
namespace Go.Proofs.Ytfjogganfjkckaa
open Go.Abs
abbrev je.id:FuncId:=39
noncomputable def je.jS:Code:=(.seq (.seq (.region 3 (reg Try.f39 3) false) (.cond (.tmp 12) Code.skip (.exit 0))) (.seq (.block 1 (.seq (.region 5 (reg Try.f39 5) false) (.region 6 (reg Try.f39 6) false))) (.region 4 (reg Try.f39 4) false)))
noncomputable def je.code:Code:=(.seq (.region 0 (reg Try.f39 0) false) (.seq (.region 1 (reg Try.f39 1) false) (.seq (.seq (.region 2 (reg Try.f39 2) false) (.block 0 (.loop je.jS))) (.seq (.region 7 (reg Try.f39 7) false) Code.ret))))
theorem je.body:Try.f39.body=some je.code:=by kernel_rfl
theorem je.eta {T:List Value} (h:T.length=34):T=[T.getD 0 zh,T.getD 1 zh,T.getD 2 zh,T.getD 3 zh,T.getD 4 zh,T.getD 5 zh,T.getD 6 zh,T.getD 7 zh,T.getD 8 zh,T.getD 9 zh,T.getD 10 zh,T.getD 11 zh,T.getD 12 zh,T.getD 13 zh,T.getD 14 zh,T.getD 15 zh,T.getD 16 zh,T.getD 17 zh,T.getD 18 zh,T.getD 19 zh,T.getD 20 zh,T.getD 21 zh,T.getD 22 zh,T.getD 23 zh,T.getD 24 zh,T.getD 25 zh,T.getD 26 zh,T.getD 27 zh,T.getD 28 zh,T.getD 29 zh,T.getD 30 zh,T.getD 31 zh,T.getD 32 zh,T.getD 33 zh]:=(qQ T 34 h).trans (by kernel_rfl)
variable (D c F G L b E I J K d f g i j k l m n o p q r s t u v w x y z A B C:Value) (S:zx)
theorem je.r0 :jF zi ⟨false,false,false⟩ (jd zi O) (reg Try.f39 0) (reg Try.f39 0).toList ([D,c,F,G,L,b,E,I,J,K,d,f,g,i,j,k,l,m,n,o,p,q,r,s,t,u,v,w,x,y,z,A,B,C]) S =
  ( some ([D,c,F,G,Value.int IntKind.u64 0,b,E,I,J,K,d,f,g,i,j,k,l,m,n,o,p,q,r,s,t,u,v,w,x,y,z,A,B,C],S)):=by
 kernel_rfl
theorem je.r1 :jF zi ⟨false,false,false⟩ (jd zi O) (reg Try.f39 1) (reg Try.f39 1).toList ([D,c,F,G,L,b,E,I,J,K,d,f,g,i,j,k,l,m,n,o,p,q,r,s,t,u,v,w,x,y,z,A,B,C]) S =
  (zN (wH zi BinOp.xor 73 (dem D) (Value.int IntKind.u64 14695981039346656037) S) (fun N H=>some ([D,c,F,G,L,N,E,dem D,dem N,K,d,f,g,i,j,k,l,m,n,o,p,q,r,s,t,u,v,w,x,y,z,A,B,C],H)) ()):=by
 kernel_rfl
theorem je.r2 :jF zi ⟨false,false,false⟩ (jd zi O) (reg Try.f39 2) (reg Try.f39 2).toList ([D,c,F,G,L,b,E,I,J,K,d,f,g,i,j,k,l,m,n,o,p,q,r,s,t,u,v,w,x,y,z,A,B,C]) S =
  ( some ([D,c,F,G,L,b,.int .i64 0,I,J,K,d,f,g,i,j,k,l,m,n,o,p,q,r,s,t,u,v,w,x,y,z,A,B,C],S)):=by
 kernel_rfl
theorem je.r3 :jF zi ⟨false,false,false⟩ (jd zi O) (reg Try.f39 3) (reg Try.f39 3).toList ([D,c,F,G,L,b,E,I,J,K,d,f,g,i,j,k,l,m,n,o,p,q,r,s,t,u,v,w,x,y,z,A,B,C]) S =
  (zN (ZY zi 33 (dem c) S) (fun Q H=>zN (wH zi BinOp.lss 3 (dem E) Q H) (fun M P=>some ([D,c,F,G,L,b,E,I,J,dem E,dem c,Q,M,i,j,k,l,m,n,o,p,q,r,s,t,u,v,w,x,y,z,A,B,C],P)) ()) ()):=by
 kernel_rfl
theorem je.r5 :jF zi ⟨false,false,false⟩ (jd zi O) (reg Try.f39 5) (reg Try.f39 5).toList ([D,c,F,G,L,b,E,I,J,K,d,f,g,i,j,k,l,m,n,o,p,q,r,s,t,u,v,w,x,y,z,A,B,C]) S =
  (zN (jr zi 33 (dem c) (dem E) S) (fun M H=>zN (jl zi false 5 M H) (fun R P=>zN (qL zi false false 5 73 R P) (fun X V=>zN (wH zi BinOp.xor 73 (dem b) X V) (fun U W=>some ([D,c,F,G,L,U,E,I,J,K,d,f,g,i,j,dem b,dem c,dem E,M,R,X,dem U,r,s,t,u,v,w,x,y,z,A,B,C],W)) ()) ()) ()) ()):=by
 kernel_rfl
theorem je.r6 :jF zi ⟨false,false,false⟩ (jd zi O) (reg Try.f39 6) (reg Try.f39 6).toList ([D,c,F,G,L,b,E,I,J,K,d,f,g,i,j,k,l,m,n,o,p,q,r,s,t,u,v,w,x,y,z,A,B,C]) S =
  (zN (wH zi BinOp.shl 73 (dem b) (Value.int IntKind.u64 40) S) (fun N H=>zN (wH zi BinOp.shl 73 (dem b) (Value.int IntKind.u64 8) H) (fun M P=>zN (wH zi BinOp.add 73 N M P) (fun R V=>zN (wH zi BinOp.mul 73 (dem b) (Value.int IntKind.u64 179) V) (fun U W=>zN (wH zi BinOp.add 73 R U W) (fun Y Z=>some ([D,c,F,G,L,Y,E,I,J,K,d,f,g,i,j,k,l,m,n,o,p,q,dem b,N,dem b,M,R,dem b,U,dem Y,z,A,B,C],Z)) ()) ()) ()) ()) ()):=by
 kernel_rfl
theorem je.r4 :jF zi ⟨false,false,false⟩ (jd zi O) (reg Try.f39 4) (reg Try.f39 4).toList ([D,c,F,G,L,b,E,I,J,K,d,f,g,i,j,k,l,m,n,o,p,q,r,s,t,u,v,w,x,y,z,A,B,C]) S =
  (zN (wH zi BinOp.add 3 (dem E) (.int .i64 1) S) (fun N H=>some ([D,c,F,G,L,b,N,I,J,K,d,f,g,dem E,dem N,k,l,m,n,o,p,q,r,s,t,u,v,w,x,y,z,A,B,C],H)) ()):=by
 kernel_rfl
theorem je.r7 :jF zi ⟨false,false,false⟩ (jd zi O) (reg Try.f39 7) (reg Try.f39 7).toList ([D,c,F,G,L,b,E,I,J,K,d,f,g,i,j,k,l,m,n,o,p,q,r,s,t,u,v,w,x,y,z,A,B,C]) S =
  (zN (wH zi BinOp.quo 73 (dem b) (Value.int IntKind.u64 536870912) S) (fun Q H=>zN (wH zi BinOp.xor 73 (dem b) Q H) (fun M P=>some ([D,c,F,G,M,b,E,I,J,K,d,f,g,i,j,k,l,m,n,o,p,q,r,s,t,u,v,w,x,y,dem b,dem b,Q,dem M],P)) ()) ()):=by
 kernel_rfl
theorem je.rs:type_of% (alY @je.r0 (alY @je.r1 (alY @je.r2 (alY @je.r3 (alY @je.r5 (alY @je.r6 (alY @je.r4 (@je.r7)))))))):=alY @je.r0 (alY @je.r1 (alY @je.r2 (alY @je.r3 (alY @je.r5 (alY @je.r6 (alY @je.r4 (@je.r7)))))))
theorem je.runs {D c:Value} {S H:zx} {e:AEx} {T:List Value} (h:zL zi O false je.code ([D,c,zh,zh,zh,zh,zh,zh,zh,zh,zh,zh,zh,zh,zh,zh,zh,zh,zh,zh,zh,zh,zh,zh,zh,zh,zh,zh,zh,zh,zh,zh,zh,zh]) S=some (e,T,H)) (he:e=.normal∨e=.ret):jd zi O 39 [D,c] S=some (T.getD 4 zh,H) :=
 yK rfl rfl Try.func39 (by decide) je.body (by exact h) he (yG (a:=T.getD 4 zh) ((show zQ zi T H Try.f39.results.toList=zQ zi T H [(ResultVar.tmp 4)] from by kernel_rfl).trans (by simp only [zQ])) (by kernel_rfl))
end Go.Proofs.Ytfjogganfjkckaa
namespace Go.Proofs.Ytfjogganfjkckaa
open Go.Abs
abbrev zT.id:FuncId:=55
noncomputable def zT.jS:Code:=(.seq (.region 6 (reg Try.f55 6) false) (.seq (.cond (.tmp 22) Code.skip (.exit 0)) (.seq (.block 1 (.seq (.region 7 (reg Try.f55 7) false) (.seq (.seq (.region 8 (reg Try.f55 8) false) (.cond (.tmp 34) (.seq (.region 9 (reg Try.f55 9) false) Code.ret) Code.skip)) (.seq (.region 10 (reg Try.f55 10) false) (.region 11 (reg Try.f55 11) false))))) (.region 12 (reg Try.f55 12) false))))
noncomputable def zT.code:Code:=(.seq (.region 0 (reg Try.f55 0) false) (.seq (.seq (.region 1 (reg Try.f55 1) false) (.cond (.tmp 17) (.seq (.region 2 (reg Try.f55 2) false) Code.ret) Code.skip)) (.seq (.region 3 (reg Try.f55 3) false) (.seq (.region 4 (reg Try.f55 4) false) (.seq (.seq (.region 5 (reg Try.f55 5) false) (.block 0 (.loop zT.jS))) (.seq (.region 13 (reg Try.f55 13) false) Code.ret))))))
theorem zT.body:Try.f55.body=some zT.code:=by kernel_rfl
theorem zT.eta {T:List Value} (h:T.length=45):T=[T.getD 0 zh,T.getD 1 zh,T.getD 2 zh,T.getD 3 zh,T.getD 4 zh,T.getD 5 zh,T.getD 6 zh,T.getD 7 zh,T.getD 8 zh,T.getD 9 zh,T.getD 10 zh,T.getD 11 zh,T.getD 12 zh,T.getD 13 zh,T.getD 14 zh,T.getD 15 zh,T.getD 16 zh,T.getD 17 zh,T.getD 18 zh,T.getD 19 zh,T.getD 20 zh,T.getD 21 zh,T.getD 22 zh,T.getD 23 zh,T.getD 24 zh,T.getD 25 zh,T.getD 26 zh,T.getD 27 zh,T.getD 28 zh,T.getD 29 zh,T.getD 30 zh,T.getD 31 zh,T.getD 32 zh,T.getD 33 zh,T.getD 34 zh,T.getD 35 zh,T.getD 36 zh,T.getD 37 zh,T.getD 38 zh,T.getD 39 zh,T.getD 40 zh,T.getD 41 zh,T.getD 42 zh,T.getD 43 zh,T.getD 44 zh]:=(qQ T 45 h).trans (by kernel_rfl)
variable (P N V W X Y Z Q R U b a f g i k l m n o c d p q r s t u w x y z A B C D E F G H I J K L M:Value) (S:zx)
theorem zT.r0 :jF zi ⟨false,false,false⟩ (jd zi O) (reg Try.f55 0) (reg Try.f55 0).toList ([P,N,V,W,X,Y,Z,Q,R,U,b,a,f,g,i,k,l,m,n,o,c,d,p,q,r,s,t,u,w,x,y,z,A,B,C,D,E,F,G,H,I,J,K,L,M]) S =
  ( some ([P,N,V,W,Value.slice none 0 0,Value.slice none 0 0,.int .i64 0,Q,R,U,b,a,f,g,i,k,l,m,n,o,c,d,p,q,r,s,t,u,w,x,y,z,A,B,C,D,E,F,G,H,I,J,K,L,M],S)):=by
 kernel_rfl
theorem zT.r1 :jF zi ⟨false,false,false⟩ (jd zi O) (reg Try.f55 1) (reg Try.f55 1).toList ([P,N,V,W,X,Y,Z,Q,R,U,b,a,f,g,i,k,l,m,n,o,c,d,p,q,r,s,t,u,w,x,y,z,A,B,C,D,E,F,G,H,I,J,K,L,M]) S =
  (zN (wH zi BinOp.lss 3 (dem N) (.int .i64 0) S) (fun v1 S1=>gdK (dem v1) false (ret N) S1 (fun v3 S2=>gdK (dem v1) false (wH zi BinOp.gtr 3 (dem v3) (.int .i64 64)) S2 (fun v4 S3=>zN (wW (dem v1) (Value.bool true) v4 S3) (fun v5 S4=>some ([P,N,V,W,X,Y,Z,Q,R,U,b,a,dem N,v1,dem v1,dem v3,v4,v5,n,o,c,d,p,q,r,s,t,u,w,x,y,z,A,B,C,D,E,F,G,H,I,J,K,L,M],S4)) ()) ()) ()) ()):=by
 refine sP Try.f55 1 0 (v:=N) ?_
 refine sD Try.f55 1 1 (fun v1 S1=>?_)
 refine sP Try.f55 1 2 (v:=v1) ?_
 refine sG Try.f55 1 3 (j:=2) (fun v3 S2=>?_)
 refine sG Try.f55 1 4 (j:=2) (fun v4 S3=>?_)
 refine sD Try.f55 1 5 (fun v5 S4=>?_)
 kernel_rfl
theorem zT.r2 :jF zi ⟨false,false,false⟩ (jd zi O) (reg Try.f55 2) (reg Try.f55 2).toList ([P,N,V,W,X,Y,Z,Q,R,U,b,a,f,g,i,k,l,m,n,o,c,d,p,q,r,s,t,u,w,x,y,z,A,B,C,D,E,F,G,H,I,J,K,L,M]) S =
  ( some ([P,N,V,W,Value.slice none 0 0,Value.slice none 0 0,.int .i64 11,Q,R,U,b,a,f,g,i,k,l,m,n,o,c,d,p,q,r,s,t,u,w,x,y,z,A,B,C,D,E,F,G,H,I,J,K,L,M],S)):=by
 kernel_rfl
theorem zT.r3 :jF zi ⟨false,false,false⟩ (jd zi O) (reg Try.f55 3) (reg Try.f55 3).toList ([P,N,V,W,X,Y,Z,Q,R,U,b,a,f,g,i,k,l,m,n,o,c,d,p,q,r,s,t,u,w,x,y,z,A,B,C,D,E,F,G,H,I,J,K,L,M]) S =
  (zN ((jd zi O) 54 [(dem (dem P))] S) (fun v1 S1=>some ([P,N,V,W,X,Y,Z,v1,R,U,b,a,f,g,i,k,l,m,dem P,dem v1,c,d,p,q,r,s,t,u,w,x,y,z,A,B,C,D,E,F,G,H,I,J,K,L,M],S1)) ()):=by
 kernel_rfl
theorem zT.r4 :jF zi ⟨false,false,false⟩ (jd zi O) (reg Try.f55 4) (reg Try.f55 4).toList ([P,N,V,W,X,Y,Z,Q,R,U,b,a,f,g,i,k,l,m,n,o,c,d,p,q,r,s,t,u,w,x,y,z,A,B,C,D,E,F,G,H,I,J,K,L,M]) S =
  ( some ([P,N,V,W,X,Y,Z,Q,Value.slice none 0 0,U,b,a,f,g,i,k,l,m,n,o,c,d,p,q,r,s,t,u,w,x,y,z,A,B,C,D,E,F,G,H,I,J,K,L,M],S)):=by
 kernel_rfl
theorem zT.r5 :jF zi ⟨false,false,false⟩ (jd zi O) (reg Try.f55 5) (reg Try.f55 5).toList ([P,N,V,W,X,Y,Z,Q,R,U,b,a,f,g,i,k,l,m,n,o,c,d,p,q,r,s,t,u,w,x,y,z,A,B,C,D,E,F,G,H,I,J,K,L,M]) S =
  ( some ([P,N,V,W,X,Y,Z,Q,R,U,b,a,f,g,i,k,l,m,n,o,dem N,.int .i64 0,p,q,r,s,t,u,w,x,y,z,A,B,C,D,E,F,G,H,I,J,K,L,M],S)):=by
 kernel_rfl
theorem zT.r6 :jF zi ⟨false,false,false⟩ (jd zi O) (reg Try.f55 6) (reg Try.f55 6).toList ([P,N,V,W,X,Y,Z,Q,R,U,b,a,f,g,i,k,l,m,n,o,c,d,p,q,r,s,t,u,w,x,y,z,A,B,C,D,E,F,G,H,I,J,K,L,M]) S =
  (zN (wH zi BinOp.lss 3 d c S) (fun v0 S1=>some ([P,N,V,W,X,Y,Z,Q,R,U,b,a,f,g,i,k,l,m,n,o,c,d,v0,q,r,s,t,u,w,x,y,z,A,B,C,D,E,F,G,H,I,J,K,L,M],S1)) ()):=by
 kernel_rfl
theorem zT.r7 :jF zi ⟨false,false,false⟩ (jd zi O) (reg Try.f55 7) (reg Try.f55 7).toList ([P,N,V,W,X,Y,Z,Q,R,U,b,a,f,g,i,k,l,m,n,o,c,d,p,q,r,s,t,u,w,x,y,z,A,B,C,D,E,F,G,H,I,J,K,L,M]) S =
  (zN ((jd zi O) 41 [(dem (dem Q))] S) (fun v1 S1=>zN (zZ v1 0 S1) (fun v3 S2=>zN (zZ (zV 0 v1) 1 S2) (fun v4 S3=>zN (zZ (zV 1 (zV 0 v1)) 2 S3) (fun v5 S4=>some ([P,N,V,W,X,Y,Z,Q,R,v3,v4,v5,f,g,i,k,l,m,n,o,c,d,p,zV 2 (zV 1 (zV 0 v1)),dem Q,dem v1,dem v3,dem v4,dem v5,x,y,z,A,B,C,D,E,F,G,H,I,J,K,L,M],S4)) ()) ()) ()) ()):=by
 kernel_rfl
theorem zT.r8 :jF zi ⟨false,false,false⟩ (jd zi O) (reg Try.f55 8) (reg Try.f55 8).toList ([P,N,V,W,X,Y,Z,Q,R,U,b,a,f,g,i,k,l,m,n,o,c,d,p,q,r,s,t,u,w,x,y,z,A,B,C,D,E,F,G,H,I,J,K,L,M]) S =
  (zN (wH zi BinOp.neq 64 (dem a) (.int .i64 0) S) (fun v1 S1=>gdK (dem v1) false (ret U) S1 (fun v3 S2=>gdK (dem v1) false (wH zi BinOp.gtr 73 (dem v3) (Value.int IntKind.u64 4611686018427387905)) S2 (fun v4 S3=>zN (wW (dem v1) (Value.bool true) v4 S3) (fun v5 S4=>some ([P,N,V,W,X,Y,Z,Q,R,U,b,a,f,g,i,k,l,m,n,o,c,d,p,q,r,s,t,u,w,dem a,v1,dem v1,dem v3,v4,v5,D,E,F,G,H,I,J,K,L,M],S4)) ()) ()) ()) ()):=by
 refine sP Try.f55 8 0 (v:=a) ?_
 refine sD Try.f55 8 1 (fun v1 S1=>?_)
 refine sP Try.f55 8 2 (v:=v1) ?_
 refine sG Try.f55 8 3 (j:=2) (fun v3 S2=>?_)
 refine sG Try.f55 8 4 (j:=2) (fun v4 S3=>?_)
 refine sD Try.f55 8 5 (fun v5 S4=>?_)
 kernel_rfl
theorem zT.r9 :jF zi ⟨false,false,false⟩ (jd zi O) (reg Try.f55 9) (reg Try.f55 9).toList ([P,N,V,W,X,Y,Z,Q,R,U,b,a,f,g,i,k,l,m,n,o,c,d,p,q,r,s,t,u,w,x,y,z,A,B,C,D,E,F,G,H,I,J,K,L,M]) S =
  ( some ([P,N,V,W,Value.slice none 0 0,Value.slice none 0 0,.int .i64 11,Q,R,U,b,a,f,g,i,k,l,m,n,o,c,d,p,q,r,s,t,u,w,x,y,z,A,B,C,D,E,F,G,H,I,J,K,L,M],S)):=by
 kernel_rfl
theorem zT.r10 :jF zi ⟨false,false,false⟩ (jd zi O) (reg Try.f55 10) (reg Try.f55 10).toList ([P,N,V,W,X,Y,Z,Q,R,U,b,a,f,g,i,k,l,m,n,o,c,d,p,q,r,s,t,u,w,x,y,z,A,B,C,D,E,F,G,H,I,J,K,L,M]) S =
  (zN (qL zi false false 73 3 (dem U) S) (fun v2 S1=>zN (wH zi BinOp.sub 3 v2 (.int .i64 1) S1) (fun v3 S2=>zN (jU zi 24 1 [(0,v3)] S2) (fun v4 S3=>zN (yB zi 24 24 R v4 S3) (fun v5 S4=>some ([P,N,V,W,X,Y,Z,Q,v5,U,b,a,f,g,i,k,l,m,n,o,c,d,p,q,r,s,t,u,w,x,y,z,A,B,C,dem R,dem U,v2,v3,v4,dem v5,J,K,L,M],S4)) ()) ()) ()) ()):=by
 kernel_rfl
theorem zT.r11 :jF zi ⟨false,false,false⟩ (jd zi O) (reg Try.f55 11) (reg Try.f55 11).toList ([P,N,V,W,X,Y,Z,Q,R,U,b,a,f,g,i,k,l,m,n,o,c,d,p,q,r,s,t,u,w,x,y,z,A,B,C,D,E,F,G,H,I,J,K,L,M]) S =
  ( some ([P,N,V,W,X,Y,Z,b,R,U,dem b,a,f,g,i,k,l,m,n,o,c,d,p,q,r,s,t,u,w,x,y,z,A,B,C,D,E,F,G,H,I,dem b,K,L,M],S)):=by
 kernel_rfl
theorem zT.r12 :jF zi ⟨false,false,false⟩ (jd zi O) (reg Try.f55 12) (reg Try.f55 12).toList ([P,N,V,W,X,Y,Z,Q,R,U,b,a,f,g,i,k,l,m,n,o,c,d,p,q,r,s,t,u,w,x,y,z,A,B,C,D,E,F,G,H,I,J,K,L,M]) S =
  (zN (wH zi BinOp.add 3 d (.int .i64 1) S) (fun v0 S1=>some ([P,N,V,W,X,Y,Z,Q,R,U,b,a,f,g,i,k,l,m,n,o,c,dem v0,p,q,r,s,t,u,w,x,y,z,A,B,C,D,E,F,G,H,I,J,v0,L,M],S1)) ()):=by
 kernel_rfl
theorem zT.r13 :jF zi ⟨false,false,false⟩ (jd zi O) (reg Try.f55 13) (reg Try.f55 13).toList ([P,N,V,W,X,Y,Z,Q,R,U,b,a,f,g,i,k,l,m,n,o,c,d,p,q,r,s,t,u,w,x,y,z,A,B,C,D,E,F,G,H,I,J,K,L,M]) S =
  ( some ([P,N,V,W,R,Q,.int .i64 0,dem Q,dem R,U,b,a,f,g,i,k,l,m,n,o,c,d,p,q,r,s,t,u,w,x,y,z,A,B,C,D,E,F,G,H,I,J,K,dem R,dem Q],S)):=by
 kernel_rfl
theorem zT.rs:type_of% (alY @zT.r0 (alY @zT.r1 (alY @zT.r2 (alY @zT.r3 (alY @zT.r4 (alY @zT.r5 (alY @zT.r6 (alY @zT.r7 (alY @zT.r8 (alY @zT.r9 (alY @zT.r10 (alY @zT.r11 (alY @zT.r12 (@zT.r13)))))))))))))):=alY @zT.r0 (alY @zT.r1 (alY @zT.r2 (alY @zT.r3 (alY @zT.r4 (alY @zT.r5 (alY @zT.r6 (alY @zT.r7 (alY @zT.r8 (alY @zT.r9 (alY @zT.r10 (alY @zT.r11 (alY @zT.r12 (@zT.r13)))))))))))))
theorem zT.runs {P N:Value} {S S1:zx} {e:AEx} {T:List Value} (h:zL zi O false zT.code ([P,N,zh,zh,zh,zh,zh,zh,zh,zh,zh,zh,zh,zh,zh,zh,zh,zh,zh,zh,zh,zh,zh,zh,zh,zh,zh,zh,zh,zh,zh,zh,zh,zh,zh,zh,zh,zh,zh,zh,zh,zh,zh,zh,zh]) S=some (e,T,S1)) (he:e=.normal∨e=.ret)  (h0:wE (T.getD 4 zh)=true) (h1:wE (T.getD 5 zh)=true) (h2:wE (T.getD 6 zh)=true):jd zi O 55 [P,N] S=some (Value.tuple #[T.getD 4 zh,T.getD 5 zh,T.getD 6 zh],S1) :=
 yK rfl rfl Try.func55 (by decide) zT.body (by exact h) he ((qj ((show zQ zi T S1 Try.f55.results.toList=zQ zi T S1 [(ResultVar.tmp 4),(ResultVar.tmp 5),(ResultVar.tmp 6)] from by kernel_rfl).trans (by simp only [zQ])) (by kernel_rfl) (by simp only [List.all_cons,List.all_nil,h0,h1,h2,Bool.and_true])).trans rfl)
end Go.Proofs.Ytfjogganfjkckaa
namespace Go.Proofs.Ytfjogganfjkckaa
open Go.Abs
abbrev zC.id:FuncId:=29
noncomputable def zC.jS:Code:=(.seq (.seq (.region 6 (reg Try.f29 6) false) (.cond (.tmp 25) Code.skip (.exit 0))) (.seq (.block 1 (.seq (.region 8 (reg Try.f29 8) false) (.seq (.seq (.region 9 (reg Try.f29 9) false) (.cond (.tmp 39) (.seq (.region 10 (reg Try.f29 10) false) Code.ret) Code.skip)) (.seq (.region 11 (reg Try.f29 11) false) (.region 12 (reg Try.f29 12) false))))) (.region 7 (reg Try.f29 7) false)))
noncomputable def zC.code:Code:=(.seq (.region 0 (reg Try.f29 0) false) (.seq (.seq (.region 1 (reg Try.f29 1) false) (.cond (.tmp 18) (.seq (.region 2 (reg Try.f29 2) false) Code.ret) Code.skip)) (.seq (.region 3 (reg Try.f29 3) false) (.seq (.region 4 (reg Try.f29 4) false) (.seq (.seq (.region 5 (reg Try.f29 5) false) (.block 0 (.loop zC.jS))) (.seq (.region 13 (reg Try.f29 13) false) Code.ret))))))
theorem zC.body:Try.f29.body=some zC.code:=by kernel_rfl
theorem zC.eta {T:List Value} (h:T.length=49):T=[T.getD 0 zh,T.getD 1 zh,T.getD 2 zh,T.getD 3 zh,T.getD 4 zh,T.getD 5 zh,T.getD 6 zh,T.getD 7 zh,T.getD 8 zh,T.getD 9 zh,T.getD 10 zh,T.getD 11 zh,T.getD 12 zh,T.getD 13 zh,T.getD 14 zh,T.getD 15 zh,T.getD 16 zh,T.getD 17 zh,T.getD 18 zh,T.getD 19 zh,T.getD 20 zh,T.getD 21 zh,T.getD 22 zh,T.getD 23 zh,T.getD 24 zh,T.getD 25 zh,T.getD 26 zh,T.getD 27 zh,T.getD 28 zh,T.getD 29 zh,T.getD 30 zh,T.getD 31 zh,T.getD 32 zh,T.getD 33 zh,T.getD 34 zh,T.getD 35 zh,T.getD 36 zh,T.getD 37 zh,T.getD 38 zh,T.getD 39 zh,T.getD 40 zh,T.getD 41 zh,T.getD 42 zh,T.getD 43 zh,T.getD 44 zh,T.getD 45 zh,T.getD 46 zh,T.getD 47 zh,T.getD 48 zh]:=(qQ T 49 h).trans (by kernel_rfl)
variable (V U Z x3 x4 x5 x6 W X Y a c b d f g i k l m n o p q r s t u w x y z A B C D E F G H I J K L M N P Q R:Value) (S:zx)
theorem zC.r0 :jF zi ⟨false,false,false⟩ (jd zi O) (reg Try.f29 0) (reg Try.f29 0).toList ([V,U,Z,x3,x4,x5,x6,W,X,Y,a,c,b,d,f,g,i,k,l,m,n,o,p,q,r,s,t,u,w,x,y,z,A,B,C,D,E,F,G,H,I,J,K,L,M,N,P,Q,R]) S =
  ( some ([V,U,Z,x3,Value.slice none 0 0,Value.slice none 0 0,.int .i64 0,W,X,Y,a,c,b,d,f,g,i,k,l,m,n,o,p,q,r,s,t,u,w,x,y,z,A,B,C,D,E,F,G,H,I,J,K,L,M,N,P,Q,R],S)):=by
 kernel_rfl
theorem zC.r1 :jF zi ⟨false,false,false⟩ (jd zi O) (reg Try.f29 1) (reg Try.f29 1).toList ([V,U,Z,x3,x4,x5,x6,W,X,Y,a,c,b,d,f,g,i,k,l,m,n,o,p,q,r,s,t,u,w,x,y,z,A,B,C,D,E,F,G,H,I,J,K,L,M,N,P,Q,R]) S =
  (zN (wH zi BinOp.lss 3 (dem U) (.int .i64 0) S) (fun v1 S1=>gdK (dem v1) false (ret U) S1 (fun v3 S2=>gdK (dem v1) false (wH zi BinOp.gtr 3 (dem v3) (.int .i64 64)) S2 (fun v4 S3=>zN (wW (dem v1) (Value.bool true) v4 S3) (fun v5 S4=>some ([V,U,Z,x3,x4,x5,x6,W,X,Y,a,c,b,dem U,v1,dem v1,dem v3,v4,v5,m,n,o,p,q,r,s,t,u,w,x,y,z,A,B,C,D,E,F,G,H,I,J,K,L,M,N,P,Q,R],S4)) ()) ()) ()) ()):=by
 refine sP Try.f29 1 0 (v:=U) ?_
 refine sD Try.f29 1 1 (fun v1 S1=>?_)
 refine sP Try.f29 1 2 (v:=v1) ?_
 refine sG Try.f29 1 3 (j:=2) (fun v3 S2=>?_)
 refine sG Try.f29 1 4 (j:=2) (fun v4 S3=>?_)
 refine sD Try.f29 1 5 (fun v5 S4=>?_)
 kernel_rfl
theorem zC.r2 :jF zi ⟨false,false,false⟩ (jd zi O) (reg Try.f29 2) (reg Try.f29 2).toList ([V,U,Z,x3,x4,x5,x6,W,X,Y,a,c,b,d,f,g,i,k,l,m,n,o,p,q,r,s,t,u,w,x,y,z,A,B,C,D,E,F,G,H,I,J,K,L,M,N,P,Q,R]) S =
  ( some ([V,U,Z,x3,Value.slice none 0 0,Value.slice none 0 0,.int .i64 11,W,X,Y,a,c,b,d,f,g,i,k,l,m,n,o,p,q,r,s,t,u,w,x,y,z,A,B,C,D,E,F,G,H,I,J,K,L,M,N,P,Q,R],S)):=by
 kernel_rfl
theorem zC.r3 :jF zi ⟨false,false,false⟩ (jd zi O) (reg Try.f29 3) (reg Try.f29 3).toList ([V,U,Z,x3,x4,x5,x6,W,X,Y,a,c,b,d,f,g,i,k,l,m,n,o,p,q,r,s,t,u,w,x,y,z,A,B,C,D,E,F,G,H,I,J,K,L,M,N,P,Q,R]) S =
  (zN (jU zi 24 0 [] S) (fun v0 S1=>some ([V,U,Z,x3,x4,x5,x6,v0,X,Y,a,c,b,d,f,g,i,k,l,dem v0,n,o,p,q,r,s,t,u,w,x,y,z,A,B,C,D,E,F,G,H,I,J,K,L,M,N,P,Q,R],S1)) ()):=by
 kernel_rfl
theorem zC.r4 :jF zi ⟨false,false,false⟩ (jd zi O) (reg Try.f29 4) (reg Try.f29 4).toList ([V,U,Z,x3,x4,x5,x6,W,X,Y,a,c,b,d,f,g,i,k,l,m,n,o,p,q,r,s,t,u,w,x,y,z,A,B,C,D,E,F,G,H,I,J,K,L,M,N,P,Q,R]) S =
  (zN (jU zi 33 0 [] S) (fun v0 S1=>zN (yB zi 33 33 v0 (dem V) S1) (fun v2 S2=>some ([V,U,Z,x3,x4,x5,x6,W,v2,Y,a,c,b,d,f,g,i,k,l,m,dem v0,dem V,dem v2,q,r,s,t,u,w,x,y,z,A,B,C,D,E,F,G,H,I,J,K,L,M,N,P,Q,R],S2)) ()) ()):=by
 kernel_rfl
theorem zC.r5 :jF zi ⟨false,false,false⟩ (jd zi O) (reg Try.f29 5) (reg Try.f29 5).toList ([V,U,Z,x3,x4,x5,x6,W,X,Y,a,c,b,d,f,g,i,k,l,m,n,o,p,q,r,s,t,u,w,x,y,z,A,B,C,D,E,F,G,H,I,J,K,L,M,N,P,Q,R]) S =
  ( some ([V,U,Z,x3,x4,x5,x6,W,X,.int .i64 0,a,c,b,d,f,g,i,k,l,m,n,o,p,q,r,s,t,u,w,x,y,z,A,B,C,D,E,F,G,H,I,J,K,L,M,N,P,Q,R],S)):=by
 kernel_rfl
theorem zC.r6 :jF zi ⟨false,false,false⟩ (jd zi O) (reg Try.f29 6) (reg Try.f29 6).toList ([V,U,Z,x3,x4,x5,x6,W,X,Y,a,c,b,d,f,g,i,k,l,m,n,o,p,q,r,s,t,u,w,x,y,z,A,B,C,D,E,F,G,H,I,J,K,L,M,N,P,Q,R]) S =
  (zN (wH zi BinOp.lss 3 (dem Y) (dem U) S) (fun v2 S1=>some ([V,U,Z,x3,x4,x5,x6,W,X,Y,a,c,b,d,f,g,i,k,l,m,n,o,p,dem Y,dem U,v2,t,u,w,x,y,z,A,B,C,D,E,F,G,H,I,J,K,L,M,N,P,Q,R],S1)) ()):=by
 kernel_rfl
theorem zC.r8 :jF zi ⟨false,false,false⟩ (jd zi O) (reg Try.f29 8) (reg Try.f29 8).toList ([V,U,Z,x3,x4,x5,x6,W,X,Y,a,c,b,d,f,g,i,k,l,m,n,o,p,q,r,s,t,u,w,x,y,z,A,B,C,D,E,F,G,H,I,J,K,L,M,N,P,Q,R]) S =
  (zN ((jd zi O) 28 [(dem (dem X))] S) (fun v1 S1=>zN (zZ v1 0 S1) (fun v3 S2=>zN (zZ (zV 0 v1) 1 S2) (fun v4 S3=>zN (zZ (zV 1 (zV 0 v1)) 2 S3) (fun v5 S4=>some ([V,U,Z,x3,x4,x5,x6,W,X,Y,v3,v4,v5,d,f,g,i,k,l,m,n,o,p,q,r,s,t,u,zV 2 (zV 1 (zV 0 v1)),dem X,dem v1,dem v3,dem v4,dem v5,C,D,E,F,G,H,I,J,K,L,M,N,P,Q,R],S4)) ()) ()) ()) ()):=by
 kernel_rfl
theorem zC.r9 :jF zi ⟨false,false,false⟩ (jd zi O) (reg Try.f29 9) (reg Try.f29 9).toList ([V,U,Z,x3,x4,x5,x6,W,X,Y,a,c,b,d,f,g,i,k,l,m,n,o,p,q,r,s,t,u,w,x,y,z,A,B,C,D,E,F,G,H,I,J,K,L,M,N,P,Q,R]) S =
  (zN (wH zi BinOp.neq 3 (dem b) (.int .i64 0) S) (fun v1 S1=>gdK (dem v1) false (ret a) S1 (fun v3 S2=>gdK (dem v1) false (wH zi BinOp.gtr 73 (dem v3) (Value.int IntKind.u64 4611686018427387905)) S2 (fun v4 S3=>zN (wW (dem v1) (Value.bool true) v4 S3) (fun v5 S4=>some ([V,U,Z,x3,x4,x5,x6,W,X,Y,a,c,b,d,f,g,i,k,l,m,n,o,p,q,r,s,t,u,w,x,y,z,A,B,dem b,v1,dem v1,dem v3,v4,v5,I,J,K,L,M,N,P,Q,R],S4)) ()) ()) ()) ()):=by
 refine sP Try.f29 9 0 (v:=b) ?_
 refine sD Try.f29 9 1 (fun v1 S1=>?_)
 refine sP Try.f29 9 2 (v:=v1) ?_
 refine sG Try.f29 9 3 (j:=2) (fun v3 S2=>?_)
 refine sG Try.f29 9 4 (j:=2) (fun v4 S3=>?_)
 refine sD Try.f29 9 5 (fun v5 S4=>?_)
 kernel_rfl
theorem zC.r10 :jF zi ⟨false,false,false⟩ (jd zi O) (reg Try.f29 10) (reg Try.f29 10).toList ([V,U,Z,x3,x4,x5,x6,W,X,Y,a,c,b,d,f,g,i,k,l,m,n,o,p,q,r,s,t,u,w,x,y,z,A,B,C,D,E,F,G,H,I,J,K,L,M,N,P,Q,R]) S =
  ( some ([V,U,Z,x3,Value.slice none 0 0,Value.slice none 0 0,.int .i64 11,W,X,Y,a,c,b,d,f,g,i,k,l,m,n,o,p,q,r,s,t,u,w,x,y,z,A,B,C,D,E,F,G,H,I,J,K,L,M,N,P,Q,R],S)):=by
 kernel_rfl
theorem zC.r11 :jF zi ⟨false,false,false⟩ (jd zi O) (reg Try.f29 11) (reg Try.f29 11).toList ([V,U,Z,x3,x4,x5,x6,W,X,Y,a,c,b,d,f,g,i,k,l,m,n,o,p,q,r,s,t,u,w,x,y,z,A,B,C,D,E,F,G,H,I,J,K,L,M,N,P,Q,R]) S =
  (zN (qL zi false false 73 3 (dem a) S) (fun v2 S1=>zN (wH zi BinOp.sub 3 v2 (.int .i64 1) S1) (fun v3 S2=>zN (jU zi 24 1 [(0,v3)] S2) (fun v4 S3=>zN (yB zi 24 24 W v4 S3) (fun v5 S4=>some ([V,U,Z,x3,x4,x5,x6,v5,X,Y,a,c,b,d,f,g,i,k,l,m,n,o,p,q,r,s,t,u,w,x,y,z,A,B,C,D,E,F,G,H,dem W,dem a,v2,v3,v4,dem v5,P,Q,R],S4)) ()) ()) ()) ()):=by
 kernel_rfl
theorem zC.r12 :jF zi ⟨false,false,false⟩ (jd zi O) (reg Try.f29 12) (reg Try.f29 12).toList ([V,U,Z,x3,x4,x5,x6,W,X,Y,a,c,b,d,f,g,i,k,l,m,n,o,p,q,r,s,t,u,w,x,y,z,A,B,C,D,E,F,G,H,I,J,K,L,M,N,P,Q,R]) S =
  ( some ([V,U,Z,x3,x4,x5,x6,W,c,Y,a,dem c,b,d,f,g,i,k,l,m,n,o,p,q,r,s,t,u,w,x,y,z,A,B,C,D,E,F,G,H,I,J,K,L,M,N,dem c,Q,R],S)):=by
 kernel_rfl
theorem zC.r7 :jF zi ⟨false,false,false⟩ (jd zi O) (reg Try.f29 7) (reg Try.f29 7).toList ([V,U,Z,x3,x4,x5,x6,W,X,Y,a,c,b,d,f,g,i,k,l,m,n,o,p,q,r,s,t,u,w,x,y,z,A,B,C,D,E,F,G,H,I,J,K,L,M,N,P,Q,R]) S =
  (zN (wH zi BinOp.add 3 (dem Y) (.int .i64 1) S) (fun v1 S1=>some ([V,U,Z,x3,x4,x5,x6,W,X,v1,a,c,b,d,f,g,i,k,l,m,n,o,p,q,r,s,dem Y,dem v1,w,x,y,z,A,B,C,D,E,F,G,H,I,J,K,L,M,N,P,Q,R],S1)) ()):=by
 kernel_rfl
theorem zC.r13 :jF zi ⟨false,false,false⟩ (jd zi O) (reg Try.f29 13) (reg Try.f29 13).toList ([V,U,Z,x3,x4,x5,x6,W,X,Y,a,c,b,d,f,g,i,k,l,m,n,o,p,q,r,s,t,u,w,x,y,z,A,B,C,D,E,F,G,H,I,J,K,L,M,N,P,Q,R]) S =
  ( some ([V,U,Z,x3,W,X,.int .i64 0,dem W,dem X,Y,a,c,b,d,f,g,i,k,l,m,n,o,p,q,r,s,t,u,w,x,y,z,A,B,C,D,E,F,G,H,I,J,K,L,M,N,P,dem W,dem X],S)):=by
 kernel_rfl
theorem zC.rs:type_of% (alY @zC.r0 (alY @zC.r1 (alY @zC.r2 (alY @zC.r3 (alY @zC.r4 (alY @zC.r5 (alY @zC.r6 (alY @zC.r8 (alY @zC.r9 (alY @zC.r10 (alY @zC.r11 (alY @zC.r12 (alY @zC.r7 (@zC.r13)))))))))))))):=alY @zC.r0 (alY @zC.r1 (alY @zC.r2 (alY @zC.r3 (alY @zC.r4 (alY @zC.r5 (alY @zC.r6 (alY @zC.r8 (alY @zC.r9 (alY @zC.r10 (alY @zC.r11 (alY @zC.r12 (alY @zC.r7 (@zC.r13)))))))))))))
theorem zC.runs {V U:Value} {S S1:zx} {e:AEx} {T:List Value} (h:zL zi O false zC.code ([V,U,zh,zh,zh,zh,zh,zh,zh,zh,zh,zh,zh,zh,zh,zh,zh,zh,zh,zh,zh,zh,zh,zh,zh,zh,zh,zh,zh,zh,zh,zh,zh,zh,zh,zh,zh,zh,zh,zh,zh,zh,zh,zh,zh,zh,zh,zh,zh]) S=some (e,T,S1)) (he:e=.normal∨e=.ret)  (h0:wE (T.getD 4 zh)=true) (h1:wE (T.getD 5 zh)=true) (h2:wE (T.getD 6 zh)=true):jd zi O 29 [V,U] S=some (Value.tuple #[T.getD 4 zh,T.getD 5 zh,T.getD 6 zh],S1) :=
 yK rfl rfl Try.func29 (by decide) zC.body (by exact h) he ((qj ((show zQ zi T S1 Try.f29.results.toList=zQ zi T S1 [(ResultVar.tmp 4),(ResultVar.tmp 5),(ResultVar.tmp 6)] from by kernel_rfl).trans (by simp only [zQ])) (by kernel_rfl) (by simp only [List.all_cons,List.all_nil,h0,h1,h2,Bool.and_true])).trans rfl)
end Go.Proofs.Ytfjogganfjkckaa
namespace Go.Proofs.Ytfjogganfjkckaa
open Go.Abs
abbrev jG.id:FuncId:=63
noncomputable def jG.jS:Code:=(.seq (.region 5 (reg Try.f63 5) false) (.seq (.cond (.tmp 13) Code.skip (.exit 0)) (.seq (.block 1 (.seq (.region 6 (reg Try.f63 6) false) (.seq (.seq (.region 7 (reg Try.f63 7) false) (.cond (.tmp 17) (.seq (.region 8 (reg Try.f63 8) false) Code.ret) Code.skip)) (.region 9 (reg Try.f63 9) false)))) (.region 10 (reg Try.f63 10) false))))
noncomputable def jG.code:Code:=(.seq (.region 0 (reg Try.f63 0) false) (.seq (.seq (.region 1 (reg Try.f63 1) false) (.cond (.tmp 9) (.seq (.region 2 (reg Try.f63 2) false) Code.ret) Code.skip)) (.seq (.region 3 (reg Try.f63 3) false) (.seq (.seq (.region 4 (reg Try.f63 4) false) (.block 0 (.loop jG.jS))) (.seq (.region 11 (reg Try.f63 11) false) Code.ret)))))
theorem jG.body:Try.f63.body=some jG.code:=by kernel_rfl
theorem jG.eta {T:List Value} (h:T.length=26):T=[T.getD 0 zh,T.getD 1 zh,T.getD 2 zh,T.getD 3 zh,T.getD 4 zh,T.getD 5 zh,T.getD 6 zh,T.getD 7 zh,T.getD 8 zh,T.getD 9 zh,T.getD 10 zh,T.getD 11 zh,T.getD 12 zh,T.getD 13 zh,T.getD 14 zh,T.getD 15 zh,T.getD 16 zh,T.getD 17 zh,T.getD 18 zh,T.getD 19 zh,T.getD 20 zh,T.getD 21 zh,T.getD 22 zh,T.getD 23 zh,T.getD 24 zh,T.getD 25 zh]:=(qQ T 26 h).trans (by kernel_rfl)
variable (s v A B u w t x y z b c a d f g i j k l m n o p q r:Value) (S:zx)
theorem jG.r0 :jF zi ⟨false,false,false⟩ (jd zi O) (reg Try.f63 0) (reg Try.f63 0).toList ([s,v,A,B,u,w,t,x,y,z,b,c,a,d,f,g,i,j,k,l,m,n,o,p,q,r]) S =
  ( some ([s,v,Value.slice none 0 0,.int .i64 0,u,w,t,x,y,z,b,c,a,d,f,g,i,j,k,l,m,n,o,p,q,r],S)):=by
 kernel_rfl
theorem jG.r1 :jF zi ⟨false,false,false⟩ (jd zi O) (reg Try.f63 1) (reg Try.f63 1).toList ([s,v,A,B,u,w,t,x,y,z,b,c,a,d,f,g,i,j,k,l,m,n,o,p,q,r]) S =
  (zN (ZY zi 24 (dem s) S) (fun D C=>zN (wH zi BinOp.gtr 3 D (.int .i64 64) C) (fun G F=>some ([s,v,A,B,u,w,t,dem s,D,G,b,c,a,d,f,g,i,j,k,l,m,n,o,p,q,r],F)) ()) ()):=by
 kernel_rfl
theorem jG.r2 :jF zi ⟨false,false,false⟩ (jd zi O) (reg Try.f63 2) (reg Try.f63 2).toList ([s,v,A,B,u,w,t,x,y,z,b,c,a,d,f,g,i,j,k,l,m,n,o,p,q,r]) S =
  ( some ([s,v,Value.slice none 0 0,.int .i64 11,u,w,t,x,y,z,b,c,a,d,f,g,i,j,k,l,m,n,o,p,q,r],S)):=by
 kernel_rfl
theorem jG.r3 :jF zi ⟨false,false,false⟩ (jd zi O) (reg Try.f63 3) (reg Try.f63 3).toList ([s,v,A,B,u,w,t,x,y,z,b,c,a,d,f,g,i,j,k,l,m,n,o,p,q,r]) S =
  ( some ([s,v,A,B,Value.slice none 0 0,w,t,x,y,z,b,c,a,d,f,g,i,j,k,l,m,n,o,p,q,r],S)):=by
 kernel_rfl
theorem jG.r4 :jF zi ⟨false,false,false⟩ (jd zi O) (reg Try.f63 4) (reg Try.f63 4).toList ([s,v,A,B,u,w,t,x,y,z,b,c,a,d,f,g,i,j,k,l,m,n,o,p,q,r]) S =
  (zN (ZY zi 24 (dem s) S) (fun D C=>some ([s,v,A,B,u,w,t,x,y,z,dem s,D,.int .i64 0,d,f,g,i,j,k,l,m,n,o,p,q,r],C)) ()):=by
 kernel_rfl
theorem jG.r5 :jF zi ⟨false,false,false⟩ (jd zi O) (reg Try.f63 5) (reg Try.f63 5).toList ([s,v,A,B,u,w,t,x,y,z,b,c,a,d,f,g,i,j,k,l,m,n,o,p,q,r]) S =
  (zN (wH zi BinOp.lss 3 a c S) (fun E C=>some ([s,v,A,B,u,w,t,x,y,z,b,c,a,E,f,g,i,j,k,l,m,n,o,p,q,r],C)) ()):=by
 kernel_rfl
theorem jG.r6 :jF zi ⟨false,false,false⟩ (jd zi O) (reg Try.f63 6) (reg Try.f63 6).toList ([s,v,A,B,u,w,t,x,y,z,b,c,a,d,f,g,i,j,k,l,m,n,o,p,q,r]) S =
  (zN (jr zi 24 b a S) (fun E C=>zN (jl zi false 3 E C) (fun D F=>some ([s,v,A,B,u,w,D,x,y,z,b,c,a,d,E,dem D,i,j,k,l,m,n,o,p,q,r],F)) ()) ()):=by
 kernel_rfl
theorem jG.r7 :jF zi ⟨false,false,false⟩ (jd zi O) (reg Try.f63 7) (reg Try.f63 7).toList ([s,v,A,B,u,w,t,x,y,z,b,c,a,d,f,g,i,j,k,l,m,n,o,p,q,r]) S =
  (zN (wH zi BinOp.lss 3 (dem t) (.int .i64 (-1)) S) (fun D C=>some ([s,v,A,B,u,w,t,x,y,z,b,c,a,d,f,g,dem t,D,k,l,m,n,o,p,q,r],C)) ()):=by
 kernel_rfl
theorem jG.r8 :jF zi ⟨false,false,false⟩ (jd zi O) (reg Try.f63 8) (reg Try.f63 8).toList ([s,v,A,B,u,w,t,x,y,z,b,c,a,d,f,g,i,j,k,l,m,n,o,p,q,r]) S =
  ( some ([s,v,Value.slice none 0 0,.int .i64 11,u,w,t,x,y,z,b,c,a,d,f,g,i,j,k,l,m,n,o,p,q,r],S)):=by
 kernel_rfl
theorem jG.r9 :jF zi ⟨false,false,false⟩ (jd zi O) (reg Try.f63 9) (reg Try.f63 9).toList ([s,v,A,B,u,w,t,x,y,z,b,c,a,d,f,g,i,j,k,l,m,n,o,p,q,r]) S =
  (zN (qL zi false false 3 73 (dem t) S) (fun G C=>zN (wH zi BinOp.add 73 G (Value.int IntKind.u64 1) C) (fun H F=>zN ((jd zi O) 72 [(dem H)] F) (fun I K=>zN (yB zi 33 33 u I K) (fun J L=>some ([s,v,A,B,J,w,t,x,y,z,b,c,a,d,f,g,i,j,dem u,dem t,G,H,I,dem J,q,r],L)) ()) ()) ()) ()):=by
 kernel_rfl
theorem jG.r10 :jF zi ⟨false,false,false⟩ (jd zi O) (reg Try.f63 10) (reg Try.f63 10).toList ([s,v,A,B,u,w,t,x,y,z,b,c,a,d,f,g,i,j,k,l,m,n,o,p,q,r]) S =
  (zN (wH zi BinOp.add 3 a (.int .i64 1) S) (fun E C=>some ([s,v,A,B,u,w,t,x,y,z,b,c,dem E,d,f,g,i,j,k,l,m,n,o,p,E,r],C)) ()):=by
 kernel_rfl
theorem jG.r11 :jF zi ⟨false,false,false⟩ (jd zi O) (reg Try.f63 11) (reg Try.f63 11).toList ([s,v,A,B,u,w,t,x,y,z,b,c,a,d,f,g,i,j,k,l,m,n,o,p,q,r]) S =
  ( some ([s,v,u,.int .i64 0,dem u,w,t,x,y,z,b,c,a,d,f,g,i,j,k,l,m,n,o,p,q,dem u],S)):=by
 kernel_rfl
theorem jG.rs:type_of% (alY @jG.r0 (alY @jG.r1 (alY @jG.r2 (alY @jG.r3 (alY @jG.r4 (alY @jG.r5 (alY @jG.r6 (alY @jG.r7 (alY @jG.r8 (alY @jG.r9 (alY @jG.r10 (@jG.r11)))))))))))):=alY @jG.r0 (alY @jG.r1 (alY @jG.r2 (alY @jG.r3 (alY @jG.r4 (alY @jG.r5 (alY @jG.r6 (alY @jG.r7 (alY @jG.r8 (alY @jG.r9 (alY @jG.r10 (@jG.r11)))))))))))
theorem jG.runs {s:Value} {S C:zx} {e:AEx} {T:List Value} (h:zL zi O false jG.code ([s,zh,zh,zh,zh,zh,zh,zh,zh,zh,zh,zh,zh,zh,zh,zh,zh,zh,zh,zh,zh,zh,zh,zh,zh,zh]) S=some (e,T,C)) (he:e=.normal∨e=.ret)  (h0:wE (T.getD 2 zh)=true) (h1:wE (T.getD 3 zh)=true):jd zi O 63 [s] S=some (Value.tuple #[T.getD 2 zh,T.getD 3 zh],C) :=
 yK rfl rfl Try.func63 (by decide) jG.body (by exact h) he ((qj ((show zQ zi T C Try.f63.results.toList=zQ zi T C [(ResultVar.tmp 2),(ResultVar.tmp 3)] from by kernel_rfl).trans (by simp only [zQ])) (by kernel_rfl) (by simp only [List.all_cons,List.all_nil,h0,h1,Bool.and_true])).trans rfl)
end Go.Proofs.Ytfjogganfjkckaa
namespace Go.Proofs.Ytfjogganfjkckaa
open Go.Abs
abbrev zJ.id:FuncId:=35
noncomputable def zJ.jS:Code:=(.seq (.region 5 (reg Try.f35 5) false) (.seq (.cond (.tmp 14) Code.skip (.exit 0)) (.seq (.block 1 (.seq (.region 6 (reg Try.f35 6) false) (.seq (.seq (.region 7 (reg Try.f35 7) false) (.cond (.tmp 18) (.seq (.region 8 (reg Try.f35 8) false) Code.ret) Code.skip)) (.region 9 (reg Try.f35 9) false)))) (.region 10 (reg Try.f35 10) false))))
noncomputable def zJ.code:Code:=(.seq (.region 0 (reg Try.f35 0) false) (.seq (.seq (.region 1 (reg Try.f35 1) false) (.cond (.tmp 9) (.seq (.region 2 (reg Try.f35 2) false) Code.ret) Code.skip)) (.seq (.region 3 (reg Try.f35 3) false) (.seq (.seq (.region 4 (reg Try.f35 4) false) (.block 0 (.loop zJ.jS))) (.seq (.region 11 (reg Try.f35 11) false) Code.ret)))))
theorem zJ.body:Try.f35.body=some zJ.code:=by kernel_rfl
theorem zJ.eta {T:List Value} (h:T.length=27):T=[T.getD 0 zh,T.getD 1 zh,T.getD 2 zh,T.getD 3 zh,T.getD 4 zh,T.getD 5 zh,T.getD 6 zh,T.getD 7 zh,T.getD 8 zh,T.getD 9 zh,T.getD 10 zh,T.getD 11 zh,T.getD 12 zh,T.getD 13 zh,T.getD 14 zh,T.getD 15 zh,T.getD 16 zh,T.getD 17 zh,T.getD 18 zh,T.getD 19 zh,T.getD 20 zh,T.getD 21 zh,T.getD 22 zh,T.getD 23 zh,T.getD 24 zh,T.getD 25 zh,T.getD 26 zh]:=(qQ T 27 h).trans (by kernel_rfl)
variable (t w B C v x u y z A d b c a f g i j k l m n o p q r s:Value) (S:zx)
theorem zJ.r0 :jF zi ⟨false,false,false⟩ (jd zi O) (reg Try.f35 0) (reg Try.f35 0).toList ([t,w,B,C,v,x,u,y,z,A,d,b,c,a,f,g,i,j,k,l,m,n,o,p,q,r,s]) S =
  ( some ([t,w,Value.slice none 0 0,.int .i64 0,v,x,u,y,z,A,d,b,c,a,f,g,i,j,k,l,m,n,o,p,q,r,s],S)):=by
 kernel_rfl
theorem zJ.r1 :jF zi ⟨false,false,false⟩ (jd zi O) (reg Try.f35 1) (reg Try.f35 1).toList ([t,w,B,C,v,x,u,y,z,A,d,b,c,a,f,g,i,j,k,l,m,n,o,p,q,r,s]) S =
  (zN (ZY zi 24 (dem t) S) (fun F D=>zN (wH zi BinOp.gtr 3 F (.int .i64 64) D) (fun H G=>some ([t,w,B,C,v,x,u,dem t,F,H,d,b,c,a,f,g,i,j,k,l,m,n,o,p,q,r,s],G)) ()) ()):=by
 kernel_rfl
theorem zJ.r2 :jF zi ⟨false,false,false⟩ (jd zi O) (reg Try.f35 2) (reg Try.f35 2).toList ([t,w,B,C,v,x,u,y,z,A,d,b,c,a,f,g,i,j,k,l,m,n,o,p,q,r,s]) S =
  ( some ([t,w,Value.slice none 0 0,.int .i64 11,v,x,u,y,z,A,d,b,c,a,f,g,i,j,k,l,m,n,o,p,q,r,s],S)):=by
 kernel_rfl
theorem zJ.r3 :jF zi ⟨false,false,false⟩ (jd zi O) (reg Try.f35 3) (reg Try.f35 3).toList ([t,w,B,C,v,x,u,y,z,A,d,b,c,a,f,g,i,j,k,l,m,n,o,p,q,r,s]) S =
  (zN (jU zi 33 0 [] S) (fun E D=>some ([t,w,B,C,E,x,u,y,z,A,dem E,b,c,a,f,g,i,j,k,l,m,n,o,p,q,r,s],D)) ()):=by
 kernel_rfl
theorem zJ.r4 :jF zi ⟨false,false,false⟩ (jd zi O) (reg Try.f35 4) (reg Try.f35 4).toList ([t,w,B,C,v,x,u,y,z,A,d,b,c,a,f,g,i,j,k,l,m,n,o,p,q,r,s]) S =
  (zN (ZY zi 24 (dem t) S) (fun F D=>some ([t,w,B,C,v,x,u,y,z,A,d,dem t,F,.int .i64 0,f,g,i,j,k,l,m,n,o,p,q,r,s],D)) ()):=by
 kernel_rfl
theorem zJ.r5 :jF zi ⟨false,false,false⟩ (jd zi O) (reg Try.f35 5) (reg Try.f35 5).toList ([t,w,B,C,v,x,u,y,z,A,d,b,c,a,f,g,i,j,k,l,m,n,o,p,q,r,s]) S =
  (zN (wH zi BinOp.lss 3 a c S) (fun E D=>some ([t,w,B,C,v,x,u,y,z,A,d,b,c,a,E,g,i,j,k,l,m,n,o,p,q,r,s],D)) ()):=by
 kernel_rfl
theorem zJ.r6 :jF zi ⟨false,false,false⟩ (jd zi O) (reg Try.f35 6) (reg Try.f35 6).toList ([t,w,B,C,v,x,u,y,z,A,d,b,c,a,f,g,i,j,k,l,m,n,o,p,q,r,s]) S =
  (zN (jr zi 24 b a S) (fun E D=>zN (jl zi false 3 E D) (fun F G=>some ([t,w,B,C,v,x,F,y,z,A,d,b,c,a,f,E,dem F,j,k,l,m,n,o,p,q,r,s],G)) ()) ()):=by
 kernel_rfl
theorem zJ.r7 :jF zi ⟨false,false,false⟩ (jd zi O) (reg Try.f35 7) (reg Try.f35 7).toList ([t,w,B,C,v,x,u,y,z,A,d,b,c,a,f,g,i,j,k,l,m,n,o,p,q,r,s]) S =
  (zN (wH zi BinOp.lss 3 (dem u) (.int .i64 (-1)) S) (fun F D=>some ([t,w,B,C,v,x,u,y,z,A,d,b,c,a,f,g,i,dem u,F,l,m,n,o,p,q,r,s],D)) ()):=by
 kernel_rfl
theorem zJ.r8 :jF zi ⟨false,false,false⟩ (jd zi O) (reg Try.f35 8) (reg Try.f35 8).toList ([t,w,B,C,v,x,u,y,z,A,d,b,c,a,f,g,i,j,k,l,m,n,o,p,q,r,s]) S =
  ( some ([t,w,Value.slice none 0 0,.int .i64 11,v,x,u,y,z,A,d,b,c,a,f,g,i,j,k,l,m,n,o,p,q,r,s],S)):=by
 kernel_rfl
theorem zJ.r9 :jF zi ⟨false,false,false⟩ (jd zi O) (reg Try.f35 9) (reg Try.f35 9).toList ([t,w,B,C,v,x,u,y,z,A,d,b,c,a,f,g,i,j,k,l,m,n,o,p,q,r,s]) S =
  (zN (qL zi false false 3 73 (dem u) S) (fun H D=>zN (wH zi BinOp.add 73 H (Value.int IntKind.u64 1) D) (fun I G=>zN ((jd zi O) 38 [(dem I)] G) (fun J L=>zN (yB zi 33 33 v J L) (fun K M=>some ([t,w,B,C,K,x,u,y,z,A,d,b,c,a,f,g,i,j,k,dem v,dem u,H,I,J,dem K,r,s],M)) ()) ()) ()) ()):=by
 kernel_rfl
theorem zJ.r10 :jF zi ⟨false,false,false⟩ (jd zi O) (reg Try.f35 10) (reg Try.f35 10).toList ([t,w,B,C,v,x,u,y,z,A,d,b,c,a,f,g,i,j,k,l,m,n,o,p,q,r,s]) S =
  (zN (wH zi BinOp.add 3 a (.int .i64 1) S) (fun E D=>some ([t,w,B,C,v,x,u,y,z,A,d,b,c,dem E,f,g,i,j,k,l,m,n,o,p,q,E,s],D)) ()):=by
 kernel_rfl
theorem zJ.r11 :jF zi ⟨false,false,false⟩ (jd zi O) (reg Try.f35 11) (reg Try.f35 11).toList ([t,w,B,C,v,x,u,y,z,A,d,b,c,a,f,g,i,j,k,l,m,n,o,p,q,r,s]) S =
  ( some ([t,w,v,.int .i64 0,dem v,x,u,y,z,A,d,b,c,a,f,g,i,j,k,l,m,n,o,p,q,r,dem v],S)):=by
 kernel_rfl
theorem zJ.rs:type_of% (alY @zJ.r0 (alY @zJ.r1 (alY @zJ.r2 (alY @zJ.r3 (alY @zJ.r4 (alY @zJ.r5 (alY @zJ.r6 (alY @zJ.r7 (alY @zJ.r8 (alY @zJ.r9 (alY @zJ.r10 (@zJ.r11)))))))))))):=alY @zJ.r0 (alY @zJ.r1 (alY @zJ.r2 (alY @zJ.r3 (alY @zJ.r4 (alY @zJ.r5 (alY @zJ.r6 (alY @zJ.r7 (alY @zJ.r8 (alY @zJ.r9 (alY @zJ.r10 (@zJ.r11)))))))))))
theorem zJ.runs {t:Value} {S D:zx} {e:AEx} {T:List Value} (h:zL zi O false zJ.code ([t,zh,zh,zh,zh,zh,zh,zh,zh,zh,zh,zh,zh,zh,zh,zh,zh,zh,zh,zh,zh,zh,zh,zh,zh,zh,zh]) S=some (e,T,D)) (he:e=.normal∨e=.ret)  (h0:wE (T.getD 2 zh)=true) (h1:wE (T.getD 3 zh)=true):jd zi O 35 [t] S=some (Value.tuple #[T.getD 2 zh,T.getD 3 zh],D) :=
 yK rfl rfl Try.func35 (by decide) zJ.body (by exact h) he ((qj ((show zQ zi T D Try.f35.results.toList=zQ zi T D [(ResultVar.tmp 2),(ResultVar.tmp 3)] from by kernel_rfl).trans (by simp only [zQ])) (by kernel_rfl) (by simp only [List.all_cons,List.all_nil,h0,h1,Bool.and_true])).trans rfl)
end Go.Proofs.Ytfjogganfjkckaa
namespace Go.Proofs.Ytfjogganfjkckaa
open Go.Abs
abbrev zH.id:FuncId:=28
noncomputable def zH.jS:Code:=(.seq (.seq (.region 4 (reg Try.f28 4) false) (.cond (.tmp 17) Code.skip (.exit 0))) (.seq (.block 1 (.seq (.region 6 (reg Try.f28 6) false) (.seq (.seq (.region 7 (reg Try.f28 7) false) (.cond (.tmp 31) (.seq (.region 8 (reg Try.f28 8) false) Code.ret) Code.skip)) (.seq (.region 9 (reg Try.f28 9) false) (.seq (.region 10 (reg Try.f28 10) false) (.seq (.region 11 (reg Try.f28 11) false) (.cond (.tmp 43) (.seq (.region 12 (reg Try.f28 12) false) (.seq (.seq (.region 13 (reg Try.f28 13) false) (.cond (.tmp 50) (.seq (.region 14 (reg Try.f28 14) false) Code.ret) Code.skip)) (.seq (.region 15 (reg Try.f28 15) false) Code.ret))) Code.skip))))))) (.region 5 (reg Try.f28 5) false)))
noncomputable def zH.code:Code:=(.seq (.region 0 (reg Try.f28 0) false) (.seq (.region 1 (reg Try.f28 1) false) (.seq (.region 2 (reg Try.f28 2) false) (.seq (.seq (.region 3 (reg Try.f28 3) false) (.block 0 (.loop zH.jS))) (.seq (.region 16 (reg Try.f28 16) false) Code.ret)))))
theorem zH.body:Try.f28.body=some zH.code:=by kernel_rfl
theorem zH.eta {T:List Value} (h:T.length=58):T=[T.getD 0 zh,T.getD 1 zh,T.getD 2 zh,T.getD 3 zh,T.getD 4 zh,T.getD 5 zh,T.getD 6 zh,T.getD 7 zh,T.getD 8 zh,T.getD 9 zh,T.getD 10 zh,T.getD 11 zh,T.getD 12 zh,T.getD 13 zh,T.getD 14 zh,T.getD 15 zh,T.getD 16 zh,T.getD 17 zh,T.getD 18 zh,T.getD 19 zh,T.getD 20 zh,T.getD 21 zh,T.getD 22 zh,T.getD 23 zh,T.getD 24 zh,T.getD 25 zh,T.getD 26 zh,T.getD 27 zh,T.getD 28 zh,T.getD 29 zh,T.getD 30 zh,T.getD 31 zh,T.getD 32 zh,T.getD 33 zh,T.getD 34 zh,T.getD 35 zh,T.getD 36 zh,T.getD 37 zh,T.getD 38 zh,T.getD 39 zh,T.getD 40 zh,T.getD 41 zh,T.getD 42 zh,T.getD 43 zh,T.getD 44 zh,T.getD 45 zh,T.getD 46 zh,T.getD 47 zh,T.getD 48 zh,T.getD 49 zh,T.getD 50 zh,T.getD 51 zh,T.getD 52 zh,T.getD 53 zh,T.getD 54 zh,T.getD 55 zh,T.getD 56 zh,T.getD 57 zh]:=(qQ T 58 h).trans (by kernel_rfl)
theorem zH.list {T:List Value} (h:T.length=58):∃ x0 x1 x2 x3 x4 x5 x6 x7 x8 x9 a b c d f g i k l m n o p q r s t u w x y z A B C D E F G H I J K L M N P Q R U V W X Y Z a0 a1 a2,T=[x0,x1,x2,x3,x4,x5,x6,x7,x8,x9,a,b,c,d,f,g,i,k,l,m,n,o,p,q,r,s,t,u,w,x,y,z,A,B,C,D,E,F,G,H,I,J,K,L,M,N,P,Q,R,U,V,W,X,Y,Z,a0,a1,a2]:=⟨_,_,_,_,_,_,_,_,_,_,_,_,_,_,_,_,_,_,_,_,_,_,_,_,_,_,_,_,_,_,_,_,_,_,_,_,_,_,_,_,_,_,_,_,_,_,_,_,_,_,_,_,_,_,_,_,_,_,zH.eta h⟩
variable (x0 x1 x2 x3 x4 x5 x6 x7 x8 x9 a b c d f g i k l m n o p q r s t u w x y z A B C D E F G H I J K L M N P Q R U V W X Y Z a0 a1 a2:Value) (S:zx)
theorem zH.r0 :jF zi ⟨false,false,false⟩ (jd zi O) (reg Try.f28 0) (reg Try.f28 0).toList ([x0,x1,x2,x3,x4,x5,x6,x7,x8,x9,a,b,c,d,f,g,i,k,l,m,n,o,p,q,r,s,t,u,w,x,y,z,A,B,C,D,E,F,G,H,I,J,K,L,M,N,P,Q,R,U,V,W,X,Y,Z,a0,a1,a2]) S =
  ( some ([x0,x1,Value.int IntKind.u64 0,Value.slice none 0 0,.int .i64 0,x5,x6,x7,x8,x9,a,b,c,d,f,g,i,k,l,m,n,o,p,q,r,s,t,u,w,x,y,z,A,B,C,D,E,F,G,H,I,J,K,L,M,N,P,Q,R,U,V,W,X,Y,Z,a0,a1,a2],S)):=by
 kernel_rfl
theorem zH.r1 :jF zi ⟨false,false,false⟩ (jd zi O) (reg Try.f28 1) (reg Try.f28 1).toList ([x0,x1,x2,x3,x4,x5,x6,x7,x8,x9,a,b,c,d,f,g,i,k,l,m,n,o,p,q,r,s,t,u,w,x,y,z,A,B,C,D,E,F,G,H,I,J,K,L,M,N,P,Q,R,U,V,W,X,Y,Z,a0,a1,a2]) S =
  ( some ([x0,x1,x2,x3,x4,Value.int IntKind.u64 0,x6,x7,x8,x9,a,b,c,d,f,g,i,k,l,m,n,o,p,q,r,s,t,u,w,x,y,z,A,B,C,D,E,F,G,H,I,J,K,L,M,N,P,Q,R,U,V,W,X,Y,Z,a0,a1,a2],S)):=by
 kernel_rfl
theorem zH.r2 :jF zi ⟨false,false,false⟩ (jd zi O) (reg Try.f28 2) (reg Try.f28 2).toList ([x0,x1,x2,x3,x4,x5,x6,x7,x8,x9,a,b,c,d,f,g,i,k,l,m,n,o,p,q,r,s,t,u,w,x,y,z,A,B,C,D,E,F,G,H,I,J,K,L,M,N,P,Q,R,U,V,W,X,Y,Z,a0,a1,a2]) S =
  ( some ([x0,x1,x2,x3,x4,x5,Value.int IntKind.u64 1,x7,x8,x9,a,b,c,d,f,g,i,k,l,m,n,o,p,q,r,s,t,u,w,x,y,z,A,B,C,D,E,F,G,H,I,J,K,L,M,N,P,Q,R,U,V,W,X,Y,Z,a0,a1,a2],S)):=by
 kernel_rfl
theorem zH.r3 :jF zi ⟨false,false,false⟩ (jd zi O) (reg Try.f28 3) (reg Try.f28 3).toList ([x0,x1,x2,x3,x4,x5,x6,x7,x8,x9,a,b,c,d,f,g,i,k,l,m,n,o,p,q,r,s,t,u,w,x,y,z,A,B,C,D,E,F,G,H,I,J,K,L,M,N,P,Q,R,U,V,W,X,Y,Z,a0,a1,a2]) S =
  ( some ([x0,x1,x2,x3,x4,x5,x6,.int .i64 0,x8,x9,a,b,c,d,f,g,i,k,l,m,n,o,p,q,r,s,t,u,w,x,y,z,A,B,C,D,E,F,G,H,I,J,K,L,M,N,P,Q,R,U,V,W,X,Y,Z,a0,a1,a2],S)):=by
 kernel_rfl
theorem zH.r4 :jF zi ⟨false,false,false⟩ (jd zi O) (reg Try.f28 4) (reg Try.f28 4).toList ([x0,x1,x2,x3,x4,x5,x6,x7,x8,x9,a,b,c,d,f,g,i,k,l,m,n,o,p,q,r,s,t,u,w,x,y,z,A,B,C,D,E,F,G,H,I,J,K,L,M,N,P,Q,R,U,V,W,X,Y,Z,a0,a1,a2]) S =
  (zN (ZY zi 33 (dem x0) S) (fun v2 S1=>zN (wH zi BinOp.lss 3 (dem x7) v2 S1) (fun v3 S2=>gdK (dem v3) true (ret x7) S2 (fun v5 S3=>gdK (dem v3) true (wH zi BinOp.lss 3 (dem v5) (.int .i64 10)) S3 (fun v6 S4=>zN (wW (dem v3) v6 (Value.bool false) S4) (fun v7 S5=>some ([x0,x1,x2,x3,x4,x5,x6,x7,x8,x9,dem x7,dem x0,v2,v3,dem v3,dem v5,v6,v7,l,m,n,o,p,q,r,s,t,u,w,x,y,z,A,B,C,D,E,F,G,H,I,J,K,L,M,N,P,Q,R,U,V,W,X,Y,Z,a0,a1,a2],S5)) ()) ()) ()) ()) ()):=by
 refine sP Try.f28 4 0 (v:=x7) ?_
 refine sP Try.f28 4 1 (v:=x0) ?_
 refine sD Try.f28 4 2 (fun v2 S1=>?_)
 refine sD Try.f28 4 3 (fun v3 S2=>?_)
 refine sP Try.f28 4 4 (v:=v3) ?_
 refine sG Try.f28 4 5 (j:=4) (fun v5 S3=>?_)
 refine sG Try.f28 4 6 (j:=4) (fun v6 S4=>?_)
 refine sD Try.f28 4 7 (fun v7 S5=>?_)
 kernel_rfl
theorem zH.r6 :jF zi ⟨false,false,false⟩ (jd zi O) (reg Try.f28 6) (reg Try.f28 6).toList ([x0,x1,x2,x3,x4,x5,x6,x7,x8,x9,a,b,c,d,f,g,i,k,l,m,n,o,p,q,r,s,t,u,w,x,y,z,A,B,C,D,E,F,G,H,I,J,K,L,M,N,P,Q,R,U,V,W,X,Y,Z,a0,a1,a2]) S =
  (zN (jr zi 33 (dem x0) (dem x7) S) (fun v2 S1=>zN (jl zi false 5 v2 S1) (fun v3 S2=>zN (wH zi BinOp.rem 5 v3 (Value.int IntKind.u8 128) S2) (fun v4 S3=>zN (qL zi false false 5 73 v4 S3) (fun v5 S4=>some ([x0,x1,x2,x3,x4,x5,x6,x7,v5,x9,a,b,c,d,f,g,i,k,l,m,dem x0,dem x7,v2,v3,v4,dem v5,t,u,w,x,y,z,A,B,C,D,E,F,G,H,I,J,K,L,M,N,P,Q,R,U,V,W,X,Y,Z,a0,a1,a2],S4)) ()) ()) ()) ()):=by
 kernel_rfl
theorem zH.r7 :jF zi ⟨false,false,false⟩ (jd zi O) (reg Try.f28 7) (reg Try.f28 7).toList ([x0,x1,x2,x3,x4,x5,x6,x7,x8,x9,a,b,c,d,f,g,i,k,l,m,n,o,p,q,r,s,t,u,w,x,y,z,A,B,C,D,E,F,G,H,I,J,K,L,M,N,P,Q,R,U,V,W,X,Y,Z,a0,a1,a2]) S =
  (zN (wH zi BinOp.eql 3 (dem x7) (.int .i64 9) S) (fun v1 S1=>gdK (dem v1) true (ret x8) S1 (fun v3 S2=>gdK (dem v1) true (wH zi BinOp.gtr 73 (dem v3) (Value.int IntKind.u64 1)) S2 (fun v4 S3=>zN (wW (dem v1) v4 (Value.bool false) S3) (fun v5 S4=>some ([x0,x1,x2,x3,x4,x5,x6,x7,x8,x9,a,b,c,d,f,g,i,k,l,m,n,o,p,q,r,s,dem x7,v1,dem v1,dem v3,v4,v5,A,B,C,D,E,F,G,H,I,J,K,L,M,N,P,Q,R,U,V,W,X,Y,Z,a0,a1,a2],S4)) ()) ()) ()) ()):=by
 refine sP Try.f28 7 0 (v:=x7) ?_
 refine sD Try.f28 7 1 (fun v1 S1=>?_)
 refine sP Try.f28 7 2 (v:=v1) ?_
 refine sG Try.f28 7 3 (j:=2) (fun v3 S2=>?_)
 refine sG Try.f28 7 4 (j:=2) (fun v4 S3=>?_)
 refine sD Try.f28 7 5 (fun v5 S4=>?_)
 kernel_rfl
theorem zH.r8 :jF zi ⟨false,false,false⟩ (jd zi O) (reg Try.f28 8) (reg Try.f28 8).toList ([x0,x1,x2,x3,x4,x5,x6,x7,x8,x9,a,b,c,d,f,g,i,k,l,m,n,o,p,q,r,s,t,u,w,x,y,z,A,B,C,D,E,F,G,H,I,J,K,L,M,N,P,Q,R,U,V,W,X,Y,Z,a0,a1,a2]) S =
  ( some ([x0,x1,Value.int IntKind.u64 0,Value.slice none 0 0,.int .i64 11,x5,x6,x7,x8,x9,a,b,c,d,f,g,i,k,l,m,n,o,p,q,r,s,t,u,w,x,y,z,A,B,C,D,E,F,G,H,I,J,K,L,M,N,P,Q,R,U,V,W,X,Y,Z,a0,a1,a2],S)):=by
 kernel_rfl
theorem zH.r9 :jF zi ⟨false,false,false⟩ (jd zi O) (reg Try.f28 9) (reg Try.f28 9).toList ([x0,x1,x2,x3,x4,x5,x6,x7,x8,x9,a,b,c,d,f,g,i,k,l,m,n,o,p,q,r,s,t,u,w,x,y,z,A,B,C,D,E,F,G,H,I,J,K,L,M,N,P,Q,R,U,V,W,X,Y,Z,a0,a1,a2]) S =
  (zN (wH zi BinOp.mul 73 (dem x8) (dem x6) S) (fun v3 S1=>zN (wH zi BinOp.add 73 (dem x5) v3 S1) (fun v4 S2=>some ([x0,x1,x2,x3,x4,v4,x6,x7,x8,x9,a,b,c,d,f,g,i,k,l,m,n,o,p,q,r,s,t,u,w,x,y,z,dem x5,dem x8,dem x6,v3,dem v4,F,G,H,I,J,K,L,M,N,P,Q,R,U,V,W,X,Y,Z,a0,a1,a2],S2)) ()) ()):=by
 kernel_rfl
theorem zH.r10 :jF zi ⟨false,false,false⟩ (jd zi O) (reg Try.f28 10) (reg Try.f28 10).toList ([x0,x1,x2,x3,x4,x5,x6,x7,x8,x9,a,b,c,d,f,g,i,k,l,m,n,o,p,q,r,s,t,u,w,x,y,z,A,B,C,D,E,F,G,H,I,J,K,L,M,N,P,Q,R,U,V,W,X,Y,Z,a0,a1,a2]) S =
  (zN (wH zi BinOp.mul 73 (dem x6) (Value.int IntKind.u64 128) S) (fun v1 S1=>some ([x0,x1,x2,x3,x4,x5,v1,x7,x8,x9,a,b,c,d,f,g,i,k,l,m,n,o,p,q,r,s,t,u,w,x,y,z,A,B,C,D,E,dem x6,dem v1,H,I,J,K,L,M,N,P,Q,R,U,V,W,X,Y,Z,a0,a1,a2],S1)) ()):=by
 kernel_rfl
theorem zH.r11 :jF zi ⟨false,false,false⟩ (jd zi O) (reg Try.f28 11) (reg Try.f28 11).toList ([x0,x1,x2,x3,x4,x5,x6,x7,x8,x9,a,b,c,d,f,g,i,k,l,m,n,o,p,q,r,s,t,u,w,x,y,z,A,B,C,D,E,F,G,H,I,J,K,L,M,N,P,Q,R,U,V,W,X,Y,Z,a0,a1,a2]) S =
  (zN (jr zi 33 (dem x0) (dem x7) S) (fun v2 S1=>zN (jl zi false 5 v2 S1) (fun v3 S2=>zN (wH zi BinOp.lss 5 v3 (Value.int IntKind.u8 128) S2) (fun v4 S3=>some ([x0,x1,x2,x3,x4,x5,x6,x7,x8,x9,a,b,c,d,f,g,i,k,l,m,n,o,p,q,r,s,t,u,w,x,y,z,A,B,C,D,E,F,G,dem x0,dem x7,v2,v3,v4,M,N,P,Q,R,U,V,W,X,Y,Z,a0,a1,a2],S3)) ()) ()) ()):=by
 kernel_rfl
theorem zH.r12 :jF zi ⟨false,false,false⟩ (jd zi O) (reg Try.f28 12) (reg Try.f28 12).toList ([x0,x1,x2,x3,x4,x5,x6,x7,x8,x9,a,b,c,d,f,g,i,k,l,m,n,o,p,q,r,s,t,u,w,x,y,z,A,B,C,D,E,F,G,H,I,J,K,L,M,N,P,Q,R,U,V,W,X,Y,Z,a0,a1,a2]) S =
  (zN ((jd zi O) 38 [(dem (dem x5))] S) (fun v1 S1=>some ([x0,x1,x2,x3,x4,x5,x6,x7,x8,v1,a,b,c,d,f,g,i,k,l,m,n,o,p,q,r,s,t,u,w,x,y,z,A,B,C,D,E,F,G,H,I,J,K,L,dem x5,dem v1,P,Q,R,U,V,W,X,Y,Z,a0,a1,a2],S1)) ()):=by
 kernel_rfl
theorem zH.r13 :jF zi ⟨false,false,false⟩ (jd zi O) (reg Try.f28 13) (reg Try.f28 13).toList ([x0,x1,x2,x3,x4,x5,x6,x7,x8,x9,a,b,c,d,f,g,i,k,l,m,n,o,p,q,r,s,t,u,w,x,y,z,A,B,C,D,E,F,G,H,I,J,K,L,M,N,P,Q,R,U,V,W,X,Y,Z,a0,a1,a2]) S =
  (zN (ZY zi 33 (dem x9) S) (fun v1 S1=>zN (wH zi BinOp.add 3 (dem x7) (.int .i64 1) S1) (fun v3 S2=>zN (wH zi BinOp.neq 3 v1 v3 S2) (fun v4 S3=>some ([x0,x1,x2,x3,x4,x5,x6,x7,x8,x9,a,b,c,d,f,g,i,k,l,m,n,o,p,q,r,s,t,u,w,x,y,z,A,B,C,D,E,F,G,H,I,J,K,L,M,N,dem x9,v1,dem x7,v3,v4,W,X,Y,Z,a0,a1,a2],S3)) ()) ()) ()):=by
 kernel_rfl
theorem zH.r14 :jF zi ⟨false,false,false⟩ (jd zi O) (reg Try.f28 14) (reg Try.f28 14).toList ([x0,x1,x2,x3,x4,x5,x6,x7,x8,x9,a,b,c,d,f,g,i,k,l,m,n,o,p,q,r,s,t,u,w,x,y,z,A,B,C,D,E,F,G,H,I,J,K,L,M,N,P,Q,R,U,V,W,X,Y,Z,a0,a1,a2]) S =
  ( some ([x0,x1,Value.int IntKind.u64 0,Value.slice none 0 0,.int .i64 11,x5,x6,x7,x8,x9,a,b,c,d,f,g,i,k,l,m,n,o,p,q,r,s,t,u,w,x,y,z,A,B,C,D,E,F,G,H,I,J,K,L,M,N,P,Q,R,U,V,W,X,Y,Z,a0,a1,a2],S)):=by
 kernel_rfl
theorem zH.r15 :jF zi ⟨false,false,false⟩ (jd zi O) (reg Try.f28 15) (reg Try.f28 15).toList ([x0,x1,x2,x3,x4,x5,x6,x7,x8,x9,a,b,c,d,f,g,i,k,l,m,n,o,p,q,r,s,t,u,w,x,y,z,A,B,C,D,E,F,G,H,I,J,K,L,M,N,P,Q,R,U,V,W,X,Y,Z,a0,a1,a2]) S =
  (zN (jU zi 33 0 [] S) (fun v1 S1=>zN (wH zi BinOp.add 3 (dem x7) (.int .i64 1) S1) (fun v4 S2=>zN (ZQ zi false 33 (dem x0) (some v4) none S2) (fun v5 S3=>zN (yB zi 33 33 v1 v5 S3) (fun v6 S4=>some ([x0,x1,x5,v6,.int .i64 0,dem x5,x6,x7,x8,x9,a,b,c,d,f,g,i,k,l,m,n,o,p,q,r,s,t,u,w,x,y,z,A,B,C,D,E,F,G,H,I,J,K,L,M,N,P,Q,R,U,V,dem x5,dem v1,dem x0,dem x7,v4,v5,dem v6],S4)) ()) ()) ()) ()):=by
 kernel_rfl
theorem zH.r5 :jF zi ⟨false,false,false⟩ (jd zi O) (reg Try.f28 5) (reg Try.f28 5).toList ([x0,x1,x2,x3,x4,x5,x6,x7,x8,x9,a,b,c,d,f,g,i,k,l,m,n,o,p,q,r,s,t,u,w,x,y,z,A,B,C,D,E,F,G,H,I,J,K,L,M,N,P,Q,R,U,V,W,X,Y,Z,a0,a1,a2]) S =
  (zN (wH zi BinOp.add 3 (dem x7) (.int .i64 1) S) (fun v1 S1=>some ([x0,x1,x2,x3,x4,x5,x6,v1,x8,x9,a,b,c,d,f,g,i,k,dem x7,dem v1,n,o,p,q,r,s,t,u,w,x,y,z,A,B,C,D,E,F,G,H,I,J,K,L,M,N,P,Q,R,U,V,W,X,Y,Z,a0,a1,a2],S1)) ()):=by
 kernel_rfl
theorem zH.r16 :jF zi ⟨false,false,false⟩ (jd zi O) (reg Try.f28 16) (reg Try.f28 16).toList ([x0,x1,x2,x3,x4,x5,x6,x7,x8,x9,a,b,c,d,f,g,i,k,l,m,n,o,p,q,r,s,t,u,w,x,y,z,A,B,C,D,E,F,G,H,I,J,K,L,M,N,P,Q,R,U,V,W,X,Y,Z,a0,a1,a2]) S =
  ( some ([x0,x1,Value.int IntKind.u64 0,Value.slice none 0 0,.int .i64 11,x5,x6,x7,x8,x9,a,b,c,d,f,g,i,k,l,m,n,o,p,q,r,s,t,u,w,x,y,z,A,B,C,D,E,F,G,H,I,J,K,L,M,N,P,Q,R,U,V,W,X,Y,Z,a0,a1,a2],S)):=by
 kernel_rfl
theorem zH.runs {x0:Value} {S S1:zx} {e:AEx} {T:List Value} (h:zL zi O false zH.code ([x0,zh,zh,zh,zh,zh,zh,zh,zh,zh,zh,zh,zh,zh,zh,zh,zh,zh,zh,zh,zh,zh,zh,zh,zh,zh,zh,zh,zh,zh,zh,zh,zh,zh,zh,zh,zh,zh,zh,zh,zh,zh,zh,zh,zh,zh,zh,zh,zh,zh,zh,zh,zh,zh,zh,zh,zh,zh]) S=some (e,T,S1)) (he:e=.normal∨e=.ret)  (h0:wE (T.getD 2 zh)=true) (h1:wE (T.getD 3 zh)=true) (h2:wE (T.getD 4 zh)=true):jd zi O 28 [x0] S=some (Value.tuple #[T.getD 2 zh,T.getD 3 zh,T.getD 4 zh],S1) :=
 yK rfl rfl Try.func28 (by decide) zH.body (by exact h) he ((qj ((show zQ zi T S1 Try.f28.results.toList=zQ zi T S1 [(ResultVar.tmp 2),(ResultVar.tmp 3),(ResultVar.tmp 4)] from by kernel_rfl).trans (by simp only [zQ])) (by kernel_rfl) (by simp only [List.all_cons,List.all_nil,h0,h1,h2,Bool.and_true])).trans rfl)
end Go.Proofs.Ytfjogganfjkckaa
namespace Go.Proofs.Ytfjogganfjkckaa
open Go.Abs
abbrev slices_Clone.id:FuncId:=54
noncomputable def slices_Clone.code:Code:=(.seq (.region 0 (reg Try.f54 0) false) (.seq (.seq (.region 1 (reg Try.f54 1) false) (.cond (.tmp 4) (.seq (.region 2 (reg Try.f54 2) false) Code.ret) Code.skip)) (.seq (.region 3 (reg Try.f54 3) false) Code.ret)))
theorem slices_Clone.body:Try.f54.body=some slices_Clone.code:=by kernel_rfl
variable (b c l f g i j k:Value) (S:zx)
theorem slices_Clone.r0 :jF zi ⟨false,false,false⟩ (jd zi O) (reg Try.f54 0) (reg Try.f54 0).toList ([b,c,l,f,g,i,j,k]) S =
  ( some ([b,c,Value.slice none 0 0,f,g,i,j,k],S)):=by
 kernel_rfl
theorem slices_Clone.r1 :jF zi ⟨false,false,false⟩ (jd zi O) (reg Try.f54 1) (reg Try.f54 1).toList ([b,c,l,f,g,i,j,k]) S =
  (zN (wH zi BinOp.eql 33 (dem b) (Value.slice none 0 0) S) (fun o d=>some ([b,c,l,dem b,o,i,j,k],d)) ()):=by
 kernel_rfl
theorem slices_Clone.r2 :jF zi ⟨false,false,false⟩ (jd zi O) (reg Try.f54 2) (reg Try.f54 2).toList ([b,c,l,f,g,i,j,k]) S =
  ( some ([b,c,Value.slice none 0 0,f,g,i,j,k],S)):=by
 kernel_rfl
theorem slices_Clone.r3 :jF zi ⟨false,false,false⟩ (jd zi O) (reg Try.f54 3) (reg Try.f54 3).toList ([b,c,l,f,g,i,j,k]) S =
  (zN (jU zi 33 0 [] S) (fun m d=>zN (yB zi 33 33 m (dem b) d) (fun n p=>some ([b,c,n,f,g,dem m,dem b,dem n],p)) ()) ()):=by
 kernel_rfl
theorem slices_Clone.runs {b:Value} {S d:zx} {e:AEx} {T:List Value} (h:zL zi O false slices_Clone.code ([b,zh,zh,zh,zh,zh,zh,zh]) S=some (e,T,d)) (he:e=.normal∨e=.ret):jd zi O 54 [b] S=some (T.getD 2 zh,d) :=
 yK rfl rfl Try.func54 (by decide) slices_Clone.body (by exact h) he (yG (a:=T.getD 2 zh) ((show zQ zi T d Try.f54.results.toList=zQ zi T d [(ResultVar.tmp 2)] from by kernel_rfl).trans (by simp only [zQ])) (by kernel_rfl))
end Go.Proofs.Ytfjogganfjkckaa
namespace Go.Proofs.Ytfjogganfjkckaa
open Go.Abs
abbrev jB.id:FuncId:=41
noncomputable def jB.jS:Code:=(.seq (.region 3 (reg Try.f41 3) false) (.seq (.cond (.tmp 11) Code.skip (.exit 0)) (.seq (.block 1 (.seq (.region 4 (reg Try.f41 4) false) (.seq (.seq (.region 5 (reg Try.f41 5) false) (.cond (.tmp 28) (.exit 0) Code.skip)) (.seq (.region 6 (reg Try.f41 6) false) (.seq (.region 7 (reg Try.f41 7) false) (.cond (.tmp 38) (.seq (.region 8 (reg Try.f41 8) false) Code.ret) Code.skip)))))) (.region 9 (reg Try.f41 9) false))))
noncomputable def jB.code:Code:=(.seq (.region 0 (reg Try.f41 0) false) (.seq (.region 1 (reg Try.f41 1) false) (.seq (.seq (.region 2 (reg Try.f41 2) false) (.block 0 (.loop jB.jS))) (.seq (.region 10 (reg Try.f41 10) false) Code.ret))))
theorem jB.body:Try.f41.body=some jB.code:=by kernel_rfl
theorem jB.eta {T:List Value} (h:T.length=46):T=[T.getD 0 zh,T.getD 1 zh,T.getD 2 zh,T.getD 3 zh,T.getD 4 zh,T.getD 5 zh,T.getD 6 zh,T.getD 7 zh,T.getD 8 zh,T.getD 9 zh,T.getD 10 zh,T.getD 11 zh,T.getD 12 zh,T.getD 13 zh,T.getD 14 zh,T.getD 15 zh,T.getD 16 zh,T.getD 17 zh,T.getD 18 zh,T.getD 19 zh,T.getD 20 zh,T.getD 21 zh,T.getD 22 zh,T.getD 23 zh,T.getD 24 zh,T.getD 25 zh,T.getD 26 zh,T.getD 27 zh,T.getD 28 zh,T.getD 29 zh,T.getD 30 zh,T.getD 31 zh,T.getD 32 zh,T.getD 33 zh,T.getD 34 zh,T.getD 35 zh,T.getD 36 zh,T.getD 37 zh,T.getD 38 zh,T.getD 39 zh,T.getD 40 zh,T.getD 41 zh,T.getD 42 zh,T.getD 43 zh,T.getD 44 zh,T.getD 45 zh]:=(qQ T 46 h).trans (by kernel_rfl)
theorem jB.list {T:List Value} (h:T.length=46):∃ P V Y Z x4 U Q R W X a b c d f g i k l m n o p q r s t u w x y z A B C D E F G H I J K L M N,T=[P,V,Y,Z,x4,U,Q,R,W,X,a,b,c,d,f,g,i,k,l,m,n,o,p,q,r,s,t,u,w,x,y,z,A,B,C,D,E,F,G,H,I,J,K,L,M,N]:=⟨_,_,_,_,_,_,_,_,_,_,_,_,_,_,_,_,_,_,_,_,_,_,_,_,_,_,_,_,_,_,_,_,_,_,_,_,_,_,_,_,_,_,_,_,_,_,jB.eta h⟩
variable (P V Y Z x4 U Q R W X a b c d f g i k l m n o p q r s t u w x y z A B C D E F G H I J K L M N:Value) (S:zx)
theorem jB.r0 :jF zi ⟨false,false,false⟩ (jd zi O) (reg Try.f41 0) (reg Try.f41 0).toList ([P,V,Y,Z,x4,U,Q,R,W,X,a,b,c,d,f,g,i,k,l,m,n,o,p,q,r,s,t,u,w,x,y,z,A,B,C,D,E,F,G,H,I,J,K,L,M,N]) S =
  ( some ([P,V,Value.int IntKind.u64 0,Value.slice none 0 0,.int .i64 0,U,Q,R,W,X,a,b,c,d,f,g,i,k,l,m,n,o,p,q,r,s,t,u,w,x,y,z,A,B,C,D,E,F,G,H,I,J,K,L,M,N],S)):=by
 kernel_rfl
theorem jB.r1 :jF zi ⟨false,false,false⟩ (jd zi O) (reg Try.f41 1) (reg Try.f41 1).toList ([P,V,Y,Z,x4,U,Q,R,W,X,a,b,c,d,f,g,i,k,l,m,n,o,p,q,r,s,t,u,w,x,y,z,A,B,C,D,E,F,G,H,I,J,K,L,M,N]) S =
  ( some ([P,V,Y,Z,x4,Value.int IntKind.u64 0,Q,R,W,X,a,b,c,d,f,g,i,k,l,m,n,o,p,q,r,s,t,u,w,x,y,z,A,B,C,D,E,F,G,H,I,J,K,L,M,N],S)):=by
 kernel_rfl
theorem jB.r2 :jF zi ⟨false,false,false⟩ (jd zi O) (reg Try.f41 2) (reg Try.f41 2).toList ([P,V,Y,Z,x4,U,Q,R,W,X,a,b,c,d,f,g,i,k,l,m,n,o,p,q,r,s,t,u,w,x,y,z,A,B,C,D,E,F,G,H,I,J,K,L,M,N]) S =
  (zN (ZY zi 33 (dem P) S) (fun v1 S1=>some ([P,V,Y,Z,x4,U,Q,R,dem P,v1,.int .i64 0,b,c,d,f,g,i,k,l,m,n,o,p,q,r,s,t,u,w,x,y,z,A,B,C,D,E,F,G,H,I,J,K,L,M,N],S1)) ()):=by
 kernel_rfl
theorem jB.r3 :jF zi ⟨false,false,false⟩ (jd zi O) (reg Try.f41 3) (reg Try.f41 3).toList ([P,V,Y,Z,x4,U,Q,R,W,X,a,b,c,d,f,g,i,k,l,m,n,o,p,q,r,s,t,u,w,x,y,z,A,B,C,D,E,F,G,H,I,J,K,L,M,N]) S =
  (zN (wH zi BinOp.lss 3 a X S) (fun v0 S1=>some ([P,V,Y,Z,x4,U,Q,R,W,X,a,v0,c,d,f,g,i,k,l,m,n,o,p,q,r,s,t,u,w,x,y,z,A,B,C,D,E,F,G,H,I,J,K,L,M,N],S1)) ()):=by
 kernel_rfl
theorem jB.r4 :jF zi ⟨false,false,false⟩ (jd zi O) (reg Try.f41 4) (reg Try.f41 4).toList ([P,V,Y,Z,x4,U,Q,R,W,X,a,b,c,d,f,g,i,k,l,m,n,o,p,q,r,s,t,u,w,x,y,z,A,B,C,D,E,F,G,H,I,J,K,L,M,N]) S =
  (zN (jr zi 33 W (dem a) S) (fun v1 S1=>zN (jl zi false 5 v1 S1) (fun v2 S2=>some ([P,V,Y,Z,x4,U,a,v2,W,X,dem a,b,dem a,v1,dem v2,g,i,k,l,m,n,o,p,q,r,s,t,u,w,x,y,z,A,B,C,D,E,F,G,H,I,J,K,L,M,N],S2)) ()) ()):=by
 kernel_rfl
theorem jB.r5 :jF zi ⟨false,false,false⟩ (jd zi O) (reg Try.f41 5) (reg Try.f41 5).toList ([P,V,Y,Z,x4,U,Q,R,W,X,a,b,c,d,f,g,i,k,l,m,n,o,p,q,r,s,t,u,w,x,y,z,A,B,C,D,E,F,G,H,I,J,K,L,M,N]) S =
  (zN (wH zi BinOp.eql 3 (dem Q) (.int .i64 9) S) (fun v1 S1=>gdK (dem v1) true (ret R) S1 (fun v3 S2=>gdK (dem v1) true (wH zi BinOp.gtr 5 (dem v3) (Value.int IntKind.u8 1)) S2 (fun v4 S3=>zN (wW (dem v1) v4 (Value.bool false) S3) (fun v5 S4=>gdK (dem v5) false (ret Q) S4 (fun v7 S5=>gdK (dem v5) false (wH zi BinOp.gtr 3 (dem v7) (.int .i64 0)) S5 (fun v8 S6=>gdK (dem v5) false (ret v8) S6 (fun v9 S7=>gdK (dem v9) true (ret R) S7 (fun a0 S8=>gdK (dem v9) true (wH zi BinOp.eql 5 (dem a0) (Value.int IntKind.u8 0)) S8 (fun a1 S9=>gdK (dem v5) false (wW (dem v9) a1 (Value.bool false)) S9 (fun a2 a3=>zN (wW (dem v5) (Value.bool true) a2 a3) (fun a4 a5=>some ([P,V,Y,Z,x4,U,Q,R,W,X,a,b,c,d,f,dem Q,v1,dem v1,dem v3,v4,v5,dem v5,dem v7,v8,dem v9,dem a0,a1,a2,a4,x,y,z,A,B,C,D,E,F,G,H,I,J,K,L,M,N],a5)) ()) ()) ()) ()) ()) ()) ()) ()) ()) ()) ()):=by
 refine sP Try.f41 5 0 (v:=Q) ?_
 refine sD Try.f41 5 1 (fun v1 S1=>?_)
 refine sP Try.f41 5 2 (v:=v1) ?_
 refine sG Try.f41 5 3 (j:=2) (fun v3 S2=>?_)
 refine sG Try.f41 5 4 (j:=2) (fun v4 S3=>?_)
 refine sD Try.f41 5 5 (fun v5 S4=>?_)
 refine sP Try.f41 5 6 (v:=v5) ?_
 refine sG Try.f41 5 7 (j:=6) (fun v7 S5=>?_)
 refine sG Try.f41 5 8 (j:=6) (fun v8 S6=>?_)
 refine sG Try.f41 5 9 (j:=6) (fun v9 S7=>?_)
 refine sG Try.f41 5 10 (j:=9) (fun a0 S8=>?_)
 refine sG Try.f41 5 11 (j:=9) (fun a1 S9=>?_)
 refine sG Try.f41 5 12 (j:=6) (fun a2 a3=>?_)
 refine sD Try.f41 5 13 (fun a4 a5=>?_)
 kernel_rfl
theorem jB.r6 :jF zi ⟨false,false,false⟩ (jd zi O) (reg Try.f41 6) (reg Try.f41 6).toList ([P,V,Y,Z,x4,U,Q,R,W,X,a,b,c,d,f,g,i,k,l,m,n,o,p,q,r,s,t,u,w,x,y,z,A,B,C,D,E,F,G,H,I,J,K,L,M,N]) S =
  (zN (wH zi BinOp.and 5 (dem R) (Value.int IntKind.u8 127) S) (fun v2 S1=>zN (qL zi false false 5 73 v2 S1) (fun v3 S2=>zN (wH zi BinOp.mul 3 (.int .i64 7) (dem Q) S2) (fun v5 S3=>zN (wH zi BinOp.shl 73 v3 v5 S3) (fun v6 S4=>zN (wH zi BinOp.or 73 (dem U) v6 S4) (fun v7 S5=>some ([P,V,Y,Z,x4,v7,Q,R,W,X,a,b,c,d,f,g,i,k,l,m,n,o,p,q,r,s,t,u,w,dem U,dem R,v2,v3,dem Q,v5,v6,dem v7,F,G,H,I,J,K,L,M,N],S5)) ()) ()) ()) ()) ()):=by
 kernel_rfl
theorem jB.r7 :jF zi ⟨false,false,false⟩ (jd zi O) (reg Try.f41 7) (reg Try.f41 7).toList ([P,V,Y,Z,x4,U,Q,R,W,X,a,b,c,d,f,g,i,k,l,m,n,o,p,q,r,s,t,u,w,x,y,z,A,B,C,D,E,F,G,H,I,J,K,L,M,N]) S =
  (zN (wH zi BinOp.lss 5 (dem R) (Value.int IntKind.u8 128) S) (fun v1 S1=>some ([P,V,Y,Z,x4,U,Q,R,W,X,a,b,c,d,f,g,i,k,l,m,n,o,p,q,r,s,t,u,w,x,y,z,A,B,C,D,E,dem R,v1,H,I,J,K,L,M,N],S1)) ()):=by
 kernel_rfl
theorem jB.r8 :jF zi ⟨false,false,false⟩ (jd zi O) (reg Try.f41 8) (reg Try.f41 8).toList ([P,V,Y,Z,x4,U,Q,R,W,X,a,b,c,d,f,g,i,k,l,m,n,o,p,q,r,s,t,u,w,x,y,z,A,B,C,D,E,F,G,H,I,J,K,L,M,N]) S =
  (zN (wH zi BinOp.add 3 (dem Q) (.int .i64 1) S) (fun v3 S1=>zN (ZQ zi false 33 (dem P) (some v3) none S1) (fun v4 S2=>zN ((jd zi O) 54 [(dem v4)] S2) (fun v5 S3=>some ([P,V,U,v5,.int .i64 0,dem U,Q,R,W,X,a,b,c,d,f,g,i,k,l,m,n,o,p,q,r,s,t,u,w,x,y,z,A,B,C,D,E,F,G,dem U,dem P,dem Q,v3,v4,dem v5,N],S3)) ()) ()) ()):=by
 kernel_rfl
theorem jB.r9 :jF zi ⟨false,false,false⟩ (jd zi O) (reg Try.f41 9) (reg Try.f41 9).toList ([P,V,Y,Z,x4,U,Q,R,W,X,a,b,c,d,f,g,i,k,l,m,n,o,p,q,r,s,t,u,w,x,y,z,A,B,C,D,E,F,G,H,I,J,K,L,M,N]) S =
  (zN (wH zi BinOp.add 3 a (.int .i64 1) S) (fun v0 S1=>some ([P,V,Y,Z,x4,U,Q,R,W,X,dem v0,b,c,d,f,g,i,k,l,m,n,o,p,q,r,s,t,u,w,x,y,z,A,B,C,D,E,F,G,H,I,J,K,L,M,v0],S1)) ()):=by
 kernel_rfl
theorem jB.r10 :jF zi ⟨false,false,false⟩ (jd zi O) (reg Try.f41 10) (reg Try.f41 10).toList ([P,V,Y,Z,x4,U,Q,R,W,X,a,b,c,d,f,g,i,k,l,m,n,o,p,q,r,s,t,u,w,x,y,z,A,B,C,D,E,F,G,H,I,J,K,L,M,N]) S =
  ( some ([P,V,Value.int IntKind.u64 0,Value.slice none 0 0,.int .i64 11,U,Q,R,W,X,a,b,c,d,f,g,i,k,l,m,n,o,p,q,r,s,t,u,w,x,y,z,A,B,C,D,E,F,G,H,I,J,K,L,M,N],S)):=by
 kernel_rfl
theorem jB.runs {P:Value} {S S1:zx} {e:AEx} {T:List Value} (h:zL zi O false jB.code ([P,zh,zh,zh,zh,zh,zh,zh,zh,zh,zh,zh,zh,zh,zh,zh,zh,zh,zh,zh,zh,zh,zh,zh,zh,zh,zh,zh,zh,zh,zh,zh,zh,zh,zh,zh,zh,zh,zh,zh,zh,zh,zh,zh,zh,zh]) S=some (e,T,S1)) (he:e=.normal∨e=.ret)  (h0:wE (T.getD 2 zh)=true) (h1:wE (T.getD 3 zh)=true) (h2:wE (T.getD 4 zh)=true):jd zi O 41 [P] S=some (Value.tuple #[T.getD 2 zh,T.getD 3 zh,T.getD 4 zh],S1) :=
 yK rfl rfl Try.func41 (by decide) jB.body (by exact h) he ((qj ((show zQ zi T S1 Try.f41.results.toList=zQ zi T S1 [(ResultVar.tmp 2),(ResultVar.tmp 3),(ResultVar.tmp 4)] from by kernel_rfl).trans (by simp only [zQ])) (by kernel_rfl) (by simp only [List.all_cons,List.all_nil,h0,h1,h2,Bool.and_true])).trans rfl)
end Go.Proofs.Ytfjogganfjkckaa
namespace Go.Proofs.Ytfjogganfjkckaa
open Go.Abs
abbrev yu.id:FuncId:=72
noncomputable def yu.jS:Code:=(.seq (.seq (.region 2 (reg Try.f72 2) false) (.cond (.tmp 5) Code.skip (.exit 0))) (.block 1 (.seq (.region 3 (reg Try.f72 3) false) (.region 4 (reg Try.f72 4) false))))
noncomputable def yu.code:Code:=(.seq (.region 0 (reg Try.f72 0) false) (.seq (.region 1 (reg Try.f72 1) false) (.seq (.block 0 (.loop yu.jS)) (.seq (.region 5 (reg Try.f72 5) false) Code.ret))))
theorem yu.body:Try.f72.body=some yu.code:=by kernel_rfl
theorem yu.eta {T:List Value} (h:T.length=19):T=[T.getD 0 zh,T.getD 1 zh,T.getD 2 zh,T.getD 3 zh,T.getD 4 zh,T.getD 5 zh,T.getD 6 zh,T.getD 7 zh,T.getD 8 zh,T.getD 9 zh,T.getD 10 zh,T.getD 11 zh,T.getD 12 zh,T.getD 13 zh,T.getD 14 zh,T.getD 15 zh,T.getD 16 zh,T.getD 17 zh,T.getD 18 zh]:=(qQ T 19 h).trans (by kernel_rfl)
theorem yu.list {T:List Value} (h:T.length=19):∃ b o v n p q r s t u c d f g i j k l m,T=[b,o,v,n,p,q,r,s,t,u,c,d,f,g,i,j,k,l,m]:=⟨_,_,_,_,_,_,_,_,_,_,_,_,_,_,_,_,_,_,_,yu.eta h⟩
variable (b o v n p q r s t u c d f g i j k l m:Value) (S:zx)
theorem yu.r0 :jF zi ⟨false,false,false⟩ (jd zi O) (reg Try.f72 0) (reg Try.f72 0).toList ([b,o,v,n,p,q,r,s,t,u,c,d,f,g,i,j,k,l,m]) S =
  ( some ([b,o,Value.slice none 0 0,n,p,q,r,s,t,u,c,d,f,g,i,j,k,l,m],S)):=by
 kernel_rfl
theorem yu.r1 :jF zi ⟨false,false,false⟩ (jd zi O) (reg Try.f72 1) (reg Try.f72 1).toList ([b,o,v,n,p,q,r,s,t,u,c,d,f,g,i,j,k,l,m]) S =
  ( some ([b,o,v,Value.slice none 0 0,p,q,r,s,t,u,c,d,f,g,i,j,k,l,m],S)):=by
 kernel_rfl
theorem yu.r2 :jF zi ⟨false,false,false⟩ (jd zi O) (reg Try.f72 2) (reg Try.f72 2).toList ([b,o,v,n,p,q,r,s,t,u,c,d,f,g,i,j,k,l,m]) S =
  (zN (wH zi BinOp.geq 73 (dem b) (Value.int IntKind.u64 128) S) (fun A w=>some ([b,o,v,n,dem b,A,r,s,t,u,c,d,f,g,i,j,k,l,m],w)) ()):=by
 kernel_rfl
theorem yu.r3 :jF zi ⟨false,false,false⟩ (jd zi O) (reg Try.f72 3) (reg Try.f72 3).toList ([b,o,v,n,p,q,r,s,t,u,c,d,f,g,i,j,k,l,m]) S =
  (zN (qL zi false false 73 5 (dem b) S) (fun x w=>zN (wH zi BinOp.or 5 x (Value.int IntKind.u8 128) w) (fun y B=>zN (jU zi 33 1 [(0,y)] B) (fun z C=>zN (yB zi 33 33 n z C) (fun D E=>some ([b,o,v,D,p,q,dem n,dem b,x,y,z,dem D,f,g,i,j,k,l,m],E)) ()) ()) ()) ()):=by
 kernel_rfl
theorem yu.r4 :jF zi ⟨false,false,false⟩ (jd zi O) (reg Try.f72 4) (reg Try.f72 4).toList ([b,o,v,n,p,q,r,s,t,u,c,d,f,g,i,j,k,l,m]) S =
  (zN (wH zi BinOp.shr 73 (dem b) (Value.int IntKind.u64 7) S) (fun A w=>some ([A,o,v,n,p,q,r,s,t,u,c,d,dem b,dem A,i,j,k,l,m],w)) ()):=by
 kernel_rfl
theorem yu.r5 :jF zi ⟨false,false,false⟩ (jd zi O) (reg Try.f72 5) (reg Try.f72 5).toList ([b,o,v,n,p,q,r,s,t,u,c,d,f,g,i,j,k,l,m]) S =
  (zN (qL zi false false 73 5 (dem b) S) (fun x w=>zN (jU zi 33 1 [(0,x)] w) (fun y B=>zN (yB zi 33 33 n y B) (fun z C=>some ([b,o,z,dem n,p,q,r,s,t,u,c,d,f,g,dem n,dem b,x,y,dem z],C)) ()) ()) ()):=by
 kernel_rfl
theorem yu.runs {b:Value} {S w:zx} {e:AEx} {T:List Value} (h:zL zi O false yu.code ([b,zh,zh,zh,zh,zh,zh,zh,zh,zh,zh,zh,zh,zh,zh,zh,zh,zh,zh]) S=some (e,T,w)) (he:e=.normal∨e=.ret):jd zi O 72 [b] S=some (T.getD 2 zh,w) :=
 yK rfl rfl Try.func72 (by decide) yu.body (by exact h) he (yG (a:=T.getD 2 zh) ((show zQ zi T w Try.f72.results.toList=zQ zi T w [(ResultVar.tmp 2)] from by kernel_rfl).trans (by simp only [zQ])) (by kernel_rfl))
end Go.Proofs.Ytfjogganfjkckaa
namespace Go.Proofs.Ytfjogganfjkckaa
open Go.Abs
abbrev jw.id:FuncId:=38
noncomputable def jw.jS:Code:=(.block 1 (.seq (.region 2 (reg Try.f38 2) false) (.seq (.region 3 (reg Try.f38 3) false) (.seq (.seq (.region 4 (reg Try.f38 4) false) (.cond (.tmp 12) (.seq (.region 5 (reg Try.f38 5) false) Code.ret) Code.skip)) (.region 6 (reg Try.f38 6) false)))))
noncomputable def jw.code:Code:=(.seq (.region 0 (reg Try.f38 0) false) (.seq (.region 1 (reg Try.f38 1) false) (.block 0 (.loop jw.jS))))
theorem jw.body:Try.f38.body=some jw.code:=by kernel_rfl
theorem jw.eta {T:List Value} (h:T.length=22):T=[T.getD 0 zh,T.getD 1 zh,T.getD 2 zh,T.getD 3 zh,T.getD 4 zh,T.getD 5 zh,T.getD 6 zh,T.getD 7 zh,T.getD 8 zh,T.getD 9 zh,T.getD 10 zh,T.getD 11 zh,T.getD 12 zh,T.getD 13 zh,T.getD 14 zh,T.getD 15 zh,T.getD 16 zh,T.getD 17 zh,T.getD 18 zh,T.getD 19 zh,T.getD 20 zh,T.getD 21 zh]:=(qQ T 22 h).trans (by kernel_rfl)
theorem jw.list {T:List Value} (h:T.length=22):∃ b s z r q u v w x y c d f g i j k l m n o p,T=[b,s,z,r,q,u,v,w,x,y,c,d,f,g,i,j,k,l,m,n,o,p]:=⟨_,_,_,_,_,_,_,_,_,_,_,_,_,_,_,_,_,_,_,_,_,_,jw.eta h⟩
variable (b s z r q u v w x y c d f g i j k l m n o p:Value) (S:zx)
theorem jw.r0 :jF zi ⟨false,false,false⟩ (jd zi O) (reg Try.f38 0) (reg Try.f38 0).toList ([b,s,z,r,q,u,v,w,x,y,c,d,f,g,i,j,k,l,m,n,o,p]) S =
  ( some ([b,s,Value.slice none 0 0,r,q,u,v,w,x,y,c,d,f,g,i,j,k,l,m,n,o,p],S)):=by
 kernel_rfl
theorem jw.r1 :jF zi ⟨false,false,false⟩ (jd zi O) (reg Try.f38 1) (reg Try.f38 1).toList ([b,s,z,r,q,u,v,w,x,y,c,d,f,g,i,j,k,l,m,n,o,p]) S =
  (zN (jU zi 33 0 [] S) (fun E t=>some ([b,s,z,E,q,dem E,v,w,x,y,c,d,f,g,i,j,k,l,m,n,o,p],t)) ()):=by
 kernel_rfl
theorem jw.r2 :jF zi ⟨false,false,false⟩ (jd zi O) (reg Try.f38 2) (reg Try.f38 2).toList ([b,s,z,r,q,u,v,w,x,y,c,d,f,g,i,j,k,l,m,n,o,p]) S =
  (zN (wH zi BinOp.rem 73 (dem b) (Value.int IntKind.u64 128) S) (fun B t=>zN (qL zi false false 73 5 B t) (fun A C=>some ([b,s,z,r,A,u,dem b,B,dem A,y,c,d,f,g,i,j,k,l,m,n,o,p],C)) ()) ()):=by
 kernel_rfl
theorem jw.r3 :jF zi ⟨false,false,false⟩ (jd zi O) (reg Try.f38 3) (reg Try.f38 3).toList ([b,s,z,r,q,u,v,w,x,y,c,d,f,g,i,j,k,l,m,n,o,p]) S =
  (zN (wH zi BinOp.quo 73 (dem b) (Value.int IntKind.u64 128) S) (fun B t=>some ([B,s,z,r,q,u,v,w,x,dem b,dem B,d,f,g,i,j,k,l,m,n,o,p],t)) ()):=by
 kernel_rfl
theorem jw.r4 :jF zi ⟨false,false,false⟩ (jd zi O) (reg Try.f38 4) (reg Try.f38 4).toList ([b,s,z,r,q,u,v,w,x,y,c,d,f,g,i,j,k,l,m,n,o,p]) S =
  (zN (wH zi BinOp.eql 73 (dem b) (Value.int IntKind.u64 0) S) (fun B t=>some ([b,s,z,r,q,u,v,w,x,y,c,dem b,B,g,i,j,k,l,m,n,o,p],t)) ()):=by
 kernel_rfl
theorem jw.r5 :jF zi ⟨false,false,false⟩ (jd zi O) (reg Try.f38 5) (reg Try.f38 5).toList ([b,s,z,r,q,u,v,w,x,y,c,d,f,g,i,j,k,l,m,n,o,p]) S =
  (zN (jU zi 33 1 [(0,(dem q))] S) (fun A t=>zN (yB zi 33 33 r A t) (fun D C=>some ([b,s,D,dem r,q,u,v,w,x,y,c,d,f,dem r,dem q,A,dem D,l,m,n,o,p],C)) ()) ()):=by
 kernel_rfl
theorem jw.r6 :jF zi ⟨false,false,false⟩ (jd zi O) (reg Try.f38 6) (reg Try.f38 6).toList ([b,s,z,r,q,u,v,w,x,y,c,d,f,g,i,j,k,l,m,n,o,p]) S =
  (zN (wH zi BinOp.add 5 (dem q) (Value.int IntKind.u8 128) S) (fun A t=>zN (jU zi 33 1 [(0,A)] t) (fun D C=>zN (yB zi 33 33 r D C) (fun F G=>some ([b,s,z,F,q,u,v,w,x,y,c,d,f,g,i,j,k,dem r,dem q,A,D,dem F],G)) ()) ()) ()):=by
 kernel_rfl
theorem jw.runs {b:Value} {S t:zx} {e:AEx} {T:List Value} (h:zL zi O false jw.code ([b,zh,zh,zh,zh,zh,zh,zh,zh,zh,zh,zh,zh,zh,zh,zh,zh,zh,zh,zh,zh,zh]) S=some (e,T,t)) (he:e=.normal∨e=.ret):jd zi O 38 [b] S=some (T.getD 2 zh,t) :=
 yK rfl rfl Try.func38 (by decide) jw.body (by exact h) he (yG (a:=T.getD 2 zh) ((show zQ zi T t Try.f38.results.toList=zQ zi T t [(ResultVar.tmp 2)] from by kernel_rfl).trans (by simp only [zQ])) (by kernel_rfl))
end Go.Proofs.Ytfjogganfjkckaa
namespace Go.Proofs.Ytfjogganfjkckaa
open Go.Abs
def enc (n:Nat):List UInt8:=if n < 128 then [UInt8.ofNat n] else UInt8.ofNat (n % 128+128)::enc (n / 128)
termination_by n
decreasing_by omega
theorem Zo {n:Nat} (h:n < 128):enc n=[UInt8.ofNat n]:=by rw [enc,if_pos h]
theorem Yr {n:Nat} (h:¬ n < 128):enc n=UInt8.ofNat (n % 128+128)::enc (n / 128):=by rw [enc,if_neg h]
theorem wrap_u8 (n:Nat):IntKind.u8.wrap (n:Int)=((n % 256:Nat):Int):=by
 simp [IntKind.wrap,IntKind.bits,IntKind.signed]
theorem wrap_u64 (n:Nat):IntKind.u64.wrap (n:Int)=((n % 2 ^ 64:Nat):Int):=by
 simp [IntKind.wrap,IntKind.bits,IntKind.signed]
theorem alz:∀ m:Fin 256,orI .u8 (m.val:Int) 128=((m.val % 128+128:Nat):Int):=by decide +kernel
theorem ajz (n:Nat):orI .u8 (IntKind.u8.wrap (n:Int)) 128=((UInt8.ofNat (n % 128+128)).toNat:Int):=by
 rw [wrap_u8,alz ⟨n % 256,by omega⟩]
 simp only [UInt8.toNat_ofNat']
 omega
theorem acs {n:Nat}:IntKind.u8.wrap (n:Int)=((UInt8.ofNat n).toNat:Int):=by
 rw [wrap_u8]
 simp
theorem alQ (n:Nat):(n:Int).fdiv (2 ^ min (Int.toNat 7) (IntKind.bits .u64))=((n / 128:Nat):Int):=by
 have:(2:Int) ^ min (Int.toNat 7) (IntKind.bits .u64)=128:=by decide
 rw [this,Int.fdiv_eq_ediv_of_nonneg _ (by omega)]
 omega
theorem aeY (k:Nat):∀ n,n < 128 ^ (k+1)→(enc n).length≤k+1:=by
 induction k with
 | zero=>intro n h;rw [Zo (by omega)];simp
 | succ k ih =>
  intro n h
  by_cases hn:n < 128
  ·
   rw [Zo hn];simp
  ·
   rw [Yr hn]
   have:=ih (n / 128) (by rw [Nat.div_lt_iff_lt_mul (by omega)];exact h)
   simp only [List.length_cons];omega
theorem JJ {n:Nat} (h:n < 2 ^ 64):(enc n).length≤10:=aeY 9 n (Nat.lt_of_lt_of_le h (by decide))
theorem afB (n:Nat):(n:Int).tmod 128=((n % 128:Nat):Int):=by
 rw [Int.tmod_eq_emod_of_nonneg (by omega)];omega
theorem aj7 (n:Nat) (h:n < 2 ^ 64):IntKind.u64.wrap ((n:Int).tdiv 128)=((n / 128:Nat):Int):=by
 rw [Int.tdiv_eq_ediv_of_nonneg (by omega),show (n:Int) / 128=((n / 128:Nat):Int) by omega,wrap_u64]
 omega
theorem alx (n:Nat):IntKind.u8.wrap ((n % 128:Nat):Int)=((UInt8.ofNat (n % 128)).toNat:Int):=acs
theorem akm (n:Nat):IntKind.u8.wrap (((UInt8.ofNat (n % 128)).toNat:Int)+128)=((UInt8.ofNat (n % 128+128)).toNat:Int):=by
 have:((UInt8.ofNat (n % 128)).toNat:Int)+128=((n % 128+128:Nat):Int):=by simp only [UInt8.toNat_ofNat'];omega
 rw [this];exact acs
theorem agY:sv 2 1 0 []=by_ 2 []:=rfl
theorem ahn (x:UInt8):sv 2 1 1 [.int .u8 x.toNat]=by_ 2 [x]:=rfl
theorem ab3 {k:Nat} {l:List UInt8} {x:UInt8} {S:zx} (h:Okl k l) (hk:k≠1) (hl:l.length≤140737488355000):yB zi 33 33 (by_ k l) (by_ 2 [x]) S=some (by_ 2 (l++[x]),S):=by
 rw [xu h hk Okl.own (by simp;omega),if_neg (fun h=>by have:=h.2;simp at this)]
theorem yu.round:∀ (n:Nat) (l:List UInt8) (k:Nat) {T:List Value} {S:zx} {r:St},qR (zL zi O false yu.jS) T S=r→T.length=19→T.getD 0 zh=.int .u64 n→T.getD 3 zh=by_ k l →
  Okl k l→k≠1→n * 2 ^ l.length < 2 ^ 64→∃ T' l' k' n',r=some (.exit 0,T',S)∧T'.length=19∧T'.getD 0 zh=.int .u64 (n':Nat)∧T'.getD 3 zh=by_ k' l' ∧
   Okl k' l'∧k'≠1∧n' < 128∧l'++[UInt8.ofNat n']=l++enc n:=by
 intro n
 induction n using Nat.strongRecOn with
 | _ n ih =>
  intro l k T S r hL hT h0 h3 hs hk hl
  obtain ⟨x0,x1,x2,x3,x4,x5,x6,x7,x8,x9,x10,x11,x12,x13,x14,x15,x16,x17,x18,hTe⟩:=yu.list hT
  rw [hTe] at h0 h3
  simp only [List.getD_cons_succ,List.getD_cons_zero] at h0 h3
  subst h0 h3
  have hr:zL zi O false yu.jS T S=zL zi O false yu.jS T S:=rfl
  by_cases hlt:n < 128
  ·
   have hd:decide ((128:Int)≤(n:Int))=false:=by simp;omega
   conv at hr =>
    rhs
    rw [hTe]
    simp only [yu.jS,zSs,reduceIte,zk,zn,zo,zq,yu.r2,hd]
   exact ⟨_,l,k,n,hL.symm.trans (wI hr (by simp)),rfl,rfl,rfl,hs,hk,hlt,by rw [Zo hlt]⟩
  ·
   have hd:decide ((128:Int)≤(n:Int))=true:=by simp;omega
   have hll:l.length < 64:=by
    have:2 ^ l.length < 2 ^ 64:=Nat.lt_of_le_of_lt (Nat.le_mul_of_pos_left _ (by omega)) hl
    exact (Nat.pow_lt_pow_iff_right (by omega)).1 this
   have e1:∀ x S,yB zi 33 33 (by_ k l) (by_ 2 [x]) S=some (by_ 2 (l++[x]),S):=fun x S=>ab3 hs hk (by omega)
   conv at hr =>
    rhs
    rw [hTe]
    simp only [yu.jS,zSs,reduceIte,zk,zn,zo,zq,yu.r2,hd,yu.r3,Jb,agw,ajz,Jm,ahn,e1,yu.r4,adH _ _ _ _ (show (0:Int)≤7 by omega),alQ]
   have hmul:n / 128 * 2 ^ (l.length+1) < 2 ^ 64:=by
    refine Nat.lt_of_le_of_lt ?_ hl
    rw [Nat.pow_succ,Nat.mul_comm (2 ^ l.length) 2,← Nat.mul_assoc]
    exact Nat.mul_le_mul_right _ (by omega)
   obtain ⟨T',l',k',n',g1,g2,g3,g4,g5,g6,g7,g8⟩:=ih (n / 128) (by omega) _ 2 ((yH hr).symm.trans hL) rfl rfl rfl Okl.own (by decide) (by simpa using hmul)
   refine ⟨T',l',k',n',g1,g2,g3,g4,g5,g6,g7,?_⟩
   rw [g8,Yr hlt,List.append_assoc];rfl
theorem yu.v (n:Nat) (hn:n < 2 ^ 64) (S:zx):jd zi O yu.id [.int .u64 n] S=some (by_ 2 (enc n),S):=by
 obtain ⟨T,hTe⟩:∃ T,T=(.int .u64 n::zh::zh::zh::zh::zh::zh::zh::zh::zh::zh::zh::zh::zh::zh::zh::zh::zh::zh::[]):=⟨_,rfl⟩
 have hr:zL zi O false yu.code T S=zL zi O false yu.code T S:=rfl
 conv at hr =>
  rhs
  rw [hTe]
  simp only [yu.code,zSs,reduceIte,zk,zn,zo,zq,yu.r0,yu.r1]
 generalize hL:qR (zL zi O false yu.jS) _ _=r at hr
 obtain ⟨T',l',k',n',rfl,g2,g3,g4,g5,g6,g7,g8⟩:=yu.round n [] 0 hL rfl rfl rfl Okl.none (by decide) (by simpa using hn)
 obtain ⟨x0,x1,x2,x3,x4,x5,x6,x7,x8,x9,x10,x11,x12,x13,x14,x15,x16,x17,x18,hT'⟩:=yu.list g2
 rw [hT'] at g3 g4
 simp only [List.getD_cons_succ,List.getD_cons_zero] at g3 g4
 subst g3 g4
 have hlen:l'.length+1=(enc n).length:=by simpa using congrArg List.length g8
 have h10:=JJ hn
 have e1:∀ x S,yB zi 33 33 (by_ k' l') (by_ 2 [x]) S=some (by_ 2 (l'++[x]),S):=fun x S=>ab3 g5 g6 (by omega)
 conv at hr =>
  rhs
  rw [hT']
  simp only [zSs,reduceIte,zk,zn,zo,zq,yu.r5,Jb,acs,Jm,ahn,e1]
 rw [hTe] at hr
 have:=yu.runs hr (.inr rfl)
 rw [List.nil_append] at g8
 rw [← g8]
 exact this
theorem jw.round:∀ (n:Nat) (l:List UInt8) {T:List Value} {S:zx} {r:St},qR (zL zi O false jw.jS) T S=r→T.length=22→T.getD 0 zh=.int .u64 n→T.getD 3 zh=by_ 2 l →
  n * 2 ^ l.length < 2 ^ 64→l.length < 64→∃ T',r=some (.ret,T',S)∧T'.getD 2 zh=by_ 2 (l++enc n):=by
 intro n
 induction n using Nat.strongRecOn with
 | _ n ih =>
  intro l T S r hL hT h0 h3 hl hll
  obtain ⟨x0,x1,x2,x3,x4,x5,x6,x7,x8,x9,x10,x11,x12,x13,x14,x15,x16,x17,x18,x19,x20,x21,hTe⟩:=jw.list hT
  rw [hTe] at h0 h3
  simp only [List.getD_cons_succ,List.getD_cons_zero] at h0 h3
  subst h0 h3
  have hn:n < 2 ^ 64:=Nat.lt_of_le_of_lt (Nat.le_mul_of_pos_right _ (by exact Nat.two_pow_pos _)) hl
  have e1:∀ x S,yB zi 33 33 (by_ 2 l) (by_ 2 [x]) S=some (by_ 2 (l++[x]),S):=fun x S=>ab3 Okl.own (by decide) (by omega)
  have hr:zL zi O false jw.jS T S=zL zi O false jw.jS T S:=rfl
  conv at hr =>
   rhs
   rw [hTe]
   simp only [jw.jS,zSs,reduceIte,zk,zn,zo,zq,jw.r2,jw.r3,jw.r4,W9 _ _ _ (show (128:Int)≠0 by omega),vC _ _ _ (show (128:Int)≠0 by omega),afB,aj7 n hn,Jb,alx]
  by_cases hz:n / 128=0
  ·
   have hd:decide (((n / 128:Nat):Int)=0)=true:=by simp;omega
   conv at hr =>
    rhs
    simp only [hd,zSs,reduceIte,zk,zn,zo,zq,jw.r5,Jm,ahn,e1]
   refine ⟨_,hL.symm.trans (wI hr (by simp)),?_⟩
   rw [Zo (by omega)]
   simp only [List.getD_cons_succ,List.getD_cons_zero]
   rw [show n % 128=n by omega]
  ·
   have hd:decide (((n / 128:Nat):Int)=0)=false:=by simp;omega
   conv at hr =>
    rhs
    simp only [hd,zSs,reduceIte,zk,zn,zo,zq,jw.r6,akm,Jm,ahn,e1]
   have hmul:n / 128 * 2 ^ (l.length+1) < 2 ^ 64:=by
    refine Nat.lt_of_le_of_lt ?_ hl
    rw [Nat.pow_succ,Nat.mul_comm (2 ^ l.length) 2,← Nat.mul_assoc]
    exact Nat.mul_le_mul_right _ (by omega)
   have hl2:l.length+1 < 64:=by
    have:2 ^ (l.length+1) < 2 ^ 64:=Nat.lt_of_le_of_lt (Nat.le_mul_of_pos_left _ (by omega)) hmul
    exact (Nat.pow_lt_pow_iff_right (by omega)).1 this
   obtain ⟨T',g1,g2⟩:=ih (n / 128) (by omega) _ ((yH hr).symm.trans hL) rfl rfl rfl (by simpa using hmul) (by simpa using hl2)
   refine ⟨T',g1,?_⟩
   rw [g2,Yr (n:=n) (by omega),List.append_assoc]
   rfl
theorem jw.v (n:Nat) (hn:n < 2 ^ 64) (S:zx):jd zi O jw.id [.int .u64 n] S=some (by_ 2 (enc n),S):=by
 obtain ⟨T,hTe⟩:∃ T,T=(.int .u64 n::zh::zh::zh::zh::zh::zh::zh::zh::zh::zh::zh::zh::zh::zh::zh::zh::zh::zh::zh::zh::zh::[]):=⟨_,rfl⟩
 have hr:zL zi O false jw.code T S=zL zi O false jw.code T S:=rfl
 conv at hr =>
  rhs
  rw [hTe]
  simp only [jw.code,zSs,reduceIte,zk,zn,zo,zq,jw.r0,jw.r1,Ze,agY]
 generalize hL:qR (zL zi O false jw.jS) _ _=r at hr
 obtain ⟨T',rfl,g2⟩:=jw.round n [] hL rfl rfl rfl (by simpa using hn) (by simp)
 conv at hr =>
  rhs
  simp only [zSs,reduceIte,zk,zn,zo,zq]
 rw [hTe] at hr
 have hrun:=jw.runs hr (.inr rfl)
 rw [g2] at hrun
 exact hrun
end Go.Proofs.Ytfjogganfjkckaa
namespace Go.Proofs.Ytfjogganfjkckaa
open Go.Abs
theorem slices_Clone.v {k:Nat} {l:List UInt8} (h:Okl k l) (hk:k≠2) (hl:l.length≤140737488355328) (S:zx):jd zi O slices_Clone.id [by_ k l] S=some (by_ (if k=0 then 0 else 2) l,S):=by
 obtain ⟨T,hTe⟩:∃ T,T=(by_ k l::zh::zh::zh::zh::zh::zh::zh::[]):=⟨_,rfl⟩
 have hr:zL zi O false slices_Clone.code T S=zL zi O false slices_Clone.code T S:=rfl
 conv at hr =>
  rhs
  rw [hTe]
  simp only [slices_Clone.code,zSs,reduceIte,zk,zn,zo,zq,slices_Clone.r0,slices_Clone.r1,if_neg hk,aht h]
 by_cases h0:k=0
 ·
  have hl0:=h.nil h0
  subst h0 hl0
  conv at hr =>
   rhs
   simp only [decide_true,zSs,reduceIte,zk,zn,zo,zq,slices_Clone.r2]
  rw [hTe] at hr
  exact slices_Clone.runs hr (.inr rfl)
 ·
  have e1:∀ S,yB zi 33 33 (by_ 2 []) (by_ k l) S=some (by_ 2 l,S):=fun S=>by
   rw [xu Okl.own (by decide) h (by simpa using hl)];rfl
  conv at hr =>
   rhs
   simp only [h0,decide_false,zSs,reduceIte,zk,zn,zo,zq,slices_Clone.r3,Ze,agY,if_neg hk,e1]
  rw [hTe] at hr
  rw [if_neg h0]
  exact slices_Clone.runs hr (.inr rfl)
def scan:Nat→Nat→List UInt8→Option (Nat×List UInt8)
 | _,_,[]=>none
 | i,acc,x::r=>if (i=9∧1 < x.toNat)∨(0 < i∧x.toNat=0) then none else if x.toNat < 128 then some (acc+x.toNat * 128 ^ i,r) else scan (i+1) (acc+(x.toNat - 128) * 128 ^ i) r
def XL (l:List UInt8):Value :=
 match scan 0 0 l with
 | none=>.tuple #[.int .u64 0,.slice none 0 0,.int .i64 11]
 | some (m,rest)=>.tuple #[.int .u64 (m:Nat),by_ 2 rest,.int .i64 0]
theorem jB.stop (x0 x1 x2 x3 x4 x5 x6 x7 x8 x9 x10 x11 x12 x13 x14 x15 x16 x17 x18 x19 x20 x21 x22 x23 x24 x25 x26 x27 x28 x29 x30 x31 x32 x33 x34 x35 x36 x37 x38 x39 x40 x41 x42 x43 x44 x45:Value) (i x:Int) (S:zx) (h6:x6=.int .i64 i) (h7:x7=.int .u8 x):∃ y15 y16 y17 y18 y19 y20 y21 y22 y23 y24 y25 y26 y27,jF zi ⟨false,false,false⟩ (jd zi O) (reg Try.f41 5) (reg Try.f41 5).toList (x0::x1::x2::x3::x4::x5::x6::x7::x8::x9::x10::x11::x12::x13::x14::x15::x16::x17::x18::x19::x20::x21::x22::x23::x24::x25::x26::x27::x28::x29::x30::x31::x32::x33::x34::x35::x36::x37::x38::x39::x40::x41::x42::x43::x44::x45::[]) S =
  some ((x0::x1::x2::x3::x4::x5::x6::x7::x8::x9::x10::x11::x12::x13::x14::y15::y16::y17::y18::y19::y20::y21::y22::y23::y24::y25::y26::y27::.bool (decide ((i=9∧1 < x)∨(0 < i∧x=0)))::x29::x30::x31::x32::x33::x34::x35::x36::x37::x38::x39::x40::x41::x42::x43::x44::x45::[]),S):=by
 subst h6 h7
 rw [jB.r5]
 simp only [zSs,reduceIte,zk,zn,zo,zq]
 rcases Bool.eq_false_or_eq_true (decide (i=9)) with d1 | d1 <;> rcases Bool.eq_false_or_eq_true (decide (1 < x)) with d2 | d2 <;> rcases Bool.eq_false_or_eq_true (decide (0 < i)) with d3 | d3 <;> rcases Bool.eq_false_or_eq_true (decide (x=0)) with d4 | d4 <;>
  simp only [d1,d2,d3,d4,zSs,reduceIte,zk,zn,zo,zq] <;> simp only [decide_eq_true_eq,decide_eq_false_iff_not] at d1 d2 d3 d4 <;>
  simp only [d1,d2,d3,d4,true_and,false_and,and_true,and_false,or_true,true_or,or_false,false_or,decide_true,decide_false,not_true,not_false_iff,zo,zn,and_self,or_self] <;> first | exact ⟨_,_,_,_,_,_,_,_,_,_,_,_,_,rfl⟩ | omega
theorem akS:∀ m:Fin 256,alh .u8 (m.val:Int) 127=((m.val % 128:Nat):Int):=by decide +kernel
theorem ah4 (x:UInt8):alh .u8 (x.toNat:Int) 127=((x.toNat % 128:Nat):Int):=akS ⟨x.toNat,x.toNat_lt⟩
theorem ZL {n:Nat} (h:n < 2 ^ 64):IntKind.u64.wrap (n:Int)=(n:Int):=by
 rw [wrap_u64,Nat.mod_eq_of_lt h]
theorem akd {a c i:Nat} (ha:a < 2 ^ i) (h:c * 2 ^ i < 2 ^ 64) (h2:a < 2 ^ 64):orI .u64 (a:Int) ((c * 2 ^ i:Nat):Int)=((a+c * 2 ^ i:Nat):Int):=by
 have hor:a ||| c * 2 ^ i=a+c * 2 ^ i:=by
  have:=Nat.shiftLeft_add_eq_or_of_lt ha c
  rw [Nat.shiftLeft_eq] at this
  rw [Nat.or_comm,← this,Nat.add_comm]
 have hlt:a ||| c * 2 ^ i < 2 ^ 64:=Nat.or_lt_two_pow h2 h
 unfold orI
 rw [BitVec.ofInt_natCast,BitVec.ofInt_natCast,BitVec.toNat_or,BitVec.toNat_ofNat,BitVec.toNat_ofNat]
 rw [show IntKind.bits .u64=64 from rfl,Nat.mod_eq_of_lt h2,Nat.mod_eq_of_lt h,ZL hlt,hor]
theorem alW {c i:Nat} (hi:i≤9) (h:c * 128 ^ i < 2 ^ 64):IntKind.u64.wrap ((c:Int) * 2 ^ (min (Int.toNat (7 * (i:Int))) (IntKind.bits .u64)))=((c * 2 ^ (7 * i):Nat):Int):=by
 have e1:min (Int.toNat (7 * (i:Int))) (IntKind.bits .u64)=7 * i:=by
  rw [show IntKind.bits .u64=64 from rfl];omega
 have e2:(128:Nat) ^ i=2 ^ (7 * i):=by rw [Nat.pow_mul]
 rw [e1,show (c:Int) * 2 ^ (7 * i)=((c * 2 ^ (7 * i):Nat):Int) by simp,ZL (by rw [← e2];exact h)]
theorem adA {l pre suf:List UInt8} {x:UInt8} (hl:l=pre++x::suf):(l.drop ((pre.length:Int)+1).toNat).take ((l.length:Int).toNat - ((pre.length:Int)+1).toNat)=suf:=by
 rw [show ((pre.length:Int)+1).toNat=pre.length+1 by omega,show (l.length:Int).toNat=l.length by omega,hl]
 rw [show pre++x::suf=(pre++[x])++suf by simp,show pre.length+1=(pre++[x]).length by simp,List.drop_left]
 rw [List.take_of_length_le];simp;omega
theorem jB.round {k:Nat} {l:List UInt8} (hv:Okl k l) (hk:k≠2) (hlen:l.length≤140737488355328) {S:zx}:∀ (suf pre:List UInt8) (acc:Nat) {T:List Value} {r:St},qR (zL zi O false jB.jS) T S=r→T.length=46 →
  T.getD 0 zh=by_ k l→T.getD 8 zh=by_ k l→T.getD 9 zh=.int .i64 l.length→T.getD 10 zh=.int .i64 pre.length→T.getD 5 zh=.int .u64 acc→l=pre++suf→acc < 128 ^ pre.length→pre.length≤9 →
  ∃ e T',r=some (e,T',S)∧match scan pre.length acc suf with
   | none=>e=.exit 0∧T'.length=46
   | some (m,rest)=>e=.ret∧m < 2 ^ 64∧T'.getD 2 zh=.int .u64 m∧T'.getD 3 zh=by_ 2 rest∧T'.getD 4 zh=.int .i64 0:=by
 intro suf
 induction suf with
 | nil =>
  intro pre acc T r hL hT h0 h8 h9 h10 h5 hl hacc hpre
  obtain ⟨x0,x1,x2,x3,x4,x5,x6,x7,x8,x9,x10,x11,x12,x13,x14,x15,x16,x17,x18,x19,x20,x21,x22,x23,x24,x25,x26,x27,x28,x29,x30,x31,x32,x33,x34,x35,x36,x37,x38,x39,x40,x41,x42,x43,x44,x45,hTe⟩:=jB.list hT
  rw [hTe] at h0 h8 h9 h10 h5
  simp only [List.getD_cons_succ,List.getD_cons_zero] at h0 h8 h9 h10 h5
  subst h0 h8 h9 h10 h5
  have hr:zL zi O false jB.jS T S=zL zi O false jB.jS T S:=rfl
  have hd:decide ((pre.length:Int) < (l.length:Int))=false:=by rw [hl];simp
  conv at hr =>
   rhs
   rw [hTe]
   simp only [jB.jS,zSs,reduceIte,zk,zn,zo,zq,jB.r3,hd]
  exact ⟨_,_,hL.symm.trans (wI hr (by simp)),rfl,rfl⟩
 | cons x suf ih =>
  intro pre acc T r hL hT h0 h8 h9 h10 h5 hl hacc hpre
  obtain ⟨x0,x1,x2,x3,x4,x5,x6,x7,x8,x9,x10,x11,x12,x13,x14,x15,x16,x17,x18,x19,x20,x21,x22,x23,x24,x25,x26,x27,x28,x29,x30,x31,x32,x33,x34,x35,x36,x37,x38,x39,x40,x41,x42,x43,x44,x45,hTe⟩:=jB.list hT
  rw [hTe] at h0 h8 h9 h10 h5
  simp only [List.getD_cons_succ,List.getD_cons_zero] at h0 h8 h9 h10 h5
  subst h0 h8 h9 h10 h5
  have hr:zL zi O false jB.jS T S=zL zi O false jB.jS T S:=rfl
  have hlt:(pre.length:Int) < (l.length:Int):=by rw [hl];simp;omega
  have hd:decide ((pre.length:Int) < (l.length:Int))=true:=by simpa using hlt
  have k0:k≠0:=fun h=>by have:=hv.nil h;rw [this] at hl;simp at hl
  have e1:∀ S,jr zi 33 (by_ k l) (.int .i64 pre.length) S=some (EP [.int .u8 x.toNat],S):=fun S=>by
   rw [agL hv (by omega) hlt];rw [abJ hl]
  obtain ⟨y15,y16,y17,y18,y19,y20,y21,y22,y23,y24,y25,y26,y27,e3⟩:=jB.stop (by_ k l) x1 x2 x3 x4 (.int .u64 acc) (.int .i64 pre.length) (.int .u8 x.toNat) (by_ k l) (.int .i64 l.length) (.int .i64 pre.length) (.bool true) (.int .i64 pre.length) (EP [.int .u8 x.toNat]) (.int .u8 x.toNat) x15 x16 x17 x18 x19 x20 x21 x22 x23 x24 x25 x26 x27 x28 x29 x30 x31 x32 x33 x34 x35 x36 x37 x38 x39 x40 x41 x42 x43 x44 x45 (pre.length:Int) (x.toNat:Int) S rfl rfl
  conv at hr =>
   rhs
   rw [hTe]
   simp only [jB.jS,zSs,reduceIte,zk,zn,zo,zq,jB.r3,hd,jB.r4,e1,Wv,if_neg hk,e3]
  have hst:((pre.length:Int)=9∧1 < (x.toNat:Int)∨0 < (pre.length:Int)∧(x.toNat:Int)=0) ↔ ((pre.length=9∧1 < x.toNat)∨(0 < pre.length∧x.toNat=0)):=by omega
  by_cases hs:(pre.length=9∧1 < x.toNat)∨(0 < pre.length∧x.toNat=0)
  ·
   have hs2:=decide_eq_true (hst.2 hs)
   conv at hr =>
    rhs
    simp only [hs2,zSs,reduceIte,zk,zn,zo,zq]
   refine ⟨_,_,hL.symm.trans (wI hr (by simp)),?_⟩
   rw [scan,if_pos hs]
   exact ⟨rfl,rfl⟩
  ·
   have hs2:=decide_eq_false (fun h=>hs (hst.1 h))
   have hx256:=x.toNat_lt
   have hpw:128 ^ pre.length≤128 ^ 9:=Nat.pow_le_pow_right (by omega) hpre
   have hc64:x.toNat % 128 * 128 ^ pre.length < 2 ^ 64:=by
    by_cases h9:pre.length=9
    ·
     rw [h9];have:x.toNat % 128≤1:=by omega
     exact Nat.lt_of_le_of_lt (Nat.mul_le_mul_right _ this) (by decide)
    ·
     have h8:128 ^ pre.length≤128 ^ 8:=Nat.pow_le_pow_right (by omega) (by omega)
     exact Nat.lt_of_le_of_lt (Nat.mul_le_mul (by omega:x.toNat % 128≤127) h8) (by decide)
   have hm:IntKind.i64.wrap (7 * (pre.length:Int))=7 * (pre.length:Int):=wrap_i64 (by omega) (by omega)
   have e128:(128:Nat) ^ pre.length=2 ^ (7 * pre.length):=by rw [Nat.pow_mul]
   have hor:=akd (a:=acc) (c:=x.toNat % 128) (i:=7 * pre.length) (by rw [← e128];exact hacc) (by rw [← e128];exact hc64) (Nat.lt_of_lt_of_le hacc (Nat.le_trans hpw (by decide)))
   conv at hr =>
    rhs
    simp only [hs2,zSs,reduceIte,zk,zn,zo,zq,jB.r6,ahW,ah4,Zh,ZL (show x.toNat % 128 < 2 ^ 64 by omega),hm,aaA _ _ _ _ (show (0:Int)≤7 * (pre.length:Int) by omega),alW hpre hc64,agw,hor,jB.r7]
   rw [← e128] at hr
   have hadd:acc+x.toNat % 128 * 128 ^ pre.length < 128 ^ (pre.length+1):=by
    rw [Nat.pow_succ]
    have:x.toNat % 128 * 128 ^ pre.length≤127 * 128 ^ pre.length:=Nat.mul_le_mul_right _ (by omega)
    omega
   have hi1:IntKind.i64.wrap ((pre.length:Int)+1)=(pre.length:Int)+1:=wrap_i64 (by omega) (by omega)
   by_cases hxs:x.toNat < 128
   ·
    have hd2:decide ((x.toNat:Int) < 128)=true:=by simp;omega
    have e4:∀ S,Z9 zi 33 (by_ k l) (some (.int .i64 ((pre.length:Int)+1))) none S=some (by_ k suf,S):=fun S=>by
     rw [adw hv (lo:=some (.int .i64 ((pre.length:Int)+1))) (hi:=none) (i:=(pre.length:Int)+1) (j:=l.length) rfl rfl (by omega) (by omega) (by omega),adA hl,if_neg hk]
    have ok2:Okl k suf:=⟨hv.le,fun h=>absurd h k0⟩
    have e5:∀ S,jd zi O slices_Clone.id [by_ k suf] S=some (by_ 2 suf,S):=fun S=>by
     rw [slices_Clone.v ok2 hk (by have:=congrArg List.length hl;simp at this;omega),if_neg k0]
    conv at hr =>
     rhs
     simp only [hd2,zSs,reduceIte,zk,zn,zo,zq,jB.r8,hi1,if_neg hk,e4,e5]
    refine ⟨_,_,hL.symm.trans (wI hr (by simp)),?_⟩
    rw [scan,if_neg hs,if_pos hxs]
    have hxm:x.toNat % 128=x.toNat:=by omega
    rw [hxm]
    refine ⟨rfl,?_,rfl,rfl,rfl⟩
    rw [hxm] at hadd
    by_cases h9:pre.length=9
    ·
     rw [h9] at hacc ⊢
     have:x.toNat≤1:=by omega
     have h1:x.toNat * 128 ^ 9≤1 * 128 ^ 9:=Nat.mul_le_mul_right _ this
     have h2:(128:Nat) ^ 9+1 * 128 ^ 9=2 ^ 64:=by decide
     omega
    ·
     have h8:128 ^ (pre.length+1)≤128 ^ 9:=Nat.pow_le_pow_right (by omega) (by omega)
     exact Nat.lt_of_lt_of_le hadd (Nat.le_trans h8 (by decide))
   ·
    have hd2:decide ((x.toNat:Int) < 128)=false:=by simp;omega
    conv at hr =>
     rhs
     simp only [hd2,zSs,reduceIte,zk,zn,zo,zq,jB.r9,hi1]
    obtain ⟨e,T',g1,g3⟩:=ih (pre++[x]) (acc+x.toNat % 128 * 128 ^ pre.length) ((yH hr).symm.trans hL) rfl rfl rfl rfl (by simp) rfl (by simp [hl]) (by simpa using hadd) (by simp;omega)
    refine ⟨e,T',g1,?_⟩
    rw [scan,if_neg hs,if_neg hxs]
    have hxm:x.toNat % 128=x.toNat - 128:=by omega
    rw [hxm] at g3
    simpa using g3
theorem jB.v {k:Nat} {l:List UInt8} (hv:Okl k l) (hk:k≠2) (hlen:l.length≤140737488355328) (S:zx):jd zi O jB.id [by_ k l] S=some (XL l,S):=by
 obtain ⟨T,hTe⟩:∃ T,T=(by_ k l::zh::zh::zh::zh::zh::zh::zh::zh::zh::zh::zh::zh::zh::zh::zh::zh::zh::zh::zh::zh::zh::zh::zh::zh::zh::zh::zh::zh::zh::zh::zh::zh::zh::zh::zh::zh::zh::zh::zh::zh::zh::zh::zh::zh::zh::[]):=⟨_,rfl⟩
 have hr:zL zi O false jB.code T S=zL zi O false jB.code T S:=rfl
 conv at hr =>
  rhs
  rw [hTe]
  simp only [jB.code,zSs,reduceIte,zk,zn,zo,zq,jB.r0,jB.r1,jB.r2,if_neg hk,Zv hv]
 generalize hL:qR (zL zi O false jB.jS) _ _=r at hr
 obtain ⟨e,T',rfl,g3⟩:=jB.round hv hk hlen l [] 0 hL rfl rfl rfl rfl rfl rfl rfl (by simp) (by simp)
 simp only [List.length_nil] at g3
 unfold XL
 cases hsc:scan 0 0 l with
 | none =>
  rw [hsc] at g3
  obtain ⟨rfl,hT'⟩:=g3
  obtain ⟨x0,x1,x2,x3,x4,x5,x6,x7,x8,x9,x10,x11,x12,x13,x14,x15,x16,x17,x18,x19,x20,x21,x22,x23,x24,x25,x26,x27,x28,x29,x30,x31,x32,x33,x34,x35,x36,x37,x38,x39,x40,x41,x42,x43,x44,x45,hTe'⟩:=jB.list hT'
  conv at hr =>
   rhs
   rw [hTe']
   simp only [zSs,reduceIte,zk,zn,zo,zq,jB.r10]
  rw [hTe] at hr
  exact jB.runs hr (.inr rfl) rfl rfl rfl
 | some mr =>
  obtain ⟨m,rest⟩:=mr
  rw [hsc] at g3
  obtain ⟨rfl,hm,h2,h3,h4⟩:=g3
  conv at hr =>
   rhs
   simp only [zSs,reduceIte,zk,zn,zo,zq]
  rw [hTe] at hr
  have hrun:=jB.runs hr (.inr rfl) (by rw [h2];rfl) (by rw [h3];exact wG) (by rw [h4];rfl)
  rw [h2,h3,h4] at hrun
  exact hrun
theorem Xw:∀ (suf:List UInt8) (i acc:Nat),acc < 128 ^ i→i≤9→∀ m rest,scan i acc suf=some (m,rest)→m < 2 ^ 64∧rest.length < suf.length:=by
 intro suf
 induction suf with
 | nil=>intro i acc _ _ m rest h;cases h
 | cons x suf ih =>
  intro i acc hacc hi m rest h
  rw [scan] at h
  have hx256:=x.toNat_lt
  split at h
  ·
   cases h
  ·
   rename_i hs
   split at h
   ·
    rename_i hx
    cases h
    refine ⟨?_,by simp⟩
    by_cases h9:i=9
    ·
     subst h9
     have:x.toNat≤1:=by omega
     have h1:x.toNat * 128 ^ 9≤1 * 128 ^ 9:=Nat.mul_le_mul_right _ this
     have h2:(128:Nat) ^ 9+1 * 128 ^ 9=2 ^ 64:=by decide
     omega
    ·
     have h8:128 ^ (i+1)≤128 ^ 9:=Nat.pow_le_pow_right (by omega) (by omega)
     have h3:acc+x.toNat * 128 ^ i < 128 ^ (i+1):=by
      rw [Nat.pow_succ]
      have:x.toNat * 128 ^ i≤127 * 128 ^ i:=Nat.mul_le_mul_right _ (by omega)
      omega
     exact Nat.lt_of_lt_of_le h3 (Nat.le_trans h8 (by decide))
   ·
    rename_i hx
    have h9:i≠9:=by omega
    have hadd:acc+(x.toNat - 128) * 128 ^ i < 128 ^ (i+1):=by
     rw [Nat.pow_succ]
     have:(x.toNat - 128) * 128 ^ i≤127 * 128 ^ i:=Nat.mul_le_mul_right _ (by omega)
     omega
    obtain ⟨h1,h2⟩:=ih (i+1) _ hadd (by omega) m rest h
    exact ⟨h1,by simp;omega⟩
end Go.Proofs.Ytfjogganfjkckaa
namespace Go.Proofs.Ytfjogganfjkckaa
open Go.Abs
theorem zH.goes (x0 x1 x2 x3 x4 x5 x6 x7 x8 x9 x10 x11 x12 x13 x14 x15 x16 x17 x18 x19 x20 x21 x22 x23 x24 x25 x26 x27 x28 x29 x30 x31 x32 x33 x34 x35 x36 x37 x38 x39 x40 x41 x42 x43 x44 x45 x46 x47 x48 x49 x50 x51 x52 x53 x54 x55 x56 x57:Value) (i:Int) {S:zx} {k:Nat} {l:List UInt8} (hv:Okl k l) (hk:k≠2) (h0:x0=by_ k l) (h7:x7=.int .i64 i):∃ y10 y11 y12 y13 y14 y15 y16,jF zi ⟨false,false,false⟩ (jd zi O) (reg Try.f28 4) (reg Try.f28 4).toList (x0::x1::x2::x3::x4::x5::x6::x7::x8::x9::x10::x11::x12::x13::x14::x15::x16::x17::x18::x19::x20::x21::x22::x23::x24::x25::x26::x27::x28::x29::x30::x31::x32::x33::x34::x35::x36::x37::x38::x39::x40::x41::x42::x43::x44::x45::x46::x47::x48::x49::x50::x51::x52::x53::x54::x55::x56::x57::[]) S =
  some ((x0::x1::x2::x3::x4::x5::x6::x7::x8::x9::y10::y11::y12::y13::y14::y15::y16::.bool (decide (i < l.length∧i < 10))::x18::x19::x20::x21::x22::x23::x24::x25::x26::x27::x28::x29::x30::x31::x32::x33::x34::x35::x36::x37::x38::x39::x40::x41::x42::x43::x44::x45::x46::x47::x48::x49::x50::x51::x52::x53::x54::x55::x56::x57::[]),S):=by
 subst h7 h0
 rw [zH.r4]
 simp only [zSs,reduceIte,zk,zn,zo,zq,if_neg hk,Zv hv,goInt]
 rcases Bool.eq_false_or_eq_true (decide (i < (l.length:Int))) with d1 | d1 <;> rcases Bool.eq_false_or_eq_true (decide (i < 10)) with d2 | d2 <;>
  simp only [d1,d2,zSs,reduceIte,zk,zn,zo,zq] <;> simp only [decide_eq_true_eq,decide_eq_false_iff_not] at d1 d2 <;>
  simp only [d1,d2,and_true,and_false,true_and,false_and,decide_true,decide_false] <;> exact ⟨_,_,_,_,_,_,_,rfl⟩
theorem zH.nine {T:List Value} {S:zx} {i c:Int} (hT:T.length=58) (h7:T.getD 7 zh=.int .i64 i) (h8:T.getD 8 zh=.int .u64 c):∃ T',jF zi ⟨false,false,false⟩ (jd zi O) (reg Try.f28 7) (reg Try.f28 7).toList T S=some (T',S) ∧
  T'.length=58∧T'.getD 31 zh=.bool (decide (i=9∧1 < c))∧∀ j,j < 10→T'.getD j zh=T.getD j zh:=by
 obtain ⟨x0,x1,x2,x3,x4,x5,x6,x7,x8,x9,x10,x11,x12,x13,x14,x15,x16,x17,x18,x19,x20,x21,x22,x23,x24,x25,x26,x27,x28,x29,x30,x31,x32,x33,x34,x35,x36,x37,x38,x39,x40,x41,x42,x43,x44,x45,x46,x47,x48,x49,x50,x51,x52,x53,x54,x55,x56,x57,rfl⟩:=zH.list hT
 simp only [List.getD_cons_succ,List.getD_cons_zero] at h7 h8
 subst h7 h8
 rw [zH.r7]
 simp only [zSs,reduceIte,zk,zn,zo,zq]
 rcases Bool.eq_false_or_eq_true (decide (i=9)) with d1 | d1 <;> rcases Bool.eq_false_or_eq_true (decide (1 < c)) with d2 | d2 <;>
  simp only [d1,d2,zSs,reduceIte,zk,zn,zo,zq] <;> simp only [decide_eq_true_eq,decide_eq_false_iff_not] at d1 d2 <;>
  simp only [d1,d2,and_true,and_false,true_and,false_and,decide_true,decide_false] <;> exact ⟨_,rfl,rfl,rfl,fun j hj=>by (match j,hj with | 0,_=>rfl | 1,_=>rfl | 2,_=>rfl | 3,_=>rfl | 4,_=>rfl | 5,_=>rfl | 6,_=>rfl | 7,_=>rfl | 8,_=>rfl | 9,_=>rfl)⟩
theorem aeb (k:Nat):∀ n,128 ^ k≤n→n < 128 ^ (k+1)→(enc n).length=k+1:=by
 induction k with
 | zero=>intro n _ h;rw [Zo (by omega)];rfl
 | succ k ih =>
  intro n h1 h2
  have hn:¬ n < 128:=by
   have:128 ^ 1≤128 ^ (k+1):=Nat.pow_le_pow_right (by omega) (by omega)
   omega
  rw [Yr hn,List.length_cons,ih (n / 128) (by rw [Nat.le_div_iff_mul_le (by omega)];exact h1) (by rw [Nat.div_lt_iff_lt_mul (by omega)];exact h2)]
theorem ae8 (n:Nat):0 < (enc n).length:=by
 by_cases h:n < 128
 ·
  rw [Zo h];simp
 ·
  rw [Yr h];simp
section
variable {k:Nat} {l:List UInt8} {S:zx}
theorem zH.out (hv:Okl k l) (hk:k≠2) {i:Nat} {T:List Value} {r:St} (hL:qR (zL zi O false zH.jS) T S=r) (hT:T.length=58)
  (h0:T.getD 0 zh=by_ k l) (h7:T.getD 7 zh=.int .i64 i) (hi:l.length≤i∨10≤i):∃ T',r=some (.exit 0,T',S)∧T'.length=58:=by
 obtain ⟨x0,x1,x2,x3,x4,x5,x6,x7,x8,x9,x10,x11,x12,x13,x14,x15,x16,x17,x18,x19,x20,x21,x22,x23,x24,x25,x26,x27,x28,x29,x30,x31,x32,x33,x34,x35,x36,x37,x38,x39,x40,x41,x42,x43,x44,x45,x46,x47,x48,x49,x50,x51,x52,x53,x54,x55,x56,x57,hTe⟩:=zH.list hT
 rw [hTe] at h0 h7
 simp only [List.getD_cons_succ,List.getD_cons_zero] at h0 h7
 have hr:zL zi O false zH.jS T S=zL zi O false zH.jS T S:=rfl
 obtain ⟨y10,y11,y12,y13,y14,y15,y16,e1⟩:=zH.goes x0 x1 x2 x3 x4 x5 x6 x7 x8 x9 x10 x11 x12 x13 x14 x15 x16 x17 x18 x19 x20 x21 x22 x23 x24 x25 x26 x27 x28 x29 x30 x31 x32 x33 x34 x35 x36 x37 x38 x39 x40 x41 x42 x43 x44 x45 x46 x47 x48 x49 x50 x51 x52 x53 x54 x55 x56 x57 (i:Int) (S:=S) hv hk h0 h7
 have hd:decide ((i:Int) < (l.length:Int)∧(i:Int) < 10)=false:=by simp;omega
 rw [hd] at e1
 conv at hr =>
  rhs
  rw [hTe]
  simp only [zH.jS,zSs,reduceIte,zk,zn,zo,zq,e1]
 exact ⟨_,hL.symm.trans (wI hr (by simp)),rfl⟩
theorem zH.round (hv:Okl k l) (hk:k≠2) (hlen:l.length≤140737488355328):∀ (suf pre:List UInt8) (acc:Nat) {T:List Value} {r:St},qR (zL zi O false zH.jS) T S=r→T.length=58 →
  T.getD 0 zh=by_ k l→T.getD 7 zh=.int .i64 pre.length→T.getD 5 zh=.int .u64 acc→T.getD 6 zh=.int .u64 (128 ^ pre.length:Nat)→l=pre++suf→acc < 128 ^ pre.length→pre.length≤9 →
  ∃ e T',r=some (e,T',S)∧match scan pre.length acc suf with
   | none=>(e=.exit 0∧T'.length=58)∨(e=.ret∧T'.getD 2 zh=.int .u64 0∧T'.getD 3 zh=.slice none 0 0∧T'.getD 4 zh=.int .i64 11)
   | some (m,rest)=>e=.ret∧T'.getD 2 zh=.int .u64 m∧T'.getD 3 zh=by_ 2 rest∧T'.getD 4 zh=.int .i64 0:=by
 intro suf
 induction suf with
 | nil =>
  intro pre acc T r hL hT h0 h7 h5 h6 hl hacc hpre
  obtain ⟨T',h1,h2⟩:=zH.out hv hk hL hT h0 h7 (by rw [hl];simp)
  exact ⟨_,T',h1,.inl ⟨rfl,h2⟩⟩
 | cons x suf ih =>
  intro pre acc T r hL hT h0 h7 h5 h6 hl hacc hpre
  obtain ⟨x0,x1,x2,x3,x4,x5,x6,x7,x8,x9,x10,x11,x12,x13,x14,x15,x16,x17,x18,x19,x20,x21,x22,x23,x24,x25,x26,x27,x28,x29,x30,x31,x32,x33,x34,x35,x36,x37,x38,x39,x40,x41,x42,x43,x44,x45,x46,x47,x48,x49,x50,x51,x52,x53,x54,x55,x56,x57,hTe⟩:=zH.list hT
  rw [hTe] at h0 h7 h5 h6
  simp only [List.getD_cons_succ,List.getD_cons_zero] at h0 h7 h5 h6
  have hr:zL zi O false zH.jS T S=zL zi O false zH.jS T S:=rfl
  have hlt:(pre.length:Int) < (l.length:Int):=by rw [hl];simp;omega
  have k0:k≠0:=fun h=>by have:=hv.nil h;rw [this] at hl;simp at hl
  have e1:∀ S,jr zi 33 (by_ k l) (.int .i64 pre.length) S=some (EP [.int .u8 x.toNat],S):=fun S=>by
   rw [agL hv (by omega) hlt];rw [abJ hl]
  have hx256:=x.toNat_lt
  obtain ⟨y10,y11,y12,y13,y14,y15,y16,e3⟩:=zH.goes x0 x1 x2 x3 x4 x5 x6 x7 x8 x9 x10 x11 x12 x13 x14 x15 x16 x17 x18 x19 x20 x21 x22 x23 x24 x25 x26 x27 x28 x29 x30 x31 x32 x33 x34 x35 x36 x37 x38 x39 x40 x41 x42 x43 x44 x45 x46 x47 x48 x49 x50 x51 x52 x53 x54 x55 x56 x57 (pre.length:Int) (S:=S) hv hk h0 h7
  have hd:decide ((pre.length:Int) < (l.length:Int)∧(pre.length:Int) < 10)=true:=by rw [decide_eq_true_eq];omega
  rw [hd,h7,h5,h6,h0] at e3
  have hlow:(x.toNat:Int).tmod 128=((x.toNat % 128:Nat):Int):=afB _
  conv at hr =>
   rhs
   rw [hTe]
   simp only [zH.jS,zSs,reduceIte,zk,zn,zo,zq,h7,h5,h6,h0,e3,zH.r6,if_neg hk,e1,Wv,W9 _ _ _ (show (128:Int)≠0 by omega),hlow,Zh,ZL (show x.toNat % 128 < 2 ^ 64 by omega)]
  generalize hT2:(_::_:List Value)=T2 at hr
  have t0:T2.length=58:=by rw [← hT2];rfl
  have t1:T2.getD 0 zh=by_ k l:=by rw [← hT2];rfl
  have t2:T2.getD 5 zh=.int .u64 acc:=by rw [← hT2];rfl
  have t3:T2.getD 6 zh=.int .u64 (128 ^ pre.length:Nat):=by rw [← hT2];rfl
  have t4:T2.getD 7 zh=.int .i64 pre.length:=by rw [← hT2];rfl
  have t5:T2.getD 8 zh=.int .u64 (x.toNat % 128:Nat):=by rw [← hT2];rfl
  obtain ⟨T3,e4,f0,f1,f2⟩:=zH.nine (S:=S) t0 t4 t5
  rw [← f2 _ (by omega)] at t1 t2 t3 t4 t5
  conv at hr =>
   rhs
   simp only [e4,zSs,reduceIte,zk,zn,zo,zq,f1]
  clear hT2 e4 f1 f2 e3 hTe h7 h5 h6 h0
  obtain ⟨z0,z1,z2,z3,z4,z5,z6,z7,z8,z9,z10,z11,z12,z13,z14,z15,z16,z17,z18,z19,z20,z21,z22,z23,z24,z25,z26,z27,z28,z29,z30,z31,z32,z33,z34,z35,z36,z37,z38,z39,z40,z41,z42,z43,z44,z45,z46,z47,z48,z49,z50,z51,z52,z53,z54,z55,z56,z57,hTe⟩:=zH.list f0
  rw [hTe] at t1 t2 t3 t4 t5
  simp only [List.getD_cons_succ,List.getD_cons_zero] at t1 t2 t3 t4 t5
  subst t1
  by_cases hs1:pre.length=9∧1 < x.toNat % 128
  ·
   have hd1:decide ((pre.length:Int)=9∧1 < ((x.toNat % 128:Nat):Int))=true:=by rw [decide_eq_true_eq];omega
   conv at hr =>
    rhs
    rw [hTe]
    simp only [hd1,zSs,reduceIte,zk,zn,zo,zq,zH.r8]
   refine ⟨_,_,hL.symm.trans (wI hr (by simp)),?_⟩
   rw [scan,if_pos (.inl ⟨hs1.1,by omega⟩)]
   exact .inr ⟨rfl,rfl,rfl,rfl⟩
  ·
   have hd1:decide ((pre.length:Int)=9∧1 < ((x.toNat % 128:Nat):Int))=false:=by rw [decide_eq_false_iff_not];omega
   have hpw:128 ^ pre.length≤128 ^ 9:=Nat.pow_le_pow_right (by omega) hpre
   have hc64:x.toNat % 128 * 128 ^ pre.length < 2 ^ 64:=by
    by_cases h9:pre.length=9
    ·
     rw [h9];have:x.toNat % 128≤1:=by omega
     exact Nat.lt_of_le_of_lt (Nat.mul_le_mul_right _ this) (by decide)
    ·
     have h8:128 ^ pre.length≤128 ^ 8:=Nat.pow_le_pow_right (by omega) (by omega)
     exact Nat.lt_of_le_of_lt (Nat.mul_le_mul (by omega:x.toNat % 128≤127) h8) (by decide)
   have ha64:acc+x.toNat % 128 * 128 ^ pre.length < 2 ^ 64:=by
    by_cases h9:pre.length=9
    ·
     rw [h9] at hacc ⊢
     have:x.toNat % 128≤1:=by omega
     have h1:x.toNat % 128 * 128 ^ 9≤1 * 128 ^ 9:=Nat.mul_le_mul_right _ this
     have h2:(128:Nat) ^ 9+1 * 128 ^ 9=2 ^ 64:=by decide
     omega
    ·
     have h8:128 ^ (pre.length+1)≤128 ^ 9:=Nat.pow_le_pow_right (by omega) (by omega)
     have h3:acc+x.toNat % 128 * 128 ^ pre.length < 128 ^ (pre.length+1):=by
      rw [Nat.pow_succ]
      have:x.toNat % 128 * 128 ^ pre.length≤127 * 128 ^ pre.length:=Nat.mul_le_mul_right _ (by omega)
      omega
     exact Nat.lt_of_lt_of_le h3 (Nat.le_trans h8 (by decide))
   have w1:IntKind.u64.wrap (((x.toNat % 128:Nat):Int) * ((128 ^ pre.length:Nat):Int))=((x.toNat % 128 * 128 ^ pre.length:Nat):Int):=by
    rw [← Int.natCast_mul,ZL hc64]
   have w2:IntKind.u64.wrap ((acc:Int)+((x.toNat % 128 * 128 ^ pre.length:Nat):Int))=((acc+x.toNat % 128 * 128 ^ pre.length:Nat):Int):=by
    rw [← Int.natCast_add,ZL ha64]
   conv at hr =>
    rhs
    rw [hTe]
    simp only [hd1,zSs,reduceIte,zk,zn,zo,zq,zH.r9,zH.r10,zH.r11,t2,t3,t4,t5,w1,w2,if_neg hk,e1,Wv]
   have hi1:IntKind.i64.wrap ((pre.length:Int)+1)=(pre.length:Int)+1:=wrap_i64 (by omega) (by omega)
   by_cases hxs:x.toNat < 128
   ·
    have hxm:x.toNat % 128=x.toNat:=by omega
    rw [hxm] at hr ha64
    have hd2:decide ((x.toNat:Int) < 128)=true:=by rw [decide_eq_true_eq];omega
    conv at hr =>
     rhs
     simp only [hd2,zSs,reduceIte,zk,zn,zo,zq,zH.r12,jw.v _ ha64,zH.r13,Zv (Okl.read),goInt,hi1]
    by_cases hz:0 < pre.length∧x.toNat=0
    ·
     have hlen2:(enc (acc+x.toNat * 128 ^ pre.length)).length≤pre.length:=by
      obtain ⟨q,hq⟩:∃ q,pre.length=q+1:=⟨pre.length - 1,by omega⟩
      rw [hz.2,Nat.zero_mul,Nat.add_zero,hq]
      exact aeY q acc (by rw [← hq];exact hacc)
     have hd3:decide ((((enc (acc+x.toNat * 128 ^ pre.length)).length:Nat):Int)=(pre.length:Int)+1)=false:=by rw [decide_eq_false_iff_not];omega
     conv at hr =>
      rhs
      simp only [hd3,zSs,reduceIte,zk,zn,zo,zq,zH.r14]
     refine ⟨_,_,hL.symm.trans (wI hr (by simp)),?_⟩
     rw [scan,if_pos (.inr hz)]
     exact .inr ⟨rfl,rfl,rfl,rfl⟩
    ·
     have hlen2:(enc (acc+x.toNat * 128 ^ pre.length)).length=pre.length+1:=by
      by_cases hp0:pre.length=0
      ·
       rw [hp0] at hacc ⊢
       rw [Zo (by omega)];rfl
      ·
       refine aeb _ _ ?_ ?_
       ·
        have:1 * 128 ^ pre.length≤x.toNat * 128 ^ pre.length:=Nat.mul_le_mul_right _ (by omega)
        omega
       ·
        rw [Nat.pow_succ]
        have:x.toNat * 128 ^ pre.length≤127 * 128 ^ pre.length:=Nat.mul_le_mul_right _ (by omega)
        omega
     have hd3:decide ((((enc (acc+x.toNat * 128 ^ pre.length)).length:Nat):Int)=(pre.length:Int)+1)=true:=by rw [decide_eq_true_eq];omega
     have e4:∀ S,Z9 zi 33 (by_ k l) (some (.int .i64 ((pre.length:Int)+1))) none S=some (by_ k suf,S):=fun S=>by
      rw [adw hv (lo:=some (.int .i64 ((pre.length:Int)+1))) (hi:=none) (i:=(pre.length:Int)+1) (j:=l.length) rfl rfl (by omega) (by omega) (by omega),adA hl,if_neg hk]
     have ok2:Okl k suf:=⟨hv.le,fun h=>absurd h k0⟩
     have e5:∀ S,yB zi 33 33 (by_ 2 []) (by_ k suf) S=some (by_ 2 suf,S):=fun S=>by
      rw [xu Okl.own (by decide) ok2 (by have:=congrArg List.length hl;simp at this;simp;omega)];rfl
     conv at hr =>
      rhs
      simp only [hd3,zSs,reduceIte,zk,zn,zo,zq,zH.r15,Ze,agY,hi1,if_neg hk,e4,e5]
     refine ⟨_,_,hL.symm.trans (wI hr (by simp)),?_⟩
     rw [scan,if_neg (by rintro (h | h);exact absurd ⟨h.1,by omega⟩ hs1;exact hz h),if_pos hxs]
     exact ⟨rfl,rfl,rfl,rfl⟩
   ·
    have hd2:decide ((x.toNat:Int) < 128)=false:=by rw [decide_eq_false_iff_not];omega
    conv at hr =>
     rhs
     simp only [hd2,zSs,reduceIte,zk,zn,zo,zq,zH.r5,hi1]
    obtain ⟨T1,hr,q0,q1,q2,q3,q4⟩:∃ T1,zL zi O false zH.jS T S=some (.normal,T1,S)∧T1.length=58∧T1.getD 0 zh=by_ k l∧T1.getD 7 zh=.int .i64 ((pre.length:Int)+1) ∧
     T1.getD 5 zh=.int .u64 ((acc+x.toNat % 128 * 128 ^ pre.length:Nat):Int)∧T1.getD 6 zh=.int .u64 (IntKind.u64.wrap (((128 ^ pre.length:Nat):Int) * 128)):=⟨_,hr,rfl,rfl,rfl,rfl,rfl⟩
    by_cases hp9:pre.length=9
    ·
     obtain ⟨T',h1,h2⟩:=zH.out hv hk ((yH hr).symm.trans hL) q0 q1 (i:=pre.length+1) q2 (.inr (by omega))
     refine ⟨_,T',h1,?_⟩
     rw [scan,if_pos (.inl ⟨hp9,by omega⟩)]
     exact .inl ⟨rfl,h2⟩
    ·
     have hpl:IntKind.u64.wrap (((128 ^ pre.length:Nat):Int) * 128)=((128 ^ (pre.length+1):Nat):Int):=by
      have h8:128 ^ (pre.length+1)≤128 ^ 9:=Nat.pow_le_pow_right (by omega) (by omega)
      rw [show ((128 ^ pre.length:Nat):Int) * 128=((128 ^ (pre.length+1):Nat):Int) by rw [Nat.pow_succ,Int.natCast_mul];rfl]
      exact ZL (Nat.lt_of_le_of_lt h8 (by decide))
     rw [hpl] at q4
     have hadd:acc+x.toNat % 128 * 128 ^ pre.length < 128 ^ (pre.length+1):=by
      rw [Nat.pow_succ]
      have:x.toNat % 128 * 128 ^ pre.length≤127 * 128 ^ pre.length:=Nat.mul_le_mul_right _ (by omega)
      omega
     have hpl2:(pre++[x]).length=pre.length+1:=by simp
     obtain ⟨e,T',g1,g3⟩:=ih (pre++[x]) (acc+x.toNat % 128 * 128 ^ pre.length) ((yH hr).symm.trans hL) q0 q1 (by rw [hpl2];exact q2) q3 (by rw [hpl2];exact q4) (by simp [hl]) (by rw [hpl2];exact hadd) (by rw [hpl2];omega)
     refine ⟨e,T',g1,?_⟩
     rw [scan,if_neg (by omega),if_neg hxs]
     have hxm:x.toNat % 128=x.toNat - 128:=by omega
     rw [hxm,hpl2] at g3
     exact g3
theorem zH.v (hv:Okl k l) (hk:k≠2) (hlen:l.length≤140737488355328) (S:zx):jd zi O zH.id [by_ k l] S=some (XL l,S):=by
 obtain ⟨T,hTe⟩:∃ T,T=(by_ k l::zh::zh::zh::zh::zh::zh::zh::zh::zh::zh::zh::zh::zh::zh::zh::zh::zh::zh::zh::zh::zh::zh::zh::zh::zh::zh::zh::zh::zh::zh::zh::zh::zh::zh::zh::zh::zh::zh::zh::zh::zh::zh::zh::zh::zh::zh::zh::zh::zh::zh::zh::zh::zh::zh::zh::zh::zh::[]):=⟨_,rfl⟩
 have hr:zL zi O false zH.code T S=zL zi O false zH.code T S:=rfl
 conv at hr =>
  rhs
  rw [hTe]
  simp only [zH.code,zSs,reduceIte,zk,zn,zo,zq,zH.r0,zH.r1,zH.r2,zH.r3]
 generalize hL:qR (zL zi O false zH.jS) _ _=r at hr
 obtain ⟨e,T',rfl,g3⟩:=zH.round hv hk hlen l [] 0 hL rfl rfl rfl rfl rfl rfl (by simp) (by simp)
 simp only [List.length_nil] at g3
 unfold XL
 cases hsc:scan 0 0 l with
 | none =>
  rw [hsc] at g3
  rcases g3 with ⟨rfl,hT'⟩ | ⟨rfl,h2,h3,h4⟩
  ·
   obtain ⟨x0,x1,x2,x3,x4,x5,x6,x7,x8,x9,x10,x11,x12,x13,x14,x15,x16,x17,x18,x19,x20,x21,x22,x23,x24,x25,x26,x27,x28,x29,x30,x31,x32,x33,x34,x35,x36,x37,x38,x39,x40,x41,x42,x43,x44,x45,x46,x47,x48,x49,x50,x51,x52,x53,x54,x55,x56,x57,hTe'⟩:=zH.list hT'
   conv at hr =>
    rhs
    rw [hTe']
    simp only [zSs,reduceIte,zk,zn,zo,zq,zH.r16]
   rw [hTe] at hr
   exact zH.runs hr (.inr rfl) rfl rfl rfl
  ·
   conv at hr =>
    rhs
    simp only [zSs,reduceIte,zk,zn,zo,zq]
   rw [hTe] at hr
   have hrun:=zH.runs hr (.inr rfl) (by rw [h2];rfl) (by rw [h3];rfl) (by rw [h4];rfl)
   rw [h2,h3,h4] at hrun
   exact hrun
 | some mr =>
  obtain ⟨m,rest⟩:=mr
  rw [hsc] at g3
  obtain ⟨rfl,h2,h3,h4⟩:=g3
  conv at hr =>
   rhs
   simp only [zSs,reduceIte,zk,zn,zo,zq]
  rw [hTe] at hr
  have hrun:=zH.runs hr (.inr rfl) (by rw [h2];rfl) (by rw [h3];exact wG) (by rw [h4];rfl)
  rw [h2,h3,h4] at hrun
  exact hrun
end
end Go.Proofs.Ytfjogganfjkckaa
namespace Go.Proofs.Ytfjogganfjkckaa
open Go.Abs
theorem KX {n:Nat} (h:n < 256):(UInt8.ofNat n).toNat=n:=by rw [UInt8.toNat_ofNat'];omega
theorem acr:∀ (n i acc:Nat) (r:List UInt8),i≤9→(0 < i→0 < n)→n * 128 ^ i < 2 ^ 64→scan i acc (enc n++r)=some (acc+n * 128 ^ i,r):=by
 intro n
 induction n using Nat.strongRecOn with
 | _ n ih =>
  intro i acc r hi hn hlt
  have h9:i=9→n≤1:=by
   intro h;subst h
   have:(128:Nat) ^ 9=2 ^ 63:=by decide
   omega
  by_cases hs:n < 128
  ·
   rw [Zo hs,List.singleton_append,scan,KX (by omega),if_neg (by rintro (⟨h1,h2⟩ | ⟨h1,h2⟩);exact absurd (h9 h1) (by omega);exact absurd (hn h1) (by omega)),if_pos hs]
  ·
   rw [Yr hs,List.cons_append,scan,KX (by omega)]
   have hi9:i≠9:=fun h=>by have:=h9 h;omega
   rw [if_neg (by rintro (⟨h1,h2⟩ | ⟨h1,h2⟩);exact hi9 h1;omega),if_neg (by omega)]
   have hmul:n / 128 * 128 ^ (i+1)≤n * 128 ^ i:=by
    rw [Nat.pow_succ,← Nat.mul_assoc,Nat.mul_right_comm]
    exact Nat.mul_le_mul_right _ (by omega)
   rw [ih (n / 128) (by omega) (i+1) _ r (by omega) (fun _=>by omega) (Nat.lt_of_le_of_lt hmul hlt)]
   congr 2
   have:n=n % 128+n / 128 * 128:=by omega
   have e1:(n % 128+128 - 128) * 128 ^ i+n / 128 * 128 ^ (i+1)=n * 128 ^ i:=by
    rw [Nat.pow_succ]
    conv=>rhs;rw [this,Nat.add_mul]
    rw [Nat.add_sub_cancel,Nat.mul_comm (128 ^ i) 128,← Nat.mul_assoc]
   omega
theorem YP {n:Nat} (h:n < 2 ^ 64) (r:List UInt8):scan 0 0 (enc n++r)=some (n,r):=by
 rw [acr n 0 0 r (by omega) (by omega) (by simpa using h)];simp
theorem abp:∀ (l:List UInt8) (i acc m:Nat) (r:List UInt8),scan i acc l=some (m,r)→∃ n,l=enc n++r∧m=acc+n * 128 ^ i∧(0 < i→0 < n):=by
 intro l
 induction l with
 | nil=>intro i acc m r h;cases h
 | cons x l ih =>
  intro i acc m r h
  rw [scan] at h
  have hx:=x.toNat_lt
  split at h
  ·
   cases h
  ·
   rename_i hs
   split at h
   ·
    rename_i hx2
    cases h
    refine ⟨x.toNat,?_,rfl,fun hi=>by omega⟩
    rw [Zo hx2];simp
   ·
    rename_i hx2
    obtain ⟨n,h1,h2,h3⟩:=ih _ _ _ _ h
    refine ⟨x.toNat - 128+n * 128,?_,?_,fun _=>?_⟩
    ·
     have hn:=h3 (by omega)
     rw [Yr (by omega),show (x.toNat - 128+n * 128) / 128=n by omega,show (x.toNat - 128+n * 128) % 128+128=x.toNat by omega,h1]
     simp
    ·
     rw [h2,Nat.pow_succ,Nat.add_mul]
     rw [Nat.mul_comm (128 ^ i) 128,← Nat.mul_assoc];omega
    ·
     have:=h3 (by omega);omega
theorem aa7 {l r:List UInt8} {m:Nat} (h:scan 0 0 l=some (m,r)):l=enc m++r∧m < 2 ^ 64:=by
 obtain ⟨n,h1,h2,_⟩:=abp l 0 0 m r h
 have:m=n:=by simpa using h2
 subst this
 exact ⟨h1,(Xw l 0 0 (by decide) (by omega) m r h).1⟩
theorem ajX {a b:Nat} (ha:a < 2 ^ 64) (hb:b < 2 ^ 64) {r s:List UInt8} (h:enc a++r=enc b++s):a=b∧r=s:=by
 have h1:=YP ha r
 rw [h,YP hb s] at h1
 simp only [Option.some.injEq,Prod.mk.injEq] at h1
 exact ⟨h1.1.symm,h1.2.symm⟩
end Go.Proofs.Ytfjogganfjkckaa
namespace Go.Abs
open Go.RowKit
theorem akJ {b:Nat} {e:Ty} {α:Type} (f:α→List Value) (Q:α→Prop) (h:∀ x,e.Good x→∃ y,e.Y2 x=f y∧Q y) (hf:∀ y,(f y).length=e.sz) (x:(Ty.slc b e).Val) (hg:(Ty.slc b e).Good x) :
  ∃ k l,Okl k l∧k≠2∧(Ty.slc b e).Y2 x=[vs f e.sz k l]∧l.length * b≤140737488351232∧∀ y ∈ l,Q y:=by
 match x,hg with
 | none,_=>exact ⟨0,[],Okl.none,by decide,rfl,by simp,fun y hy=>by cases hy⟩
 | some xs,hg =>
  obtain ⟨h1,h2,h3⟩:=hg
  have key:∀ xs:List e.Val,(∀ n ∈ xs,e.Good n)→∃ l:List α,xs.flatMap e.Y2=l.flatMap f∧l.length=xs.length∧∀ y ∈ l,Q y:=by
   intro xs
   induction xs with
   | nil=>intro _;exact ⟨[],rfl,rfl,fun y hy=>by cases hy⟩
   | cons n xs ih =>
    intro hn
    obtain ⟨y,hy,hq⟩:=h n (hn n (by simp))
    obtain ⟨l,k1,k2,k3⟩:=ih (fun m hm=>hn m (by simp [hm]))
    refine ⟨y::l,by rw [List.flatMap_cons,List.flatMap_cons,hy,k1],by simp [k2],fun z hz=>?_⟩
    rcases List.mem_cons.1 hz with rfl | hz
    ·
     exact hq
    ·
     exact k3 z hz
  obtain ⟨l,k1,k2,k3⟩:=key xs h3
  refine ⟨1,l,Okl.read,by decide,?_,by rw [k2];exact h1,k3⟩
  show [SL 1 e.sz (List.length xs) (List.flatMap e.Y2 xs)]=[_]
  unfold vs
  rw [sv1,k1,k2]
theorem aeB {cs xs:List Value} (h:cs.length=xs.length):splice cs 0 xs=xs:=by
 unfold splice
 rw [List.take_zero,List.nil_append,Nat.zero_add,← h,List.drop_length,List.append_nil]
theorem akH {k e n:Nat} {cs:List Value}:(sv k e n cs).oneCell'=true:=by unfold sv;split <;> rfl
theorem aiY {α:Type} {f:α→List Value} {e k:Nat} {l:List α}:(vs f e k l).oneCell'=true:=akH
theorem afA {k:IntKind} {n:Int}:(Value.int k n).oneCell'=true:=rfl
theorem KG {P:Program} {t:TypeId} {z xs:List Value} {x:Value} (S:zx) (hx:x.cells.toList=xs) (hs:ZU P t=some z.length) (hl:xs.length=z.length) (h1:xs.all (·.oneCell')=true) :
  ∃ S2,wS P t (.pointer (some ⟨S.next,0,none⟩)) x (S.push (.cells z (.own []) 0))=some (zh,S2)∧S2.get S.next=some (.cells xs (.own []) 0)∧Ext S S2∧S.next < S2.next:=by
 have hg:(S.push (.cells z (.own []) 0)).get S.next=some (.cells z (.own []) 0):=by rw [zx.yA,if_pos rfl]
 refine ⟨_,vU hg hs (by rw [← Array.length_toList,hx,hl]) (by rw [hx];exact h1) (by simp),?_,(Ext.push S _).set (Nat.le_refl _) _,by simp [zx.kills]⟩
 rw [zx.qx,if_pos rfl,hx,aeB hl.symm]
theorem Xx {P:Program} {t:TypeId} {q o n:Nat} {cs:List Value} {e:Nat} {x:Value} {S S0:zx} (hg:S.get q=some (.cells cs (.own []) e)) (hs:ZU P t=some n) (hn:x.cells.size=n) (h1:x.cells.toList.all (·.oneCell')=true) (hle:o+n≤cs.length) (hE:Ext S0 S) (hq:S0.next≤q) :
  ∃ S2,wS P t (.pointer (some ⟨q,o,none⟩)) x S=some (zh,S2)∧S2.get q=some (.cells (splice cs o x.cells.toList) (.own []) e)∧Ext S0 S2∧S2.next=S.next∧∀ k,k≠q→S2.get k=S.get k:=by
 exact ⟨_,vU hg hs hn h1 hle,by rw [zx.qx,if_pos rfl],hE.set hq _,by simp [zx.kills],fun k hk=>by rw [zx.qx,if_neg hk];rfl⟩
theorem adv (x:Value) (S:zx):∃ S2,JK x S=some (.pointer (some ⟨S.next,0,none⟩),S2)∧S2.get S.next=some (.cells x.cells.toList (.own []) 0)∧Ext S S2∧S.next < S2.next :=
 ⟨_,rfl,by rw [zx.yA,if_pos rfl],Ext.push _ _,by simp⟩
end Go.Abs
namespace Go.Proofs.Ytfjogganfjkckaa
open Go.Abs
theorem bb0 (S:zx):jU zi 33 0 [] S=some (by_ 2 [],S):=by rw [Ze];rfl
structure Tb where
 k:Nat
 b:List UInt8
structure Tb.Ok (t:Tb):Prop where
 okl:Okl t.k t.b
 ne:t.k≠2
 le:t.b.length≤140737488351232
end Go.Proofs.Ytfjogganfjkckaa
