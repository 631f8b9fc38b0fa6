/-
The law GateOnce returns true for every input, and leaves it as it was; no condition. Part 6 of 7 of the texts (put together by a program: own names are short, what isn't needed is left out).
-/
import Derived.Test.YtfjogganfjkckaaZGateOnce5

set_option linter.unusedVariables false
set_option linter.unusedSimpArgs false
set_option maxRecDepth 100000
open Go renaming undef → zh
open Go.Proofs.Try renaming prog → zi
open Nat renaming reduceEqDiff → zk
open Int renaming reduceEq → zn
open Int renaming reduceLT → zo
open Int renaming reduceLE → zq
namespace Go.Proofs.Ytfjogganfjkckaa
open Go.Abs
abbrev tl (k:Nat) (l:List TxV):Value:=vs fT 2 k l
theorem afn (t:TxV):(fT t).length=2:=rfl
theorem akH (t:TxV):(fT t).all (·.oneCell')=true:=rfl
theorem Jr {k:Nat} {l:List TxV} {S:zy} (h:Okl k l):Zu zi 44 (tl k l) S=some (.int .i64 l.length,S):=abA JF h
theorem Qz {k:Nat} {l pre suf:List TxV} {t:TxV} {S:zy} (h:Okl k l) (hl:l=pre++t::suf):jy zi 44 (tl k l) (.int .i64 pre.length) S=some (EP [.int .i64 t.id,.int .i64 t.fee],S):=by
 have h1:(pre.length:Int) < (l.length:Int):=by rw [hl];simp;omega
 rw [agu JF ZY afn h (by omega) h1,Xt hl];rfl
theorem ahS {k:Nat} {l:List TxV} {S:zy} {lo hi:Option Value} {i j:Int} (h:Okl k l) (hlo:ZF 0 lo=some i) (hhi:ZF l.length hi=some j) (h0:0≤i) (hij:i≤j) (hj:j≤l.length):Jj zi 44 (tl k l) lo hi S=some (tl (if k=2 then 1 else k) ((l.drop i.toNat).take (j.toNat - i.toNat)),S):=adE JF ZY afn h hlo hhi h0 hij hj
theorem agc {k:Nat} {l:List TxV} {t:TxV} {S:zy} (h:Okl k l) (hk:k≠1) (hl:l.length≤8796093022000):wR zi 44 44 (tl k l) (tl 2 [t]) S=some (tl 2 (l++[t]),S):=by
 rw [Y1 JF ZY ag9 rfl aha (by omega) JF afn akH h hk Okl.own (by simp;omega) (by simp;omega),if_neg (fun h=>by have:=h.2;simp at this)]
theorem ada {α:Type} (g:α→Int) (v:Value) (l:List α) (k:Int):X0 (l.map fun t=>(g t,v)) k=if k ∈ l.map g then some v else none:=by
 induction l with
 | nil=>rfl
 | cons t l ih =>
  simp only [List.map_cons,X0,ih,List.mem_cons]
  by_cases h:g t=k
  ·
   simp [h]
  ·
   have h':¬ k=g t:=fun e=>h e.symm
   simp [h,h']
abbrev kI:Int→Value:=fun n=>.int .i64 n
def unl (l:List TxV):Bool:=decide ((l.map TxV.id).Nodup) && decide (l.length≤3)
theorem jO.round {k:Nat} {l:List TxV} (hk:Okl k l) (hl:l.length≤8796093022208) {q:Nat}:∀ (suf pre:List TxV) {T:List Value} {S:zy} {r:St},qE (zJ zi O false jO.jT) T S=r→T.length=24 →
  T.getD 0 zh=tl k l→T.getD 3 zh=.map (some q)→T.getD 7 zh=tl k l→T.getD 8 zh=.int .i64 l.length→T.getD 9 zh=.int .i64 pre.length→l=pre++suf →
  MapAt kI S q (pre.map fun t=>(t.id,.bool true))→q < S.next→(pre.map TxV.id).Nodup →
  ∃ e T' S',r=some (e,T',S')∧if (l.map TxV.id).Nodup then e=.exit 0∧T'.length=24∧T'.getD 0 zh=tl k l else e=.ret∧T'.getD 2 zh=.bool false:=by
 intro suf
 induction suf with
 | nil =>
  intro pre T S r hL hT h0 h3 h7 h8 h9 hpre hm hq hn
  have hTe:=jO.eta hT
  rw [h0,h3,h7,h8,h9] at hTe
  have hr:zJ zi O false jO.jT T S=zJ zi O false jO.jT T S:=rfl
  have d1:¬ (pre.length:Int) < (l.length:Int):=by rw [hpre];simp
  conv at hr =>
   rhs
   rw [hTe]
   simp only [jO.jT,jO.code,jO.rs,zSs,reduceIte,zk,zn,zo,zq,d1]
  refine ⟨_,_,_,hL.symm.trans (wu hr (by simp)),?_⟩
  rw [if_pos (by rw [hpre,List.append_nil];exact hn)]
  exact ⟨rfl,rfl,rfl⟩
 | cons t suf ih =>
  intro pre T S r hL hT h0 h3 h7 h8 h9 hpre hm hq hn
  have hTe:=jO.eta hT
  rw [h0,h3,h7,h8,h9] at hTe
  have hr:zJ zi O false jO.jT T S=zJ zi O false jO.jT T S:=rfl
  have d1:(pre.length:Int) < (l.length:Int):=by rw [hpre];simp;omega
  have e1:=fun S=>Qz (S:=S) hk hpre
  have wi:IntKind.i64.wrap ((pre.length:Int)+1)=((pre++[t]).length:Int):=by rw [wrap_i64 (by omega) (by omega)];simp
  obtain ⟨S2,p1,p2,p3,p4⟩:=XO S t
  have hm2:MapAt kI S2 q (pre.map fun t=>(t.id,.bool true)):=hm.keep (p3.get q hq)
  have m1:vX zi false 126 (.map (some q)) (.int .i64 t.id) false S2=_:=agI Xm hm2 QH aa0 aiI rfl t.id
  rw [ada] at m1
  by_cases ht:t.id ∈ pre.map TxV.id
  ·
   rw [if_pos ht] at m1
   conv at hr =>
    rhs
    rw [hTe]
    simp only [jO.jT,jO.code,jO.rs,zSs,reduceIte,zk,zn,zo,zq,d1,e1,xH,JO,p1,xw,Xg p2,m1,Option.getD_some]
   refine ⟨_,_,_,hL.symm.trans (wu hr (by simp)),?_⟩
   rw [if_neg (by rw [hpre];simp only [List.map_append,List.map_cons,List.nodup_append];intro h;exact h.2.2 _ ht _ (by simp) rfl)]
   exact ⟨rfl,rfl⟩
  ·
   rw [if_neg ht] at m1
   obtain ⟨S3,u1,u2,u3,u4,u5⟩:=acA Xm hm2 QH aa0 t.id (.bool true)
   have u1':qo zi 126 (.map (some q)) (.int .i64 t.id) (.bool true) S2=some (zh,S3):=u1
   rw [aap (by rw [ada,if_neg ht])] at u2
   conv at hr =>
    rhs
    rw [hTe]
    simp only [jO.jT,jO.code,jO.rs,zSs,reduceIte,zk,zn,zo,zq,d1,e1,xH,JO,p1,xw,Xg p2,m1,Option.getD_none,u1',wi]
   refine ih (pre++[t]) ((wZ hr).symm.trans hL) rfl rfl rfl rfl rfl rfl (by simp [hpre]) (by simpa using u2) (by omega) ?_
   simp only [List.map_append,List.map_cons,List.map_nil,List.nodup_append]
   exact ⟨hn,by simp,fun a ha b hb=>by simp at hb;subst hb;exact fun h=>ht (h ▸ ha)⟩
theorem jO.v {k:Nat} {l:List TxV} (hk:Okl k l) (k2:k≠2) (hl:l.length≤8796093022208) (S:zy):zZ zi O jO.id [tl k l] S=some (.bool (unl l),S):=by
 obtain ⟨T,hTe⟩:∃ T,T=(tl k l::zh::zh::zh::zh::zh::zh::zh::zh::zh::zh::zh::zh::zh::zh::zh::zh::zh::zh::zh::zh::zh::zh::zh::[]):=⟨_,rfl⟩
 have hr:zJ zi O false jO.code T zy.empty=zJ zi O false jO.code T zy.empty:=rfl
 obtain ⟨S1,m1,m2,m3,m4,m5⟩:=abZ (P:=zi) (t:=126) kI zy.empty
 conv at hr =>
  rhs
  rw [hTe]
  simp only [jO.code,jO.rs,zSs,reduceIte,zk,zn,zo,zq,m1,if_neg k2,Jr hk]
 generalize hL:qE (zJ zi O false jO.jT) _ _=r at hr
 obtain ⟨e,T',S',rfl,g⟩:=jO.round hk hl l [] hL rfl rfl rfl rfl rfl rfl rfl m2 (by omega) List.nodup_nil
 unfold unl
 by_cases h:(l.map TxV.id).Nodup
 ·
  rw [if_pos h] at g
  obtain ⟨rfl,g2,g3⟩:=g
  have hTe':=jO.eta g2
  rw [g3] at hTe'
  have d3:decide ((l.length:Int)≤3)=decide (l.length≤3):=decide_eq_decide.mpr (by omega)
  conv at hr =>
   rhs
   rw [hTe']
   simp only [jO.code,jO.rs,zSs,reduceIte,zk,zn,zo,zq,if_neg k2,Jr hk,d3]
  rw [hTe] at hr
  rw [decide_eq_true h,Bool.true_and]
  exact jO.runs hr (.inr rfl) (all1 (Jo hk.le fun _ _=>rfl)) rfl
 ·
  rw [if_neg h] at g
  obtain ⟨rfl,g2⟩:=g
  conv at hr =>
   rhs
   simp only [zSs,reduceIte,zk,zn,zo,zq]
  rw [hTe] at hr
  rw [decide_eq_false h,Bool.false_and]
  have hrun:=jO.runs (S:=S) hr (.inr rfl) (all1 (Jo hk.le fun _ _=>rfl)) (by rw [g2];rfl)
  rw [g2] at hrun
  exact hrun
def ZN (l:List TxV):Bool:=unl l && l.all qF
def flat (l:List TxV):List Int:=l.flatMap fun t=>[t.id,t.fee]
def aaE (l:List TxV):List UInt8:=encs ((l.length:Int)::flat l)
def aii (l:List TxV):Value:=if ZN l then .tuple #[by_ 2 (aaE l),.int .i64 0] else .tuple #[.slice none 0 0,.int .i64 61]
theorem Yn (a b:List TxV):flat (a++b)=flat a++flat b:=by simp [flat]
theorem JR (l:List TxV):(flat l).length=2 * l.length:=by
 induction l with
 | nil=>rfl
 | cons t l ih=>rw [show flat (t::l)=[t.id,t.fee]++flat l from rfl,List.length_append,ih];simp;omega
theorem VN {l:List TxV} (h:∀ t ∈ l,qF t=true):∀ n ∈ flat l,0≤n∧n≤1000000:=by
 intro n hn
 simp only [flat,List.mem_flatMap] at hn
 obtain ⟨t,h1,h2⟩:=hn
 obtain ⟨b1,b2,b3,b4⟩:=xJ.mp (h t h1)
 simp at h2
 omega
theorem ZA (l:List TxV):aaE l=encs [(l.length:Int)]++encs (flat l):=ZE [(l.length:Int)] (flat l)
theorem YM {l:List TxV} (h:∀ t ∈ l,qF t=true):(encs (flat l)).length≤20 * l.length:=by
 have h1:=Jl (l:=flat l) (fun n hn=>by have:=VN h n hn;omega)
 rw [JR] at h1
 omega
theorem wE.round {k:Nat} {l:List TxV} (hk:Okl k l) (hl:l.length≤3) {A:List UInt8} (hA:A.length≤100):∀ (suf pre:List TxV) {T:List Value} {S:zy} {r:St},qE (zJ zi O false wE.jT) T S=r→T.length=39 →
  T.getD 4 zh=by_ 2 (A++encs (flat pre))→T.getD 20 zh=tl k l→T.getD 21 zh=.int .i64 l.length→T.getD 22 zh=.int .i64 pre.length→l=pre++suf→(∀ t ∈ pre,qF t=true) →
  ∃ e T' S',r=some (e,T',S')∧if l.all qF=true then e=.exit 0∧T'.length=39∧T'.getD 4 zh=by_ 2 (A++encs (flat l)) else e=.ret∧T'.getD 2 zh=.slice none 0 0∧T'.getD 3 zh=.int .i64 61:=by
 intro suf
 induction suf with
 | nil =>
  intro pre T S r hL hT h4 h20 h21 h22 hpre hp
  have hTe:=wE.eta hT
  rw [h4,h20,h21,h22] at hTe
  have hr:zJ zi O false wE.jT T S=zJ zi O false wE.jT T S:=rfl
  have d1:¬ (pre.length:Int) < (l.length:Int):=by rw [hpre];simp
  conv at hr =>
   rhs
   rw [hTe]
   simp only [wE.jT,wE.code,wE.rs,zSs,reduceIte,zk,zn,zo,zq,d1]
  refine ⟨_,_,_,hL.symm.trans (wu hr (by simp)),?_⟩
  rw [List.append_nil] at hpre
  rw [hpre,if_pos (List.all_eq_true.mpr hp)]
  exact ⟨rfl,rfl,rfl⟩
 | cons t suf ih =>
  intro pre T S r hL hT h4 h20 h21 h22 hpre hp
  have hTe:=wE.eta hT
  rw [h4,h20,h21,h22] at hTe
  have hr:zJ zi O false wE.jT T S=zJ zi O false wE.jT T S:=rfl
  have d1:(pre.length:Int) < (l.length:Int):=by rw [hpre];simp;omega
  have e1:=fun S=>Qz (S:=S) hk hpre
  have wi:IntKind.i64.wrap ((pre.length:Int)+1)=((pre++[t]).length:Int):=by rw [wrap_i64 (by omega) (by omega)];simp
  obtain ⟨S2,p1,p2,p3,p4⟩:=XO S t
  have c1:∀ S,zZ zi O 71 [.agg [Value.int .i64 t.id,.int .i64 t.fee].toArray] S=some (ajK t,S):=fun S=>yU.v t S
  unfold ajK at c1
  by_cases ht:qF t=true
  ·
   rw [if_pos ht] at c1
   have hb:=acp ht
   have hf:=YM hp
   have hpl:pre.length≤3:=by omega
   have ap:∀ S,wR zi 33 33 (by_ 2 (A++encs (flat pre))) (by_ 1 (txB t)) S=some (by_ 2 (A++encs (flat (pre++[t]))),S):=fun S=>by
    rw [xG Okl.own (by decide) Okl.read (by simp;omega),Yn,ZE,← List.append_assoc];rfl
   conv at hr =>
    rhs
    rw [hTe]
    simp only [wE.jT,wE.code,wE.rs,zSs,reduceIte,zk,zn,zo,zq,d1,e1,xH,JO,p1,Wp p2,c1,ap,wi]
   exact ih (pre++[t]) ((wZ hr).symm.trans hL) rfl rfl rfl rfl rfl (by simp [hpre]) (fun x hx=>by rcases List.mem_append.1 hx with h | h;{ exact hp x h };{ simp at h;rw [h];exact ht })
  ·
   rw [if_neg ht] at c1
   conv at hr =>
    rhs
    rw [hTe]
    simp only [wE.jT,wE.code,wE.rs,zSs,reduceIte,zk,zn,zo,zq,d1,e1,xH,JO,p1,Wp p2,c1]
   refine ⟨_,_,_,hL.symm.trans (wu hr (by simp)),?_⟩
   rw [if_neg (by rw [hpre];simp [ht])]
   exact ⟨rfl,rfl,rfl⟩
theorem wE.v {k:Nat} {l:List TxV} (hk:Okl k l) (k2:k≠2) (hl:l.length≤8796093022208) (S:zy):zZ zi O wE.id [tl k l] S=some (aii l,S):=by
 obtain ⟨T,hTe⟩:∃ T,T=(tl k l::zh::zh::zh::zh::zh::zh::zh::zh::zh::zh::zh::zh::zh::zh::zh::zh::zh::zh::zh::zh::zh::zh::zh::zh::zh::zh::zh::zh::zh::zh::zh::zh::zh::zh::zh::zh::zh::zh::[]):=⟨_,rfl⟩
 have hr:zJ zi O false wE.code T zy.empty=zJ zi O false wE.code T zy.empty:=rfl
 have c1:=fun S=>jO.v hk k2 hl S
 have cl:jW 16 (tl k l)=true:=Jo hk.le fun _ _=>rfl
 unfold aii ZN
 by_cases hu:unl l=true
 ·
  have h3:l.length≤3:=by unfold unl at hu;simp at hu;exact hu.2
  have c2:=fun S=>jH.v (l:=[(l.length:Int)]) Okl.read (by decide) (by simp;omega) S
  have hA:(encs [(l.length:Int)]).length≤100:=by
   have:=Jl (l:=[(l.length:Int)]) (by simp;omega)
   simp at this;omega
  conv at hr =>
   rhs
   rw [hTe]
   simp only [wE.code,wE.rs,zSs,reduceIte,zk,zn,zo,zq,if_neg k2,c1,hu,Jr hk,WO,ahT,c2,JW (l:=[(l.length:Int)]) (by simp) (by intro n hn;simp at hn;omega) (by simp)]
  generalize hL:qE (zJ zi O false wE.jT) _ _=r at hr
  obtain ⟨e,T',S',rfl,g⟩:=wE.round hk h3 hA l [] hL rfl (by rw [show flat []=[] from rfl,show encs []=[] from rfl,List.append_nil];rfl) rfl rfl rfl rfl (fun t h=>by cases h)
  by_cases ha:l.all qF=true
  ·
   rw [if_pos ha] at g
   obtain ⟨rfl,g2,g3⟩:=g
   have hTe':=wE.eta g2
   rw [g3] at hTe'
   conv at hr =>
    rhs
    rw [hTe']
    simp only [wE.code,wE.rs,zSs,reduceIte,zk,zn,zo,zq]
   rw [hTe] at hr
   rw [if_pos (by rw [hu,ha];rfl),ZA]
   exact wE.runs hr (.inr rfl) (by simp only [List.getD_cons_succ,List.getD_cons_zero,wJ,wC,jS,jY,wB]) rfl (all1 cl) (yV (all2 (qH (k:=2) (Nat.le_refl 2)) rfl))
  ·
   rw [if_neg ha] at g
   obtain ⟨rfl,g2,g3⟩:=g
   conv at hr =>
    rhs
    simp only [zSs,reduceIte,zk,zn,zo,zq]
   rw [hTe] at hr
   rw [if_neg (by rw [hu,Bool.true_and];exact ha)]
   have hrun:=wE.runs (S:=S) hr (.inr rfl) (by rw [g2];rfl) (by rw [g3];rfl) (all1 cl) (by rw [g2,g3];rfl)
   rw [g2,g3] at hrun
   exact hrun
 ·
  rw [Bool.not_eq_true] at hu
  conv at hr =>
   rhs
   rw [hTe]
   simp only [wE.code,wE.rs,zSs,reduceIte,zk,zn,zo,zq,if_neg k2,c1,hu]
  rw [hTe] at hr
  rw [if_neg (by rw [hu];simp)]
  exact wE.runs hr (.inr rfl) rfl rfl (all1 cl) rfl
def good (l:List TxV):Prop:=(l.map TxV.id).Nodup∧∀ t ∈ l,qF t=true
theorem xY {l:List TxV}:ZN l=true ↔ good l∧l.length≤3:=by
 unfold ZN unl good
 simp [and_assoc,and_comm,and_left_comm]
theorem zC.inner {k:Nat} {l:List TxV} (hk:Okl k l) (hl:l.length≤3) {t:TxV} {q:Nat} :
  ∀ (suf pre:List TxV) {T:List Value} {S:zy} {r:St},qE (zJ zi O false zC.jT) T S=r→T.length=51→T.getD 6 zh=.pointer (some ⟨q,0,none⟩)→T.getD 27 zh=tl k l→T.getD 28 zh=.int .i64 l.length→T.getD 29 zh=.int .i64 pre.length→l=pre++suf →
  S.get q=some (.cells (fT t) (.own []) 0)→q < S.next →
  ∃ e T' S',r=some (e,T',S')∧Ext S S'∧if t.id ∈ suf.map TxV.id then e=.ret∧T'.getD 2 zh=.slice none 0 0∧T'.getD 3 zh=.int .i64 61 else e=.exit 2∧T'.length=51 ∧
   T'.getD 0 zh=T.getD 0 zh∧T'.getD 4 zh=T.getD 4 zh∧T'.getD 6 zh=T.getD 6 zh∧T'.getD 15 zh=T.getD 15 zh∧T'.getD 16 zh=T.getD 16 zh∧T'.getD 17 zh=T.getD 17 zh:=by
 intro suf
 induction suf with
 | nil =>
  intro pre T S r hL hT h6 h27 h28 h29 hpre hg hq
  have hTe:=zC.eta hT
  rw [h27,h28,h29] at hTe
  have hr:zJ zi O false zC.jT T S=zJ zi O false zC.jT T S:=rfl
  have d1:¬ (pre.length:Int) < (l.length:Int):=by rw [hpre];simp
  conv at hr =>
   rhs
   rw [hTe]
   simp only [zC.jT,zC.code,zC.rs,zSs,reduceIte,zk,zn,zo,zq,d1]
  refine ⟨_,_,_,hL.symm.trans (wu hr (by simp)),Ext.refl _,?_⟩
  rw [if_neg (by simp)]
  exact ⟨rfl,rfl,rfl,rfl,rfl,rfl,rfl,rfl⟩
 | cons u suf ih =>
  intro pre T S r hL hT h6 h27 h28 h29 hpre hg hq
  have hTe:=zC.eta hT
  rw [h6,h27,h28,h29] at hTe
  have hr:zJ zi O false zC.jT T S=zJ zi O false zC.jT T S:=rfl
  have d1:(pre.length:Int) < (l.length:Int):=by rw [hpre];simp;omega
  have e1:=fun S=>Qz (S:=S) hk hpre
  have wi:IntKind.i64.wrap ((pre.length:Int)+1)=((pre++[u]).length:Int):=by rw [wrap_i64 (by omega) (by omega)];simp
  obtain ⟨S2,p1,p2,p3,p4⟩:=XO S u
  have g2:S2.get q=some (.cells (fT t) (.own []) 0):=(p3.get q hq).trans hg
  by_cases ht:u.id=t.id
  ·
   conv at hr =>
    rhs
    rw [hTe]
    simp only [zC.jT,zC.code,zC.rs,zSs,reduceIte,zk,zn,zo,zq,d1,e1,xH,JO,p1,xw,Xg p2,Xg g2,decide_eq_true ht]
   refine ⟨_,_,_,hL.symm.trans (wu hr (by simp)),p3,?_⟩
   rw [if_pos (by simp [ht])]
   exact ⟨rfl,rfl,rfl⟩
  ·
   conv at hr =>
    rhs
    rw [hTe]
    simp only [zC.jT,zC.code,zC.rs,zSs,reduceIte,zk,zn,zo,zq,d1,e1,xH,JO,p1,xw,Xg p2,Xg g2,decide_eq_false ht,wi]
   obtain ⟨e,T',S',i1,i2,i3⟩:=ih (pre++[u]) ((wZ hr).symm.trans hL) rfl rfl rfl rfl rfl (by simp [hpre]) g2 (by omega)
   refine ⟨e,T',S',i1,p3.trans i2,?_⟩
   have hm:t.id ∈ (u::suf).map TxV.id ↔ t.id ∈ suf.map TxV.id:=by
    simp only [List.map_cons,List.mem_cons]
    exact ⟨fun h=>h.resolve_left (fun e=>ht e.symm),.inr⟩
   by_cases hc:t.id ∈ suf.map TxV.id
   ·
    rw [if_pos hc] at i3
    rw [if_pos (hm.mpr hc)]
    exact i3
   ·
    rw [if_neg hc] at i3
    rw [if_neg (fun h=>hc (hm.mp h))]
    obtain ⟨j1,j2,j3,j4,j5,j6,j7,j8⟩:=i3
    exact ⟨j1,j2,j3,j4,j5.trans h6.symm,j6,j7,j8⟩
theorem zC.round {k:Nat} {l:List TxV} (hk:Okl k l) (k2:k≠2) (hl:l.length≤3) {n:Int}:∀ (suf pre:List TxV) {T:List Value} {S:zy} {r:St},qE (zJ zi O false zC.kZ) T S=r→T.length=51 →
  T.getD 0 zh=tl k l→T.getD 4 zh=iz 2 (n::flat pre)→T.getD 15 zh=tl k l→T.getD 16 zh=.int .i64 l.length→T.getD 17 zh=.int .i64 pre.length→l=pre++suf→good pre →
  ∃ e T' S',r=some (e,T',S')∧((good l∧e=.exit 0∧T'.length=51∧T'.getD 4 zh=iz 2 (n::flat l))∨(¬ good l∧e=.ret∧T'.getD 2 zh=.slice none 0 0∧T'.getD 3 zh=.int .i64 61)):=by
 intro suf
 induction suf with
 | nil =>
  intro pre T S r hL hT h0 h4 h15 h16 h17 hpre hp
  have hTe:=zC.eta hT
  rw [h0,h4,h15,h16,h17] at hTe
  have hr:zJ zi O false zC.kZ T S=zJ zi O false zC.kZ T S:=rfl
  have d1:¬ (pre.length:Int) < (l.length:Int):=by rw [hpre];simp
  conv at hr =>
   rhs
   rw [hTe]
   simp only [zC.kZ,zC.code,zC.rs,zSs,reduceIte,zk,zn,zo,zq,d1]
  refine ⟨_,_,_,hL.symm.trans (wu hr (by simp)),.inl ?_⟩
  rw [List.append_nil] at hpre
  rw [hpre]
  exact ⟨hp,rfl,rfl,rfl⟩
 | cons t suf ih =>
  intro pre T S r hL hT h0 h4 h15 h16 h17 hpre hp
  have hTe:=zC.eta hT
  rw [h0,h4,h15,h16,h17] at hTe
  have hr:zJ zi O false zC.kZ T S=zJ zi O false zC.kZ T S:=rfl
  have d1:(pre.length:Int) < (l.length:Int):=by rw [hpre];simp;omega
  have e1:=fun S=>Qz (S:=S) hk hpre
  have wi:IntKind.i64.wrap ((pre.length:Int)+1)=((pre++[t]).length:Int):=by rw [wrap_i64 (by omega) (by omega)];simp
  obtain ⟨S2,p1,p2,p3,p4⟩:=XO S t
  have c1:∀ S,zZ zi O 48 [.agg [Value.int .i64 t.id,.int .i64 t.fee].toArray] S=some (.bool (qF t),S):=fun S=>jE.v t S
  by_cases ht:qF t=true
  ·
   have sl:∀ S,Jj zi 44 (tl k l) none (some (.int .i64 pre.length)) S=some (tl k pre,S):=fun S=>by
    rw [ahS hk rfl rfl (by omega) (by omega) (by omega),if_neg k2,hpre]
    simp
   have hkp:Okl k pre:=⟨hk.le,fun h=>by have:=hk.nil h;rw [hpre] at this;simp at this⟩
   conv at hr =>
    rhs
    rw [hTe]
    simp only [zC.kZ,zC.code,zC.rs,zSs,reduceIte,zk,zn,zo,zq,d1,e1,xH,JO,p1,Wp p2,c1,ht,if_neg k2,sl,Jr hkp]
   generalize hL2:qE (zJ zi O false zC.jT) _ _=r2 at hr
   obtain ⟨e,T',S',rfl,g1,g⟩:=zC.inner (t:=t) hkp (by rw [hpre] at hl;simp at hl;omega) pre [] hL2 rfl rfl rfl rfl rfl rfl p2 p4
   by_cases hin:t.id ∈ pre.map TxV.id
   ·
    rw [if_pos hin] at g
    obtain ⟨rfl,g2,g3⟩:=g
    conv at hr =>
     rhs
     simp only [zSs,reduceIte,zk,zn,zo,zq]
    refine ⟨_,_,_,hL.symm.trans (wu hr (by simp)),.inr ⟨?_,rfl,g2,g3⟩⟩
    intro hgd
    have:=hgd.1
    rw [hpre] at this
    simp only [List.map_append,List.map_cons,List.nodup_append] at this
    exact this.2.2 _ hin _ (by simp) rfl
   ·
    rw [if_neg hin] at g
    obtain ⟨rfl,g2,f0,f4,f6,f15,f16,f17⟩:=g
    have hTe':=zC.eta g2
    rw [f0,f4,f6,f15,f16,f17] at hTe'
    simp only [List.getD_cons_succ,List.getD_cons_zero] at hTe'
    have g3:S'.get S.next=some (.cells (fT t) (.own []) 0):=(g1.get _ p4).trans p2
    have ap:∀ S,wR zi 24 24 (iz 2 (n::flat pre)) (iz 2 [t.id,t.fee]) S=some (iz 2 (n::flat (pre++[t])),S):=fun S=>by
     rw [YE Okl.own (by decide) Okl.own (by simp [JR];omega),Yn];rfl
    conv at hr =>
     rhs
     rw [hTe']
     simp only [zC.code,zC.rs,zSs,reduceIte,zk,zn,zo,zq,xw,Ji,Xg g3,akn g3,Qs,acD,ap,wi]
    refine ih (pre++[t]) ((wZ hr).symm.trans hL) rfl rfl rfl rfl rfl rfl (by simp [hpre]) ?_
    refine ⟨?_,fun x hx=>by rcases List.mem_append.1 hx with h | h;{ exact hp.2 x h };{ simp at h;rw [h];exact ht }⟩
    simp only [List.map_append,List.map_cons,List.map_nil,List.nodup_append]
    exact ⟨hp.1,by simp,fun a ha b hb=>by simp at hb;subst hb;exact fun h=>hin (h ▸ ha)⟩
  ·
   have ht':=ht
   rw [Bool.not_eq_true] at ht'
   conv at hr =>
    rhs
    rw [hTe]
    simp only [zC.kZ,zC.code,zC.rs,zSs,reduceIte,zk,zn,zo,zq,d1,e1,xH,JO,p1,Wp p2,c1,ht']
   refine ⟨_,_,_,hL.symm.trans (wu hr (by simp)),.inr ⟨?_,rfl,rfl,rfl⟩⟩
   intro hgd
   exact ht (hgd.2 t (by rw [hpre];simp))
theorem zC.v {k:Nat} {l:List TxV} (hk:Okl k l) (k2:k≠2) (hl:l.length≤8796093022208) (S:zy):zZ zi O zC.id [tl k l] S=some (aii l,S):=by
 obtain ⟨T,hTe⟩:∃ T,T=(tl k l::zh::zh::zh::zh::zh::zh::zh::zh::zh::zh::zh::zh::zh::zh::zh::zh::zh::zh::zh::zh::zh::zh::zh::zh::zh::zh::zh::zh::zh::zh::zh::zh::zh::zh::zh::zh::zh::zh::zh::zh::zh::zh::zh::zh::zh::zh::zh::zh::zh::zh::[]):=⟨_,rfl⟩
 have hr:zJ zi O false zC.code T zy.empty=zJ zi O false zC.code T zy.empty:=rfl
 have cl:jW 16 (tl k l)=true:=Jo hk.le fun _ _=>rfl
 unfold aii
 by_cases h3:l.length≤3
 ·
  have d3:¬ (3:Int) < (l.length:Int):=by omega
  conv at hr =>
   rhs
   rw [hTe]
   simp only [zC.code,zC.rs,zSs,reduceIte,zk,zn,zo,zq,if_neg k2,Jr hk,d3,WO,ahT]
  generalize hL:qE (zJ zi O false zC.kZ) _ _=r at hr
  obtain ⟨e,T',S',rfl,⟨g0,rfl,g2,g3⟩ | ⟨g0,rfl,g2,g3⟩⟩:=zC.round hk k2 h3 l [] hL rfl rfl rfl rfl rfl rfl rfl ⟨List.nodup_nil,fun t h=>by cases h⟩
  ·
   have hTe':=zC.eta g2
   rw [g3] at hTe'
   have few:=VN g0.2
   have c2:=fun S=>zK.v (l:=(l.length:Int)::flat l) Okl.read (by decide) (by intro n hn;rcases List.mem_cons.1 hn with rfl | hn;{ omega };{ have:=few n hn;omega }) S
   have n2:=JW (k:=2) (l:=(l.length:Int)::flat l) (by simp [JR];omega) (by intro n hn;rcases List.mem_cons.1 hn with rfl | hn;{ omega };{ have:=few n hn;omega }) (by simp)
   conv at hr =>
    rhs
    rw [hTe']
    simp only [zC.code,zC.rs,zSs,reduceIte,zk,zn,zo,zq,c2,n2]
   rw [hTe] at hr
   rw [if_pos (xY.mpr ⟨g0,h3⟩)]
   exact zC.runs hr (.inr rfl) (by simp only [List.getD_cons_succ,List.getD_cons_zero,wJ,wC,jS,jY,wB]) rfl (all1 cl) (yV (all2 (qH (k:=2) (Nat.le_refl 2)) rfl))
  ·
   conv at hr =>
    rhs
    simp only [zSs,reduceIte,zk,zn,zo,zq]
   rw [hTe] at hr
   rw [if_neg (fun h=>g0 (xY.mp h).1)]
   have hrun:=zC.runs (S:=S) hr (.inr rfl) (by rw [g2];rfl) (by rw [g3];rfl) (all1 cl) (by rw [g2,g3];rfl)
   rw [g2,g3] at hrun
   exact hrun
 ·
  have d3:(3:Int) < (l.length:Int):=by omega
  conv at hr =>
   rhs
   rw [hTe]
   simp only [zC.code,zC.rs,zSs,reduceIte,zk,zn,zo,zq,if_neg k2,Jr hk,d3]
  rw [hTe] at hr
  rw [if_neg (fun h=>h3 (xY.mp h).2)]
  exact zC.runs hr (.inr rfl) rfl rfl (all1 cl) rfl
end Go.Proofs.Ytfjogganfjkckaa
namespace Go.Abs
variable {P:Program} {t:TypeId} {xs ys:Array Value} {d:Nat}
theorem Qr (P:Program):ku P program=some P:=rfl
def FEq (P:Program) (d:Nat) (xs ys:Array Value):List Field→List Bool→Prop
 | [],[]=>True
 | f::fs,b::bs=>(f.name≠ "_"∧∃ v w,ku P (part f.type xs f.offset)=some v∧ku P (part f.type ys f.offset)=some w∧ku P (Op.equalIn d f.type v w)=some b)∧FEq P d xs ys fs bs
 | _,_=>False
theorem afR {fs:List Field} (hu:P.underlying t=some (.struct fs.toArray)) (hs:P.stoodInHeld t=false) {bs:List Bool} (h:FEq P d xs ys fs bs):ku P (Op.equalIn (d+1) t (.agg xs) (.agg ys))=some (bs.all id):=by
 rw [Op.equalIn]
 simp only [qX,Zp hu,Option.bind_some,Qr,hs,Bool.false_eq_true,if_false,List.forIn_toArray]
 clear hu hs
 induction fs generalizing bs with
 | nil =>
  cases bs with
  | nil=>rfl
  | cons b bs=>exact absurd h id
 | cons f fs ih =>
  cases bs with
  | nil=>exact absurd h id
  | cons b bs =>
   obtain ⟨⟨h1,v,w,h2,h3,h4⟩,h5⟩:=h
   rw [List.forIn_cons]
   simp only [qX,if_pos h1,h2,h3,h4,Option.bind_some]
   cases b with
   | true =>
    simp only [Bool.not_true,Bool.false_eq_true,if_false,yE,Option.bind_some,List.all_cons,id,Bool.true_and]
    exact ih h5
   | false =>
    simp only [Bool.not_false,if_true,yE,Option.bind_some,List.all_cons,id,Bool.false_and]
theorem adN {fs:List Field} {S:zy} (hu:P.underlying t=some (.struct fs.toArray)) (hs:P.stoodInHeld t=false) (hg:P.eqGuardType P.depth t=false) {bs:List Bool} (h:FEq P 9999 xs ys fs bs)
  (gx:ground (.agg xs)=true) (gy:ground (.agg ys)=true):wI P .eql t (.agg xs) (.agg ys) S=some (.bool (bs.all id),S)∧wI P .neq t (.agg xs) (.agg ys) S=some (.bool (!bs.all id),S):=by
 rw [adK,adK]
 have e:ku P (Op.equal t (.agg xs) (.agg ys))=some (bs.all id):=afR hu hs h
 have g:ku P (eqGuard .eql t (.tmp 0) (.tmp 0) (.agg xs) (.agg ys))=some ():=by
  unfold eqGuard
  simp only [Bool.not_true,Bool.false_eq_true,if_false,qX,Qr,Option.bind_some,hg,Bool.not_false,if_true]
  rfl
 have g':ku P (eqGuard .neq t (.tmp 0) (.tmp 0) (.agg xs) (.agg ys))=some ():=by
  unfold eqGuard
  simp only [Bool.not_true,Bool.false_eq_true,if_false,qX,Qr,Option.bind_some,hg,Bool.not_false,if_true]
  rfl
 have ha:[Value.agg xs,.agg ys].all ground=true:=by simp [gx,gy]
 constructor
 ·
  unfold JZ vM
  simp only [hu]
  show qP P [Value.agg xs,.agg ys] _ S=_
  refine yJ ha ?_ rfl
  simp only [qX,g,Option.bind_some]
  unfold binOp
  simp only [qX,e,Option.bind_some,yE]
 ·
  unfold JZ vM
  simp only [hu]
  show qP P [Value.agg xs,.agg ys] _ S=_
  refine yJ ha ?_ rfl
  simp only [qX,g',Option.bind_some]
  unfold binOp
  simp only [qX,e,Option.bind_some,yE]
end Go.Abs
namespace Go.Proofs.Ytfjogganfjkckaa
open Go.Abs
theorem TxV.ext_iff' {t u:TxV}:t=u ↔ t.id=u.id∧t.fee=u.fee:=by cases t;cases u;simp
theorem ahm (t u:TxV) (S:zy):wI zi .eql 43 (tv t) (tv u) S=some (.bool (decide (t=u)),S)∧wI zi .neq 43 (tv t) (tv u) S=some (.bool (!decide (t=u)),S):=by
 have h:=adN (S:=S) (xs:=#[Value.int .i64 t.id,.int .i64 t.fee]) (ys:=#[Value.int .i64 u.id,.int .i64 u.fee]) (bs:=[t.id == u.id,t.fee == u.fee]) ahM (by kernel_rfl) (by kernel_rfl)
  ⟨⟨by decide,.int .i64 t.id,.int .i64 u.id,by kernel_rfl,by kernel_rfl,by kernel_rfl⟩,⟨by decide,.int .i64 t.fee,.int .i64 u.fee,by kernel_rfl,by kernel_rfl,by kernel_rfl⟩,trivial⟩ rfl rfl
 have e:[t.id == u.id,t.fee == u.fee].all id=decide (t=u):=by
  rw [Bool.eq_iff_iff]
  simp [TxV.ext_iff']
 rw [e] at h
 exact h
theorem zL.round {k j:Nat} {a b:List TxV} (hk:Okl k a) (hj:Okl j b) (k2:k≠2) (j2:j≠2) (hab:a.length=b.length) (hlen:a.length≤17592186044416) {S:zy}:∀ (sa sb pa pb:List TxV) {T:List Value} {r:St},qE (zJ zi O false zL.jT) T S=r→T.length=26 →
  T.getD 0 zh=tl k a→T.getD 1 zh=tl j b→T.getD 12 zh=.int .i64 a.length→T.getD 13 zh=.int .i64 pa.length→a=pa++sa→b=pb++sb→pa.length=pb.length→pa=pb →
  ∃ e T',r=some (e,T',S)∧if a=b then e=.exit 0∧T'.length=26 else e=.ret∧T'.getD 4 zh=.bool false:=by
 intro sa
 induction sa with
 | nil =>
  intro sb pa pb T r hL hT h0 h1 h12 h13 ha hb hp hpp
  have hTe:=zL.eta hT
  rw [h0,h1,h12,h13] at hTe
  have hr:zJ zi O false zL.jT T S=zJ zi O false zL.jT T S:=rfl
  have hd:¬ (pa.length:Int) < (a.length:Int):=by rw [ha];simp
  conv at hr =>
   rhs
   rw [hTe]
   simp only [zL.jT,zL.code,zL.rs,zSs,reduceIte,zk,zn,zo,zq,hd]
  have hsb:sb=[]:=by rw [ha,hb] at hab;simp [hp] at hab;exact hab
  refine ⟨_,_,hL.symm.trans (wu hr (by simp)),?_⟩
  rw [if_pos (by rw [ha,hb,hsb,hpp])]
  exact ⟨rfl,rfl⟩
 | cons x sa ih =>
  intro sb pa pb T r hL hT h0 h1 h12 h13 ha hb hp hpp
  have hTe:=zL.eta hT
  rw [h0,h1,h12,h13] at hTe
  have hr:zJ zi O false zL.jT T S=zJ zi O false zL.jT T S:=rfl
  have hd:(pa.length:Int) < (a.length:Int):=by rw [ha];simp;omega
  cases sb with
  | nil=>rw [ha,hb] at hab;simp [hp] at hab
  | cons y sb =>
   have e1:=fun S=>Qz (S:=S) hk ha
   have e2:∀ S,jy zi 44 (tl j b) (.int .i64 pa.length) S=some (EP [.int .i64 y.id,.int .i64 y.fee],S):=fun S=>by rw [hp];exact Qz hj hb
   have wi:IntKind.i64.wrap ((pa.length:Int)+1)=((pa++[x]).length:Int):=by rw [wrap_i64 (by omega) (by omega)];simp
   have q:∀ S,wI zi .neq 43 (.agg [Value.int .i64 x.id,.int .i64 x.fee].toArray) (.agg [Value.int .i64 y.id,.int .i64 y.fee].toArray) S=some (.bool (!decide (x=y)),S):=fun S=>(ahm x y S).2
   by_cases hxy:x=y
   ·
    conv at hr =>
     rhs
     rw [hTe]
     simp only [zL.jT,zL.code,zL.rs,zSs,reduceIte,zk,zn,zo,zq,hd,if_neg k2,if_neg j2,e1,e2,xH,q,decide_eq_true hxy,wi]
    subst hxy
    exact ih sb (pa++[x]) (pb++[x]) ((wZ hr).symm.trans hL) rfl rfl rfl rfl rfl (by simp [ha]) (by simp [hb]) (by simp [hp]) (by rw [hpp])
   ·
    conv at hr =>
     rhs
     rw [hTe]
     simp only [zL.jT,zL.code,zL.rs,zSs,reduceIte,zk,zn,zo,zq,hd,if_neg k2,if_neg j2,e1,e2,xH,q,decide_eq_false hxy]
    refine ⟨_,_,hL.symm.trans (wu hr (by simp)),?_⟩
    rw [if_neg (by rw [ha,hb,hpp];simp [hxy])]
    exact ⟨rfl,rfl⟩
theorem zL.v {k j:Nat} {a b:List TxV} (hk:Okl k a) (hj:Okl j b) (k2:k≠2) (j2:j≠2) (hlen:a.length≤17592186044416) (S:zy):zZ zi O zL.id [tl k a,tl j b] S=some (.bool (decide (a=b)),S):=by
 obtain ⟨T,hTe⟩:∃ T,T=(tl k a::tl j b::zh::zh::zh::zh::zh::zh::zh::zh::zh::zh::zh::zh::zh::zh::zh::zh::zh::zh::zh::zh::zh::zh::zh::zh::[]):=⟨_,rfl⟩
 have hr:zJ zi O false zL.code T S=zJ zi O false zL.code T S:=rfl
 by_cases hab:a.length=b.length
 ·
  have d1:¬ (a.length:Int)≠(b.length:Int):=by omega
  conv at hr =>
   rhs
   rw [hTe]
   simp only [zL.code,zL.rs,zSs,reduceIte,zk,zn,zo,zq,if_neg k2,if_neg j2,Jr hk,Jr hj,hab]
  rw [← hab] at hr
  generalize hL:qE (zJ zi O false zL.jT) _ _=r at hr
  obtain ⟨e,T',rfl,g⟩:=zL.round hk hj k2 j2 hab hlen a b [] [] hL rfl rfl rfl rfl rfl rfl rfl rfl rfl
  by_cases h:a=b
  ·
   rw [if_pos h] at g
   obtain ⟨rfl,g2⟩:=g
   have hTe':=zL.eta g2
   conv at hr =>
    rhs
    rw [hTe']
    simp only [zL.code,zL.rs,zSs,reduceIte,zk,zn,zo,zq]
   rw [hTe] at hr
   rw [decide_eq_true h]
   exact zL.runs hr (.inr rfl)
  ·
   rw [if_neg h] at g
   obtain ⟨rfl,g2⟩:=g
   conv at hr =>
    rhs
    simp only [zSs,reduceIte,zk,zn,zo,zq]
   rw [hTe] at hr
   have hrun:=zL.runs hr (.inr rfl)
   rw [g2] at hrun
   rw [decide_eq_false h]
   exact hrun
 ·
  have d1:¬ (a.length:Int)=(b.length:Int):=by omega
  conv at hr =>
   rhs
   rw [hTe]
   simp only [zL.code,zL.rs,zSs,reduceIte,zk,zn,zo,zq,if_neg k2,if_neg j2,Jr hk,Jr hj,d1]
  rw [hTe] at hr
  rw [decide_eq_false (fun h:a=b=>hab (by rw [h]))]
  exact zL.runs hr (.inr rfl)
theorem slices_Equal.round {k j:Nat} {a b:List TxV} (hk:Okl k a) (hj:Okl j b) (k2:k≠2) (j2:j≠2) (hab:a.length=b.length) (hlen:a.length≤17592186044416) {S:zy}:∀ (sa sb pa pb:List TxV) {T:List Value} {r:St},qE (zJ zi O false slices_Equal.jT) T S=r→T.length=26 →
  T.getD 0 zh=tl k a→T.getD 1 zh=tl j b→T.getD 12 zh=.int .i64 a.length→T.getD 13 zh=.int .i64 pa.length→a=pa++sa→b=pb++sb→pa.length=pb.length→pa=pb →
  ∃ e T',r=some (e,T',S)∧if a=b then e=.exit 0∧T'.length=26 else e=.ret∧T'.getD 4 zh=.bool false:=by
 intro sa
 induction sa with
 | nil =>
  intro sb pa pb T r hL hT h0 h1 h12 h13 ha hb hp hpp
  have hTe:=slices_Equal.eta hT
  rw [h0,h1,h12,h13] at hTe
  have hr:zJ zi O false slices_Equal.jT T S=zJ zi O false slices_Equal.jT T S:=rfl
  have hd:¬ (pa.length:Int) < (a.length:Int):=by rw [ha];simp
  conv at hr =>
   rhs
   rw [hTe]
   simp only [slices_Equal.jT,slices_Equal.code,slices_Equal.rs,zSs,reduceIte,zk,zn,zo,zq,hd]
  have hsb:sb=[]:=by rw [ha,hb] at hab;simp [hp] at hab;exact hab
  refine ⟨_,_,hL.symm.trans (wu hr (by simp)),?_⟩
  rw [if_pos (by rw [ha,hb,hsb,hpp])]
  exact ⟨rfl,rfl⟩
 | cons x sa ih =>
  intro sb pa pb T r hL hT h0 h1 h12 h13 ha hb hp hpp
  have hTe:=slices_Equal.eta hT
  rw [h0,h1,h12,h13] at hTe
  have hr:zJ zi O false slices_Equal.jT T S=zJ zi O false slices_Equal.jT T S:=rfl
  have hd:(pa.length:Int) < (a.length:Int):=by rw [ha];simp;omega
  cases sb with
  | nil=>rw [ha,hb] at hab;simp [hp] at hab
  | cons y sb =>
   have e1:=fun S=>Qz (S:=S) hk ha
   have e2:∀ S,jy zi 44 (tl j b) (.int .i64 pa.length) S=some (EP [.int .i64 y.id,.int .i64 y.fee],S):=fun S=>by rw [hp];exact Qz hj hb
   have wi:IntKind.i64.wrap ((pa.length:Int)+1)=((pa++[x]).length:Int):=by rw [wrap_i64 (by omega) (by omega)];simp
   have q:∀ S,wI zi .neq 43 (.agg [Value.int .i64 x.id,.int .i64 x.fee].toArray) (.agg [Value.int .i64 y.id,.int .i64 y.fee].toArray) S=some (.bool (!decide (x=y)),S):=fun S=>(ahm x y S).2
   by_cases hxy:x=y
   ·
    conv at hr =>
     rhs
     rw [hTe]
     simp only [slices_Equal.jT,slices_Equal.code,slices_Equal.rs,zSs,reduceIte,zk,zn,zo,zq,hd,if_neg k2,if_neg j2,e1,e2,xH,q,decide_eq_true hxy,wi]
    subst hxy
    exact ih sb (pa++[x]) (pb++[x]) ((wZ hr).symm.trans hL) rfl rfl rfl rfl rfl (by simp [ha]) (by simp [hb]) (by simp [hp]) (by rw [hpp])
   ·
    conv at hr =>
     rhs
     rw [hTe]
     simp only [slices_Equal.jT,slices_Equal.code,slices_Equal.rs,zSs,reduceIte,zk,zn,zo,zq,hd,if_neg k2,if_neg j2,e1,e2,xH,q,decide_eq_false hxy]
    refine ⟨_,_,hL.symm.trans (wu hr (by simp)),?_⟩
    rw [if_neg (by rw [ha,hb,hpp];simp [hxy])]
    exact ⟨rfl,rfl⟩
theorem slices_Equal.v {k j:Nat} {a b:List TxV} (hk:Okl k a) (hj:Okl j b) (k2:k≠2) (j2:j≠2) (hlen:a.length≤17592186044416) (S:zy):zZ zi O slices_Equal.id [tl k a,tl j b] S=some (.bool (decide (a=b)),S):=by
 obtain ⟨T,hTe⟩:∃ T,T=(tl k a::tl j b::zh::zh::zh::zh::zh::zh::zh::zh::zh::zh::zh::zh::zh::zh::zh::zh::zh::zh::zh::zh::zh::zh::zh::zh::[]):=⟨_,rfl⟩
 have hr:zJ zi O false slices_Equal.code T S=zJ zi O false slices_Equal.code T S:=rfl
 by_cases hab:a.length=b.length
 ·
  have d1:¬ (a.length:Int)≠(b.length:Int):=by omega
  conv at hr =>
   rhs
   rw [hTe]
   simp only [slices_Equal.code,slices_Equal.rs,zSs,reduceIte,zk,zn,zo,zq,if_neg k2,if_neg j2,Jr hk,Jr hj,hab]
  rw [← hab] at hr
  generalize hL:qE (zJ zi O false slices_Equal.jT) _ _=r at hr
  obtain ⟨e,T',rfl,g⟩:=slices_Equal.round hk hj k2 j2 hab hlen a b [] [] hL rfl rfl rfl rfl rfl rfl rfl rfl rfl
  by_cases h:a=b
  ·
   rw [if_pos h] at g
   obtain ⟨rfl,g2⟩:=g
   have hTe':=slices_Equal.eta g2
   conv at hr =>
    rhs
    rw [hTe']
    simp only [slices_Equal.code,slices_Equal.rs,zSs,reduceIte,zk,zn,zo,zq]
   rw [hTe] at hr
   rw [decide_eq_true h]
   exact slices_Equal.runs hr (.inr rfl)
  ·
   rw [if_neg h] at g
   obtain ⟨rfl,g2⟩:=g
   conv at hr =>
    rhs
    simp only [zSs,reduceIte,zk,zn,zo,zq]
   rw [hTe] at hr
   have hrun:=slices_Equal.runs hr (.inr rfl)
   rw [g2] at hrun
   rw [decide_eq_false h]
   exact hrun
 ·
  have d1:¬ (a.length:Int)=(b.length:Int):=by omega
  conv at hr =>
   rhs
   rw [hTe]
   simp only [slices_Equal.code,slices_Equal.rs,zSs,reduceIte,zk,zn,zo,zq,if_neg k2,if_neg j2,Jr hk,Jr hj,d1]
  rw [hTe] at hr
  rw [decide_eq_false (fun h:a=b=>hab (by rw [h]))]
  exact slices_Equal.runs hr (.inr rfl)
theorem VZ:∀ {a b:List TxV},flat a=flat b→a=b:=by
 intro a
 induction a with
 | nil=>intro b h;cases b with
  | nil=>rfl
  | cons u b=>simp [flat] at h
 | cons t a ih =>
  intro b h
  cases b with
  | nil=>simp [flat] at h
  | cons u b =>
   have h':[t.id,t.fee]++flat a=[u.id,u.fee]++flat b:=h
   simp at h'
   rw [ih h'.2.2,TxV.ext_iff'.mpr ⟨h'.1,h'.2.1⟩]
theorem afy {l:List TxV} (h:∀ t ∈ l,qF t=true):∀ n ∈ flat l,Few n:=fun n hn=>by have:=VN h n hn;unfold Few;omega
theorem afT {a b:List TxV} {r s:List UInt8} (la:a.length≤1000) (lb:b.length≤1000) (ha:∀ t ∈ a,qF t=true) (hb:∀ t ∈ b,qF t=true) (h:aaE a++r=aaE b++s):a=b∧r=s:=by
 rw [ZA,ZA,List.append_assoc,List.append_assoc] at h
 obtain ⟨h1,h2⟩:=WR (a:=[(a.length:Int)]) (c:=[(b.length:Int)]) rfl (by simp [Few];omega) (by simp [Few];omega) h
 simp at h1
 obtain ⟨h3,h4⟩:=WR (by rw [JR,JR];omega) (afy ha) (afy hb) h2
 exact ⟨VZ h3,h4⟩
theorem ady {a b:List TxV} {r s:List UInt8} (ha:ZN a=true) (hb:ZN b=true) (h:aaE a++r=aaE b++s):a=b∧r=s:=by
 obtain ⟨h1,h2⟩:=xY.mp ha
 obtain ⟨h3,h4⟩:=xY.mp hb
 exact afT (by omega) (by omega) h1.2 h3.2 h
noncomputable def Zt (l:List UInt8):Option (List TxV):=rd (fun t=>ZN t=true) aaE l
theorem vg (l:List UInt8) (t:List TxV):Zt l=some t ↔ ZN t=true∧l=aaE t :=
 agK (fun x y hx hy h=>(ady (r:=[]) (s:=[]) hx hy (by simpa using h)).1) l t
theorem aek {l:List UInt8} (h:∀ t,¬ (ZN t=true∧l=aaE t)):Zt l=none:=by
 cases hr:Zt l with
 | none=>rfl
 | some t=>exact absurd ((vg l t).mp hr) (h t)
noncomputable def XY (k:Nat) (l:List UInt8):Value:=match Zt l with
 | some t=>.tuple #[tl (if t=[] then k else 2) t,.int .i64 0]
 | none=>.tuple #[.slice none 0 0,.int .i64 61]
def Yk:Nat→List UInt8→Option (List TxV×List UInt8)
 | 0,l=>some ([],l)
 | m+1,l=>match qp 2 l with
  | some ([a,b],r)=>if qF ⟨a,b⟩ then (match Yk m r with
   | some (x,y)=>some (⟨a,b⟩::x,y)
   | none=>none) else none
  | _=>none
theorem Vq:∀ (m:Nat) (l:List UInt8) (a:List TxV) (b:List UInt8),Yk m l=some (a,b) ↔ a.length=m∧(∀ t ∈ a,qF t=true)∧l=encs (flat a)++b:=by
 intro m
 induction m with
 | zero =>
  intro l a b
  constructor
  ·
   intro h;cases h;exact ⟨rfl,(fun t h=>by cases h),rfl⟩
  ·
   rintro ⟨h1,h2,h3⟩
   have:a=[]:=List.length_eq_zero_iff.mp h1
   subst this
   rw [h3];rfl
 | succ m ih =>
  intro l a b
  rw [Yk]
  constructor
  ·
   intro h
   rcases KJ l with hn | ⟨x,y,r,hn,hlr⟩
   ·
    rw [hn] at h;cases h
   ·
    rw [hn] at h
    dsimp only at h
    split at h
    ·
     rename_i hok
     cases hr:Yk m r with
     | none=>rw [hr] at h;cases h
     | some ab =>
      obtain ⟨a',b'⟩:=ab
      rw [hr] at h
      obtain ⟨h1,h2,h3⟩:=(ih r a' b').mp hr
      cases h
      obtain ⟨f1,f2,f3⟩:=(y7 _ _ _ _).mp hn
      refine ⟨by simp [h1],fun t ht=>?_,?_⟩
      ·
       rcases List.mem_cons.1 ht with rfl | ht
       ·
        exact hok
       ·
        exact h2 t ht
      ·
       rw [f2,h3,show flat (⟨x,y⟩::a')=[x,y]++flat a' from rfl,ZE,List.append_assoc]
    ·
     cases h
  ·
   rintro ⟨h1,h2,h3⟩
   cases a with
   | nil=>simp at h1
   | cons t a =>
    have ht:=h2 t (by simp)
    obtain ⟨b1,b2,b3,b4⟩:=xJ.mp ht
    have hn:=(y7 2 l [t.id,t.fee] (encs (flat a)++b)).mpr ⟨rfl,by rw [h3,show flat (t::a)=[t.id,t.fee]++flat a from rfl,ZE,List.append_assoc],by simp [Few];omega⟩
    rw [hn]
    dsimp only
    rw [if_pos ht,(ih (encs (flat a)++b) a b).mpr ⟨by simpa using h1,fun u hu=>h2 u (by simp [hu]),rfl⟩]
theorem ajk (l:List UInt8):qp 1 l=none∨∃ a r,qp 1 l=some ([a],r)∧r.length≤l.length:=by
 cases h:qp 1 l with
 | none=>exact .inl rfl
 | some ar =>
  obtain ⟨a,r⟩:=ar
  obtain ⟨h1,h2⟩:=WT h
  match a,h1 with
  | [x],_=>exact .inr ⟨x,r,rfl,h2⟩
theorem WJ {l r:List UInt8} {n:Int} (h:qp 1 l=some ([n],r)) (t:List TxV):Zt l=some t ↔ 0≤n∧n≤3∧Yk n.toNat r=some (t,[])∧unl t=true:=by
 obtain ⟨_,h2,h3⟩:=(y7 _ _ _ _).mp h
 rw [vg,Vq]
 constructor
 ·
  rintro ⟨g1,g2⟩
  obtain ⟨h5,h6⟩:=xY.mp g1
  rw [ZA,h2] at g2
  obtain ⟨h7,h8⟩:=WR (a:=[n]) (c:=[(t.length:Int)]) rfl h3 (by simp [Few];omega) g2
  simp at h7
  refine ⟨by omega,by omega,⟨by omega,h5.2,by simpa using h8⟩,?_⟩
  unfold ZN at g1
  simp at g1
  exact g1.1
 ·
  rintro ⟨g1,g2,⟨g3,g4,g5⟩,g6⟩
  refine ⟨?_,?_⟩
  ·
   unfold ZN
   rw [g6,Bool.true_and,List.all_eq_true]
   exact g4
  ·
   have:n=(t.length:Int):=by omega
   rw [h2,g5,List.append_nil,ZA,this]
theorem aaN {l:List UInt8} (h:qp 1 l=none):Zt l=none:=by
 refine aek fun t ht=>?_
 obtain ⟨h5,h6⟩:=xY.mp ht.1
 have:=(y7 1 l [(t.length:Int)] (encs (flat t))).mpr ⟨rfl,by rw [ht.2,ZA],by simp [Few];omega⟩
 rw [h] at this
 cases this
end Go.Proofs.Ytfjogganfjkckaa
namespace Go.Proofs.Ytfjogganfjkckaa
open Go.Abs
theorem afU (t:TxV) (S:zy):jK zi 44 1 [(0,tv t)] S=some (tl 2 [t],S):=by kernel_rfl
theorem alA (k:Nat) (hk:k≤2) (a:Int) (h:k≠0) (S:zy):jy zi 24 (iz k [a]) (.int .i64 0) S=some (EP [.int .i64 a],S):=acP ⟨hk,fun h0=>absurd h0 h⟩ (by decide) (by simp)
theorem agX {k:Nat} (hk:k≤2) (l:List TxV):Okl (if l=[] then k else 2) l:=⟨by split <;> omega,fun h=>by split at h <;> first | assumption | omega⟩
theorem zW.round {n:Int} (hn:n≤3):∀ (m:Nat) (i:Int) (rest:List UInt8) (out:List TxV) {T:List Value} {S:zy} {r:St},qE (zJ zi O false zW.jT) T S=r→T.length=59 →
  T.getD 5 zh=by_ 2 rest→T.getD 7 zh=tl (if out=[] then 0 else 2) out→T.getD 33 zh=.int .i64 n→T.getD 34 zh=.int .i64 i→0≤i→n=i+m→out.length≤3 - m→rest.length≤140737488355328 →
  ∃ e T' S',r=some (e,T',S')∧match Yk m rest with
   | some (ts,r')=>e=.exit 0∧T'.length=59∧T'.getD 5 zh=by_ 2 r'∧T'.getD 7 zh=tl (if out++ts=[] then 0 else 2) (out++ts)
   | none=>e=.ret∧T'.getD 2 zh=.slice none 0 0∧T'.getD 3 zh=.int .i64 61:=by
 intro m
 induction m with
 | zero =>
  intro i rest out T S r hL hT h5 h7 h33 h34 hi hm ho hl
  have hTe:=zW.eta hT
  rw [h5,h7,h33,h34] at hTe
  have hr:zJ zi O false zW.jT T S=zJ zi O false zW.jT T S:=rfl
  have d1:¬ i < n:=by omega
  conv at hr =>
   rhs
   rw [hTe]
   simp only [zW.jT,zW.code,zW.rs,zSs,reduceIte,zk,zn,zo,zq,d1]
  refine ⟨_,_,_,hL.symm.trans (wu hr (by simp)),?_⟩
  rw [Yk]
  exact ⟨rfl,rfl,rfl,by rw [List.append_nil];rfl⟩
 | succ m ih =>
  intro i rest out T S r hL hT h5 h7 h33 h34 hi hm ho hl
  have hTe:=zW.eta hT
  rw [h5,h7,h33,h34] at hTe
  have hr:zJ zi O false zW.jT T S=zJ zi O false zW.jT T S:=rfl
  have d1:i < n:=by omega
  have c1:=fun S=>yw.v (k:=1) (l:=rest) Okl.read (by decide) hl S
  unfold ah3 at c1
  rw [Yk]
  rcases KJ rest with h | ⟨a,b,q,h,hlr⟩
  ·
   rw [h] at c1
   rw [h]
   obtain ⟨S2,p1,p2,p3,p4⟩:=XO S ⟨0,0⟩
   conv at hr =>
    rhs
    rw [hTe]
    simp only [zW.jT,zW.code,zW.rs,zSs,reduceIte,zk,zn,zo,zq,d1,c1,JO,p1]
   exact ⟨_,_,_,hL.symm.trans (wu hr (by simp)),rfl,rfl,rfl⟩
  ·
   rw [h] at c1
   rw [h]
   obtain ⟨S2,p1,p2,p3,p4⟩:=XO S ⟨a,b⟩
   by_cases hok:qF ⟨a,b⟩=true
   ·
    have wi:IntKind.i64.wrap (i+1)=i+1:=wrap_i64 (by omega) (by omega)
    have ap:∀ S,wR zi 44 44 (tl (if out=[] then 0 else 2) out) (tl 2 [⟨a,b⟩]) S=some (tl 2 (out++[⟨a,b⟩]),S):=fun S=>agc ⟨by split <;> omega,fun h=>by split at h <;> first | assumption | omega⟩ (by split <;> omega) (by omega)
    have c2:∀ S,jK zi 44 1 [(0,.agg [Value.int .i64 a,.int .i64 b].toArray)] S=some (tl 2 [⟨a,b⟩],S):=fun S=>afU ⟨a,b⟩ S
    have c3:jh zi false 43 (.pointer (some ⟨S.next,0,none⟩)) S2=some (.agg [Value.int .i64 a,.int .i64 b].toArray,S2):=Wp p2
    conv at hr =>
     rhs
     rw [hTe]
     simp only [zW.jT,zW.code,zW.rs,zSs,reduceIte,zk,zn,zo,zq,d1,c1,JO,p1,hok,c3,c2,ap,wi]
    obtain ⟨e,T',S',j1,j2⟩:=ih (i+1) q (out++[⟨a,b⟩]) ((wZ hr).symm.trans hL) rfl rfl (by rw [show (if out++[TxV.mk a b]=[] then 0 else 2)=2 from if_neg (by simp)];rfl) rfl rfl (by omega) (by omega) (by simp;omega) (by omega)
    refine ⟨e,T',S',j1,?_⟩
    dsimp only
    rw [if_pos hok]
    cases hq:Yk m q with
    | none=>rw [hq] at j2;exact j2
    | some tr =>
     obtain ⟨ts,r'⟩:=tr
     rw [hq] at j2
     dsimp only at j2 ⊢
     rw [List.append_assoc] at j2
     exact j2
   ·
    dsimp only
    rw [if_neg hok]
    rw [Bool.not_eq_true] at hok
    conv at hr =>
     rhs
     rw [hTe]
     simp only [zW.jT,zW.code,zW.rs,zSs,reduceIte,zk,zn,zo,zq,d1,c1,JO,p1,hok]
    exact ⟨_,_,_,hL.symm.trans (wu hr (by simp)),rfl,rfl,rfl⟩
theorem zW.v {k:Nat} {l:List UInt8} (hk:Okl k l) (k2:k≠2) (hl:l.length≤140737488355328) (S:zy):zZ zi O zW.id [by_ k l] S=some (XY 0 l,S):=by
 obtain ⟨T,hTe⟩:∃ T,T=(by_ k l::zh::zh::zh::zh::zh::zh::zh::zh::zh::zh::zh::zh::zh::zh::zh::zh::zh::zh::zh::zh::zh::zh::zh::zh::zh::zh::zh::zh::zh::zh::zh::zh::zh::zh::zh::zh::zh::zh::zh::zh::zh::zh::zh::zh::zh::zh::zh::zh::zh::zh::zh::zh::zh::zh::zh::zh::zh::zh::[]):=⟨_,rfl⟩
 have hr:zJ zi O false zW.code T zy.empty=zJ zi O false zW.code T zy.empty:=rfl
 have c1:=fun S=>zS.v (many:=1) hk k2 hl S
 have r1:Zi 0 (if k=0 then 0 else 2) 1 l=_:=xU (m:=1) (by decide) (by decide)
 rw [r1] at c1
 have cl:[by_ k l].all (jW 16)=true:=all1 (qH (k:=k) hk.le)
 unfold XY
 rcases ajk l with h | ⟨n,rest,h,hlr⟩
 ·
  rw [h] at c1
  rw [aaN h]
  conv at hr =>
   rhs
   rw [hTe]
   simp only [zW.code,zW.rs,zSs,reduceIte,zk,zn,zo,zq,if_neg k2,c1]
  rw [hTe] at hr
  exact zW.runs hr (.inr rfl) rfl rfl cl rfl
 ·
  rw [h] at c1
  have e0:=alA 1 (by decide) n (by decide)
  by_cases h0:n < 0
  ·
   have hno:Zt l=none:=by
    cases hx:Zt l with
    | none=>rfl
    | some t=>have:=(WJ h t).mp hx;omega
   rw [hno]
   conv at hr =>
    rhs
    rw [hTe]
    simp only [zW.code,zW.rs,zSs,reduceIte,zk,zn,zo,zq,if_neg k2,c1,e0,qy,h0]
   rw [hTe] at hr
   exact zW.runs hr (.inr rfl) rfl rfl cl rfl
  ·
   by_cases h3:3 < n
   ·
    have hno:Zt l=none:=by
     cases hx:Zt l with
     | none=>rfl
     | some t=>have:=(WJ h t).mp hx;omega
    rw [hno]
    conv at hr =>
     rhs
     rw [hTe]
     simp only [zW.code,zW.rs,zSs,reduceIte,zk,zn,zo,zq,if_neg k2,c1,e0,qy,h0,h3]
    rw [hTe] at hr
    exact zW.runs hr (.inr rfl) rfl rfl cl rfl
   ·
    conv at hr =>
     rhs
     rw [hTe]
     simp only [zW.code,zW.rs,zSs,reduceIte,zk,zn,zo,zq,if_neg k2,c1,e0,qy,h0,h3]
    generalize hL:qE (zJ zi O false zW.jT) _ _=r at hr
    obtain ⟨e,T',S',rfl,g⟩:=zW.round (n:=n) (by omega) n.toNat 0 rest [] hL rfl rfl rfl rfl rfl (by omega) (by omega) (by simp) (by omega)
    cases hts:Yk n.toNat rest with
    | none =>
     rw [hts] at g
     obtain ⟨rfl,g2,g3⟩:=g
     have hno:Zt l=none:=by
      cases hx:Zt l with
      | none=>rfl
      | some t=>have:=(WJ h t).mp hx;rw [hts] at this;simp at this
     rw [hno]
     conv at hr =>
      rhs
      simp only [zSs,reduceIte,zk,zn,zo,zq]
     rw [hTe] at hr
     have hrun:=zW.runs (S:=S) hr (.inr rfl) (by rw [g2];rfl) (by rw [g3];rfl) cl (by rw [g2,g3];rfl)
     rw [g2,g3] at hrun
     exact hrun
    | some tr =>
     obtain ⟨ts,r'⟩:=tr
     rw [hts] at g
     obtain ⟨rfl,g2,g3,g4⟩:=g
     rw [List.nil_append] at g4
     have hTe':=zW.eta g2
     rw [g3,g4] at hTe'
     by_cases hr0:r'=[]
     ·
      subst hr0
      have hts3:ts.length≤3:=by have:=(Vq _ _ _ _).mp hts;omega
      have c3:=fun S=>jO.v (agX (by decide) ts).dem (Ws (if ts=[] then 0 else 2)) (by omega) S
      by_cases hu:unl ts=true
      ·
       have hyes:Zt l=some ts:=(WJ h ts).mpr ⟨by omega,by omega,hts,hu⟩
       rw [hyes]
       conv at hr =>
        rhs
        rw [hTe']
        simp only [zW.code,zW.rs,zSs,reduceIte,zk,zn,zo,zq,ZP Okl.read,goInt,List.length_nil,Int.natCast_zero,Int.lt_irrefl,adz,c3,hu]
       rw [hTe] at hr
       exact zW.runs hr (.inr rfl) (by simp only [List.getD_cons_succ,List.getD_cons_zero,wJ,wC,jS,jY,wB]) rfl cl (yV (all2 (Jo (agX (by decide) ts).le fun _ _=>rfl) rfl))
      ·
       have hno:Zt l=none:=by
        cases hx:Zt l with
        | none=>rfl
        | some t=>have:=(WJ h t).mp hx;rw [hts] at this;simp at this;rw [this.2.2.1] at hu;exact absurd this.2.2.2 hu
       rw [hno]
       rw [Bool.not_eq_true] at hu
       conv at hr =>
        rhs
        rw [hTe']
        simp only [zW.code,zW.rs,zSs,reduceIte,zk,zn,zo,zq,ZP Okl.read,goInt,List.length_nil,Int.natCast_zero,Int.lt_irrefl,adz,c3,hu]
       rw [hTe] at hr
       exact zW.runs hr (.inr rfl) rfl rfl cl rfl
     ·
      have hp:(0:Int) < (r'.length:Int):=by have:=List.length_pos_iff.mpr hr0;omega
      have hno:Zt l=none:=by
       cases hx:Zt l with
       | none=>rfl
       | some t=>have:=(WJ h t).mp hx;rw [hts] at this;simp at this;exact absurd this.2.2.1.2 hr0
      rw [hno]
      conv at hr =>
       rhs
       rw [hTe']
       simp only [zW.code,zW.rs,zSs,reduceIte,zk,zn,zo,zq,ZP Okl.read,goInt,decide_eq_true hp]
      rw [hTe] at hr
      exact zW.runs hr (.inr rfl) rfl rfl cl rfl
end Go.Proofs.Ytfjogganfjkckaa
namespace Go.Proofs.Ytfjogganfjkckaa
open Go.Abs
theorem aju:∀ (m:Nat) (l:List Int),l.length=2 * m→∃ ts:List TxV,l=flat ts∧ts.length=m:=by
 intro m
 induction m with
 | zero=>intro l h;exact ⟨[],List.length_eq_zero_iff.mp (by omega),rfl⟩
 | succ m ih =>
  intro l h
  match l,h with
  | a::b::l,h =>
   obtain ⟨ts,h1,h2⟩:=ih l (by simp at h;omega)
   exact ⟨⟨a,b⟩::ts,by rw [h1];rfl,by simp [h2]⟩
theorem aja {n0:Int} {pre suf:List TxV} {t:TxV} {l:List Int} (hl:l=n0::flat (pre++t::suf)):l[1+2 * pre.length]?=some t.id∧l[2+2 * pre.length]?=some t.fee:=by
 have e:l=(n0::flat pre)++(t.id::t.fee::flat suf):=by rw [hl,Yn];rfl
 have hlen:(n0::flat pre).length=1+2 * pre.length:=by rw [List.length_cons,JR];omega
 constructor
 ·
  rw [e,List.getElem?_append_right (by omega),hlen,Nat.sub_self];rfl
 ·
  rw [e,List.getElem?_append_right (by omega),hlen,show 2+2 * pre.length - (1+2 * pre.length)=1 by omega];rfl
theorem vK {k:Nat} {l:List Int} {i:Int} {x:Int} {m:Nat} (h:Okl k l) (hi:i=(m:Int)) (hx:l[m]?=some x) (S:zy):jy zi 24 (iz k l) (.int .i64 i) S=some (EP [.int .i64 x],S):=by
 obtain ⟨h1,h2⟩:=List.getElem?_eq_some_iff.mp hx
 subst hi
 rw [acP h (by omega) (by omega)]
 simp [← h2]
theorem zA.inner {ns:List Int} {n0:Int} {ts:List TxV} (hns:ns=n0::flat ts) (hts:ts.length≤3):∀ (suf pre:List TxV) {T:List Value} {S:zy} {r:St},qE (zJ zi O false zA.jT) T S=r→T.length=69 →
  T.getD 4 zh=.int .i64 ts.length→T.getD 5 zh=iz 2 ns→T.getD 8 zh=tl 2 pre→T.getD 9 zh=.int .i64 pre.length→ts=pre++suf →
  ∃ T',r=some (.exit 2,T',S)∧T'.length=69∧T'.getD 8 zh=tl 2 ts∧T'.getD 4 zh=.int .i64 ts.length∧T'.getD 0 zh=T.getD 0 zh:=by
 intro suf
 induction suf with
 | nil =>
  intro pre T S r hL hT h4 h5 h8 h9 hpre
  have hTe:=zA.eta hT
  rw [h4,h5,h8,h9] at hTe
  have hr:zJ zi O false zA.jT T S=zJ zi O false zA.jT T S:=rfl
  have d1:¬ (pre.length:Int) < (ts.length:Int):=by rw [hpre];simp
  conv at hr =>
   rhs
   rw [hTe]
   simp only [zA.jT,zA.code,zA.rs,zSs,reduceIte,zk,zn,zo,zq,d1]
  rw [List.append_nil] at hpre
  exact ⟨_,hL.symm.trans (wu hr (by simp)),rfl,by rw [hpre];rfl,rfl,rfl⟩
 | cons t suf ih =>
  intro pre T S r hL hT h4 h5 h8 h9 hpre
  have hTe:=zA.eta hT
  rw [h4,h5,h8,h9] at hTe
  have hr:zJ zi O false zA.jT T S=zJ zi O false zA.jT T S:=rfl
  have d1:(pre.length:Int) < (ts.length:Int):=by rw [hpre];simp;omega
  obtain ⟨f1,f2⟩:=aja (by rw [hns,hpre]:ns=n0::flat (pre++t::suf))
  have w1:IntKind.i64.wrap (2 * (pre.length:Int))=2 * (pre.length:Int):=wrap_i64 (by omega) (by omega)
  have w2:IntKind.i64.wrap (1+2 * (pre.length:Int))=1+2 * (pre.length:Int):=wrap_i64 (by omega) (by omega)
  have w3:IntKind.i64.wrap (2+2 * (pre.length:Int))=2+2 * (pre.length:Int):=wrap_i64 (by omega) (by omega)
  have wi:IntKind.i64.wrap ((pre.length:Int)+1)=((pre++[t]).length:Int):=by rw [wrap_i64 (by omega) (by omega)];simp
  have i1:=fun S=>vK (k:=1) (i:=1+2 * (pre.length:Int)) Okl.read (by omega) f1 S
  have i2:=fun S=>vK (k:=1) (i:=2+2 * (pre.length:Int)) Okl.read (by omega) f2 S
  have ap:∀ S,wR zi 44 44 (tl 2 pre) (tl 2 [t]) S=some (tl 2 (pre++[t]),S):=fun S=>agc Okl.own (by decide) (by omega)
  have c2:∀ S,jK zi 44 1 [(0,.agg [Value.int .i64 t.id,.int .i64 t.fee].toArray)] S=some (tl 2 [t],S):=fun S=>afU t S
  conv at hr =>
   rhs
   rw [hTe]
   simp only [zA.jT,zA.code,zA.rs,zSs,reduceIte,zk,zn,zo,zq,d1,w1,w2,w3,i1,i2,qy,Z5 yS yS,c2,ap,wi]
  obtain ⟨T',j1,j2,j3,j4,j5⟩:=ih (pre++[t]) ((wZ hr).symm.trans hL) rfl rfl rfl rfl rfl (by simp [hpre])
  exact ⟨T',j1,j2,j3,j4,j5⟩
theorem zA.round {k:Nat} {l:List UInt8} (hk:Okl k l) (k2:k≠2) (hl:l.length≤140737488355328):∀ (m:Nat) (n:Nat) {T:List Value} {S:zy} {r:St},qE (zJ zi O false zA.kZ) T S=r→T.length=69 →
  T.getD 0 zh=by_ k l→T.getD 4 zh=.int .i64 n→n+m=4→(∀ ts,Zt l=some ts→n≤ts.length) →
  ∃ e T',r=some (e,T',S)∧match Zt l with
   | some ts=>e=.ret∧T'.getD 2 zh=tl 2 ts∧T'.getD 3 zh=.int .i64 0
   | none=>e=.exit 0∧T'.length=69:=by
 intro m
 induction m with
 | zero =>
  intro n T S r hL hT h0 h4 hn hno
  have hTe:=zA.eta hT
  rw [h0,h4] at hTe
  have hr:zJ zi O false zA.kZ T S=zJ zi O false zA.kZ T S:=rfl
  have d1:¬ (n:Int)≤3:=by omega
  conv at hr =>
   rhs
   rw [hTe]
   simp only [zA.kZ,zA.code,zA.rs,zSs,reduceIte,zk,zn,zo,zq,d1]
  refine ⟨_,_,hL.symm.trans (wu hr (by simp)),?_⟩
  have hx:Zt l=none:=by
   cases hx:Zt l with
   | none=>rfl
   | some ts=>have h1:=hno ts hx;have h2:=(xY.mp ((vg l ts).mp hx).1).2;omega
  rw [hx]
  exact ⟨rfl,rfl⟩
 | succ m ih =>
  intro n T S r hL hT h0 h4 hn hno
  have hTe:=zA.eta hT
  rw [h0,h4] at hTe
  have hr:zJ zi O false zA.kZ T S=zJ zi O false zA.kZ T S:=rfl
  have d1:(n:Int)≤3:=by omega
  have w1:IntKind.i64.wrap (2 * (n:Int))=2 * (n:Int):=wrap_i64 (by omega) (by omega)
  have w2:IntKind.i64.wrap (1+2 * (n:Int))=((1+2 * n:Nat):Int):=by rw [wrap_i64 (by omega) (by omega)];omega
  have wi:IntKind.i64.wrap ((n:Int)+1)=((n+1:Nat):Int):=by rw [wrap_i64 (by omega) (by omega)];omega
  have c1:=fun S=>zD.v (many:=((1+2 * n:Nat):Int)) hk k2 hl S
  have r1:Zi 2 2 ((1+2 * n:Nat):Int) l=_:=xU (by omega) (by omega)
  rw [r1] at c1
  have key:∀ ts,Zt l=some ts→ts.length=n→qp (1+2 * n) l=some ((ts.length:Int)::flat ts,[]):=by
   intro ts hx hlen
   obtain ⟨g1,g2⟩:=(vg l ts).mp hx
   obtain ⟨h5,h6⟩:=xY.mp g1
   refine (y7 _ _ _ _).mpr ⟨by simp [JR];omega,by rw [g2,List.append_nil];rfl,?_⟩
   intro x hx
   rcases List.mem_cons.1 hx with rfl | hx
   ·
    unfold Few;omega
   ·
    exact afy h5.2 x hx
  cases hns:qp (1+2 * n) l with
  | none =>
   rw [hns] at c1
   conv at hr =>
    rhs
    rw [hTe]
    simp only [zA.kZ,zA.code,zA.rs,zSs,reduceIte,zk,zn,zo,zq,d1,w1,w2,if_neg k2,c1,wi]
   refine ih (n+1) ((wZ hr).symm.trans hL) rfl rfl rfl (by omega) ?_
   intro ts hx
   have h1:=hno ts hx
   by_cases h2:ts.length=n
   ·
    rw [key ts hx h2] at hns;cases hns
   ·
    omega
  | some nr =>
   obtain ⟨ns,rest⟩:=nr
   rw [hns] at c1
   by_cases hr0:rest=[]
   ·
    subst hr0
    obtain ⟨f1,f2,f3⟩:=(y7 _ _ _ _).mp hns
    obtain ⟨n0,nl,rfl⟩:∃ n0 nl,ns=n0::nl:=by
     cases ns with
     | nil=>simp at f1;omega
     | cons a b=>exact ⟨a,b,rfl⟩
    obtain ⟨ts,t1,t2⟩:=aju n nl (by simp at f1;omega)
    subst t1
    conv at hr =>
     rhs
     rw [hTe]
     simp only [zA.kZ,zA.code,zA.rs,zSs,reduceIte,zk,zn,zo,zq,d1,w1,w2,if_neg k2,c1,ZP Okl.read,goInt,List.length_nil,Int.natCast_zero,Int.lt_irrefl,VW]
    generalize hL2:qE (zJ zi O false zA.jT) _ _=r2 at hr
    obtain ⟨T',rfl,g1,g2,g3,g4⟩:=zA.inner (n0:=n0) (ts:=ts) rfl (by omega) ts [] hL2 rfl (by rw [t2];rfl) rfl rfl rfl rfl
    have hTe':=zA.eta g1
    rw [g2,g3,g4,t2] at hTe'
    simp only [List.getD_cons_zero] at hTe'
    have c3:=fun S=>zC.v (k:=1) (l:=ts) Okl.read (by decide) (by omega) S
    unfold aii at c3
    have s1:∀ S,Jt zi 33 9 (by_ k l) S=some (.string ⟨l.toArray⟩,S):=fun S=>Xi hk
    have s2:∀ S,Jt zi 33 9 (by_ 1 (aaE ts)) S=some (.string ⟨(aaE ts).toArray⟩,S):=fun S=>Xi Okl.read
    by_cases hok:ZN ts=true
    ·
     rw [if_pos hok] at c3
     by_cases hb:aaE ts=l
     ·
      conv at hr =>
       rhs
       rw [hTe']
       simp only [zA.code,zA.rs,zSs,reduceIte,zk,zn,zo,zq,if_neg k2,c3,s1,s2,afN,decide_eq_true hb]
      refine ⟨_,_,hL.symm.trans (wu hr (by simp)),?_⟩
      rw [(vg l ts).mpr ⟨hok,hb.symm⟩]
      exact ⟨rfl,rfl,rfl⟩
     ·
      conv at hr =>
       rhs
       rw [hTe']
       simp only [zA.code,zA.rs,zSs,reduceIte,zk,zn,zo,zq,if_neg k2,c3,s1,s2,afN,decide_eq_false hb,wi]
      refine ih (n+1) ((wZ hr).symm.trans hL) rfl rfl rfl (by omega) ?_
      intro us hx
      have h1:=hno us hx
      by_cases h2:us.length=n
      ·
       have:=key us hx h2
       rw [hns] at this
       simp at this
       have e:=VZ this.2
       subst e
       exact absurd ((vg _ _).mp hx).2.symm hb
      ·
       omega
    ·
     rw [if_neg hok] at c3
     conv at hr =>
      rhs
      rw [hTe']
      simp only [zA.code,zA.rs,zSs,reduceIte,zk,zn,zo,zq,c3,wi]
     refine ih (n+1) ((wZ hr).symm.trans hL) rfl rfl rfl (by omega) ?_
     intro us hx
     have h1:=hno us hx
     by_cases h2:us.length=n
     ·
      have:=key us hx h2
      rw [hns] at this
      simp at this
      have e:=VZ this.2
      subst e
      exact absurd ((vg _ _).mp hx).1 hok
     ·
      omega
   ·
    have hp:(0:Int) < (rest.length:Int):=by have:=List.length_pos_iff.mpr hr0;omega
    conv at hr =>
     rhs
     rw [hTe]
     simp only [zA.kZ,zA.code,zA.rs,zSs,reduceIte,zk,zn,zo,zq,d1,w1,w2,if_neg k2,c1,ZP Okl.read,goInt,decide_eq_true hp,wi]
    refine ih (n+1) ((wZ hr).symm.trans hL) rfl rfl rfl (by omega) ?_
    intro ts hx
    have h1:=hno ts hx
    by_cases h2:ts.length=n
    ·
     rw [key ts hx h2] at hns;simp at hns;exact absurd hns.2 hr0
    ·
     omega
theorem zA.v {k:Nat} {l:List UInt8} (hk:Okl k l) (k2:k≠2) (hl:l.length≤140737488355328) (S:zy):zZ zi O zA.id [by_ k l] S=some (XY 2 l,S):=by
 obtain ⟨T,hTe⟩:∃ T,T=(by_ k l::zh::zh::zh::zh::zh::zh::zh::zh::zh::zh::zh::zh::zh::zh::zh::zh::zh::zh::zh::zh::zh::zh::zh::zh::zh::zh::zh::zh::zh::zh::zh::zh::zh::zh::zh::zh::zh::zh::zh::zh::zh::zh::zh::zh::zh::zh::zh::zh::zh::zh::zh::zh::zh::zh::zh::zh::zh::zh::zh::zh::zh::zh::zh::zh::zh::zh::zh::zh::[]):=⟨_,rfl⟩
 have hr:zJ zi O false zA.code T S=zJ zi O false zA.code T S:=rfl
 conv at hr =>
  rhs
  rw [hTe]
  simp only [zA.code,zA.rs,zSs,reduceIte,zk,zn,zo,zq]
 generalize hL:qE (zJ zi O false zA.kZ) _ _=r at hr
 obtain ⟨e,T',rfl,g⟩:=zA.round hk k2 hl 4 0 hL rfl rfl rfl rfl (fun ts h=>Nat.zero_le _)
 unfold XY
 cases hx:Zt l with
 | none =>
  rw [hx] at g
  obtain ⟨rfl,g2⟩:=g
  have hTe':=zA.eta g2
  conv at hr =>
   rhs
   rw [hTe']
   simp only [zA.code,zA.rs,zSs,reduceIte,zk,zn,zo,zq]
  rw [hTe] at hr
  exact zA.runs hr (.inr rfl) rfl rfl
 | some ts =>
  rw [hx] at g
  obtain ⟨rfl,g2,g3⟩:=g
  conv at hr =>
   rhs
   simp only [zSs,reduceIte,zk,zn,zo,zq]
  rw [hTe] at hr
  have hrun:=zA.runs (S:=S) hr (.inr rfl) (by rw [g2];exact wJ) (by rw [g3];rfl)
  rw [g2,g3] at hrun
  dsimp only
  rw [ite_self]
  exact hrun
end Go.Proofs.Ytfjogganfjkckaa
namespace Go.Proofs.Ytfjogganfjkckaa
open Go.Abs
theorem QZ {l:List TxV} (h:ZN l=true):(aaE l).length≤100:=by
 obtain ⟨h1,h2⟩:=xY.mp h
 have h3:=YM h1.2
 have h4:=Jl (l:=[(l.length:Int)]) (by simp;omega)
 rw [ZA,List.length_append]
 simp at h4
 omega
theorem X6 (l:List UInt8):∃ t e,aes l=.tuple #[tv t,.int .i64 e]∧((e=0∧afM l=some t)∨(e=61∧afM l=none∧t=⟨0,0⟩)):=by
 unfold aes
 cases h:afM l with
 | none=>exact ⟨⟨0,0⟩,61,rfl,.inr ⟨rfl,rfl,rfl⟩⟩
 | some t=>exact ⟨t,0,rfl,.inl ⟨rfl,rfl⟩⟩
theorem KY {j:Nat} (hj:j≤2) (l:List UInt8):∃ k t e,Okl k t∧List.length t≤3∧XY j l=.tuple #[tl k t,.int .i64 e]∧((e=0∧Zt l=some t)∨(e=61∧Zt l=none∧t=[])):=by
 unfold XY
 cases h:Zt l with
 | none=>exact ⟨0,[],61,Okl.none,by simp,rfl,.inr ⟨rfl,rfl,rfl⟩⟩
 | some t=>exact ⟨_,t,0,agX hj t,(xY.mp ((vg l t).mp h).1).2,rfl,.inl ⟨rfl,rfl⟩⟩
end Go.Proofs.Ytfjogganfjkckaa
namespace Go.Proofs.Ytfjogganfjkckaa
open Go.Abs
structure kS where
 slot:Int
 miner:Int
 variant:Int
 parent:Int
 k:Nat
 txs:List TxV
def fBk (b:kS):List Value:=[.int .i64 b.slot,.int .i64 b.miner,.int .i64 b.variant,.int .i64 b.parent,tl b.k b.txs]
abbrev bv (b:kS):Value:=.agg [Value.int .i64 b.slot,.int .i64 b.miner,.int .i64 b.variant,.int .i64 b.parent,tl b.k b.txs].toArray
structure kS.Ok (b:kS):Prop where
 okl:Okl b.k b.txs
 ne:b.k≠2
 len:b.txs.length * 16≤140737488351232
 par:b.parent < 9223372036854775808
def headB (b:kS):Bool:=btw b.slot 1 4095 && btw b.miner 0 6 && btw b.variant 0 255 && (decide (b.parent=0) || (xQ b.parent && decide (b.parent / 65536 < b.slot)))
def jX (b:kS):Bool:=headB b && ZN b.txs
def nameOf (b:kS):Int:=if jX b=true then b.slot * 65536+b.miner * 256+b.variant else 0
theorem ZV {b:kS}:headB b=true ↔ (1≤b.slot∧b.slot≤4095)∧(0≤b.miner∧b.miner≤6)∧(0≤b.variant∧b.variant≤255)∧(b.parent=0∨(xQ b.parent=true∧b.parent / 65536 < b.slot)):=by
 simp [headB,KI,and_assoc]
theorem yN {b:kS} {d:Nat} (h:b.k≤2):jW (d+6) (bv b)=true:=by
 have h1:jW (d+5) (tl b.k b.txs)=true:=Jo (d:=d+1) h fun _ _=>rfl
 refine aby ?_
 simp only [List.all_cons,List.all_nil,h1,Bool.and_true]
 rfl
abbrev ak1 (b:kS):zy:=zy.empty.push (.cells (fBk b) (.own []) 0)
theorem JJ (b:kS):J3 (bv b) zy.empty=some (.pointer (some ⟨0,0,none⟩),ak1 b):=rfl
theorem yZ (b:kS):(ak1 b).get 0=some (.cells (fBk b) (.own []) 0):=rfl
theorem XK {S:zy} {q:Nat} {b:kS} (h:S.get q=some (.cells (fBk b) (.own []) 0)):jh zi false 3 (.pointer (some ⟨q,0+0,none⟩)) S=some (.int .i64 b.slot,S):=qK (t:=3) (o:=0+0) h ZX rfl
theorem XF {S:zy} {q:Nat} {b:kS} (h:S.get q=some (.cells (fBk b) (.own []) 0)):jh zi false 3 (.pointer (some ⟨q,0+1,none⟩)) S=some (.int .i64 b.miner,S):=qK (t:=3) (o:=0+1) h ZX rfl
theorem XQ {S:zy} {q:Nat} {b:kS} (h:S.get q=some (.cells (fBk b) (.own []) 0)):jh zi false 3 (.pointer (some ⟨q,0+2,none⟩)) S=some (.int .i64 b.variant,S):=qK (t:=3) (o:=0+2) h ZX rfl
theorem aaW {S:zy} {q:Nat} {b:kS} (h:S.get q=some (.cells (fBk b) (.own []) 0)):jh zi false 3 (.pointer (some ⟨q,0+3,none⟩)) S=some (.int .i64 b.parent,S):=qK (t:=3) (o:=0+3) h ZX rfl
theorem abm {S:zy} {q:Nat} {b:kS} (h:S.get q=some (.cells (fBk b) (.own []) 0)) (hk:b.k≠2):jh zi false 44 (.pointer (some ⟨q,0+4,none⟩)) S=some (tl b.k b.txs,S):=by
 rw [YW (o:=0+4) (v:=tl b.k b.txs) h ad8 rfl (fun l h=>by unfold tl vs sv at h;split at h <;> cases h),KC,if_neg hk]
theorem QF {S:zy} {q:Nat} {b:kS} (h:S.get q=some (.cells (fBk b) (.own []) 0)) (hk:b.k≠2):jh zi false 46 (.pointer (some ⟨q,0,none⟩)) S=some (bv b,S):=by
 rw [aaR h,Zr,Zr,Zr,Zr,acM,if_neg hk]
theorem jF.v {b:kS} (hb:b.Ok) (S:zy):zZ zi O jF.id [bv b] S=some (.bool (jX b),S):=by
 obtain ⟨T,hTe⟩:∃ T,T=(bv b::zh::zh::zh::zh::zh::zh::zh::zh::zh::zh::zh::zh::zh::zh::zh::zh::zh::zh::zh::zh::zh::zh::zh::zh::zh::zh::zh::zh::zh::zh::zh::zh::zh::zh::zh::zh::zh::zh::zh::zh::zh::zh::zh::zh::zh::[]):=⟨_,rfl⟩
 have hr:zJ zi O false jF.code T zy.empty=zJ zi O false jF.code T zy.empty:=rfl
 have l0:=XK (yZ b)
 have l1:=XF (yZ b)
 have l2:=XQ (yZ b)
 have l3:=aaW (yZ b)
 have l4:=abm (yZ b) hb.ne
 have c1:=fun S=>wE.v hb.okl hb.ne (by have:=hb.len;omega) S
 unfold aii at c1
 cases h1:btw b.slot 1 4095
 ·
  have e:jX b=false:=by simp [jX,headB,h1]
  rw [e]
  conv at hr =>
   rhs
   rw [hTe]
   simp only [jF.code,jF.rs,zSs,reduceIte,zk,zn,zo,zq,JJ,jV,jP,jU,jZ,wo,l0,l1,l2,l3,l4,if_neg hb.ne,wz.v,h1]
  rw [hTe] at hr
  exact jF.runs hr (.inr rfl) (all1 (yN hb.okl.le)) rfl
 ·
  cases h2:btw b.miner 0 6
  ·
   have e:jX b=false:=by simp [jX,headB,h1,h2]
   rw [e]
   conv at hr =>
    rhs
    rw [hTe]
    simp only [jF.code,jF.rs,zSs,reduceIte,zk,zn,zo,zq,JJ,jV,jP,jU,jZ,wo,l0,l1,l2,l3,l4,if_neg hb.ne,wz.v,h1,h2]
   rw [hTe] at hr
   exact jF.runs hr (.inr rfl) (all1 (yN hb.okl.le)) rfl
  ·
   cases h3:btw b.variant 0 255
   ·
    have e:jX b=false:=by simp [jX,headB,h1,h2,h3]
    rw [e]
    conv at hr =>
     rhs
     rw [hTe]
     simp only [jF.code,jF.rs,zSs,reduceIte,zk,zn,zo,zq,JJ,jV,jP,jU,jZ,wo,l0,l1,l2,l3,l4,if_neg hb.ne,wz.v,h1,h2,h3]
    rw [hTe] at hr
    exact jF.runs hr (.inr rfl) (all1 (yN hb.okl.le)) rfl
   ·
    by_cases h4:b.parent=0
    ·
     by_cases h7:ZN b.txs=true
     ·
      rw [if_pos h7] at c1
      have e:jX b=true:=by simp [jX,headB,h1,h2,h3,h4,h7]
      rw [e]
      conv at hr =>
       rhs
       rw [hTe]
       simp only [jF.code,jF.rs,zSs,reduceIte,zk,zn,zo,zq,JJ,jV,jP,jU,jZ,wo,l0,l1,l2,l3,l4,if_neg hb.ne,wz.v,h1,h2,h3,decide_eq_true h4,c1]
      rw [hTe] at hr
      exact jF.runs hr (.inr rfl) (all1 (yN hb.okl.le)) rfl
     ·
      rw [if_neg h7] at c1
      have e:jX b=false:=by simp [jX,h7]
      rw [e]
      conv at hr =>
       rhs
       rw [hTe]
       simp only [jF.code,jF.rs,zSs,reduceIte,zk,zn,zo,zq,JJ,jV,jP,jU,jZ,wo,l0,l1,l2,l3,l4,if_neg hb.ne,wz.v,h1,h2,h3,decide_eq_true h4,c1]
      rw [hTe] at hr
      exact jF.runs hr (.inr rfl) (all1 (yN hb.okl.le)) rfl
    ·
     cases h5:xQ b.parent
     ·
      have e:jX b=false:=by simp [jX,headB,h1,h2,h3,h4,h5]
      rw [e]
      conv at hr =>
       rhs
       rw [hTe]
       simp only [jF.code,jF.rs,zSs,reduceIte,zk,zn,zo,zq,JJ,jV,jP,jU,jZ,wo,l0,l1,l2,l3,l4,if_neg hb.ne,wz.v,h1,h2,h3,decide_eq_false h4,wW.v,h5]
      rw [hTe] at hr
      exact jF.runs hr (.inr rfl) (all1 (yN hb.okl.le)) rfl
     ·
      have hn:=vP.mp h5
      have q1:IntKind.i64.wrap (b.parent.tdiv 65536)=b.parent / 65536:=by rw [YL (by omega),wrap_i64 (by omega) (by omega)]
      by_cases h6:b.parent / 65536 < b.slot
      ·
       have h6':¬ b.slot≤b.parent / 65536:=by omega
       by_cases h7:ZN b.txs=true
       ·
        rw [if_pos h7] at c1
        have e:jX b=true:=by simp [jX,headB,h1,h2,h3,h4,h5,h6,h7]
        rw [e]
        conv at hr =>
         rhs
         rw [hTe]
         simp only [jF.code,jF.rs,zSs,reduceIte,zk,zn,zo,zq,JJ,jV,jP,jU,jZ,wo,l0,l1,l2,l3,l4,if_neg hb.ne,wz.v,h1,h2,h3,decide_eq_false h4,wW.v,h5,vw _ _ _ Qx,q1,decide_eq_false h6',c1]
        rw [hTe] at hr
        exact jF.runs hr (.inr rfl) (all1 (yN hb.okl.le)) rfl
       ·
        rw [if_neg h7] at c1
        have e:jX b=false:=by simp [jX,h7]
        rw [e]
        conv at hr =>
         rhs
         rw [hTe]
         simp only [jF.code,jF.rs,zSs,reduceIte,zk,zn,zo,zq,JJ,jV,jP,jU,jZ,wo,l0,l1,l2,l3,l4,if_neg hb.ne,wz.v,h1,h2,h3,decide_eq_false h4,wW.v,h5,vw _ _ _ Qx,q1,decide_eq_false h6',c1]
        rw [hTe] at hr
        exact jF.runs hr (.inr rfl) (all1 (yN hb.okl.le)) rfl
      ·
       have h6':b.slot≤b.parent / 65536:=by omega
       have e:jX b=false:=by simp [jX,headB,h1,h2,h3,h4,h5,h6]
       rw [e]
       conv at hr =>
        rhs
        rw [hTe]
        simp only [jF.code,jF.rs,zSs,reduceIte,zk,zn,zo,zq,JJ,jV,jP,jU,jZ,wo,l0,l1,l2,l3,l4,if_neg hb.ne,wz.v,h1,h2,h3,decide_eq_false h4,wW.v,h5,vw _ _ _ Qx,q1,decide_eq_true h6']
       rw [hTe] at hr
       exact jF.runs hr (.inr rfl) (all1 (yN hb.okl.le)) rfl
theorem zI.v {b:kS} (hb:b.Ok) (S:zy):zZ zi O zI.id [bv b] S=some (.bool (jX b),S):=by
 obtain ⟨T,hTe⟩:∃ T,T=(bv b::zh::zh::zh::zh::zh::zh::zh::zh::zh::zh::zh::zh::zh::zh::zh::zh::zh::zh::zh::zh::zh::zh::zh::zh::zh::zh::zh::zh::zh::zh::zh::zh::zh::zh::zh::zh::zh::zh::zh::zh::zh::zh::zh::zh::zh::zh::zh::zh::zh::zh::zh::zh::zh::zh::zh::zh::zh::zh::zh::zh::zh::zh::[]):=⟨_,rfl⟩
 have hr:zJ zi O false zI.code T zy.empty=zJ zi O false zI.code T zy.empty:=rfl
 have l0:=XK (yZ b)
 have l1:=XF (yZ b)
 have l2:=XQ (yZ b)
 have l3:=aaW (yZ b)
 have l4:=abm (yZ b) hb.ne
 have c1:=fun S=>zC.v hb.okl hb.ne (by have:=hb.len;omega) S
 unfold aii at c1
 by_cases h1:b.slot < 1
 ·
  have e:jX b=false:=by
   cases h:jX b with
    | false=>rfl
    | true=>simp only [jX,Bool.and_eq_true,ZV] at h;omega
  rw [e]
  conv at hr =>
   rhs
   rw [hTe]
   simp only [zI.code,zI.rs,zSs,reduceIte,zk,zn,zo,zq,JJ,jV,jP,jU,jZ,wo,l0,l1,l2,l3,l4,if_neg hb.ne,decide_eq_true h1]
  rw [hTe] at hr
  exact zI.runs hr (.inr rfl) (all1 (yN hb.okl.le)) rfl
 ·
  by_cases h2:4095 < b.slot
  ·
   have e:jX b=false:=by
    cases h:jX b with
     | false=>rfl
     | true=>simp only [jX,Bool.and_eq_true,ZV] at h;omega
   rw [e]
   conv at hr =>
    rhs
    rw [hTe]
    simp only [zI.code,zI.rs,zSs,reduceIte,zk,zn,zo,zq,JJ,jV,jP,jU,jZ,wo,l0,l1,l2,l3,l4,if_neg hb.ne,decide_eq_false h1,decide_eq_true h2]
   rw [hTe] at hr
   exact zI.runs hr (.inr rfl) (all1 (yN hb.okl.le)) rfl
  ·
   by_cases h3:b.miner < 0
   ·
    have e:jX b=false:=by
     cases h:jX b with
      | false=>rfl
      | true=>simp only [jX,Bool.and_eq_true,ZV] at h;omega
    rw [e]
    conv at hr =>
     rhs
     rw [hTe]
     simp only [zI.code,zI.rs,zSs,reduceIte,zk,zn,zo,zq,JJ,jV,jP,jU,jZ,wo,l0,l1,l2,l3,l4,if_neg hb.ne,decide_eq_false h1,decide_eq_false h2,decide_eq_true h3]
    rw [hTe] at hr
    exact zI.runs hr (.inr rfl) (all1 (yN hb.okl.le)) rfl
   ·
    by_cases h4:6 < b.miner
    ·
     have e:jX b=false:=by
      cases h:jX b with
       | false=>rfl
       | true=>simp only [jX,Bool.and_eq_true,ZV] at h;omega
     rw [e]
     conv at hr =>
      rhs
      rw [hTe]
      simp only [zI.code,zI.rs,zSs,reduceIte,zk,zn,zo,zq,JJ,jV,jP,jU,jZ,wo,l0,l1,l2,l3,l4,if_neg hb.ne,decide_eq_false h1,decide_eq_false h2,decide_eq_false h3,decide_eq_true h4]
     rw [hTe] at hr
     exact zI.runs hr (.inr rfl) (all1 (yN hb.okl.le)) rfl
    ·
     by_cases h5:b.variant < 0
     ·
      have e:jX b=false:=by
       cases h:jX b with
        | false=>rfl
        | true=>simp only [jX,Bool.and_eq_true,ZV] at h;omega
      rw [e]
      conv at hr =>
       rhs
       rw [hTe]
       simp only [zI.code,zI.rs,zSs,reduceIte,zk,zn,zo,zq,JJ,jV,jP,jU,jZ,wo,l0,l1,l2,l3,l4,if_neg hb.ne,decide_eq_false h1,decide_eq_false h2,decide_eq_false h3,decide_eq_false h4,decide_eq_true h5]
      rw [hTe] at hr
      exact zI.runs hr (.inr rfl) (all1 (yN hb.okl.le)) rfl
     ·
      by_cases h6:255 < b.variant
      ·
       have e:jX b=false:=by
        cases h:jX b with
         | false=>rfl
         | true=>simp only [jX,Bool.and_eq_true,ZV] at h;omega
       rw [e]
       conv at hr =>
        rhs
        rw [hTe]
        simp only [zI.code,zI.rs,zSs,reduceIte,zk,zn,zo,zq,JJ,jV,jP,jU,jZ,wo,l0,l1,l2,l3,l4,if_neg hb.ne,decide_eq_false h1,decide_eq_false h2,decide_eq_false h3,decide_eq_false h4,decide_eq_false h5,decide_eq_true h6]
       rw [hTe] at hr
       exact zI.runs hr (.inr rfl) (all1 (yN hb.okl.le)) rfl
      ·
       by_cases h7:ZN b.txs=true
       ·
        rw [if_pos h7] at c1
        have hh:headB b=(decide (b.parent=0) || (xQ b.parent && decide (b.parent / 65536 < b.slot))):=by
         have a1:=KI.mpr (show 1≤b.slot∧b.slot≤4095 by omega)
         have a2:=KI.mpr (show 0≤b.miner∧b.miner≤6 by omega)
         have a3:=KI.mpr (show 0≤b.variant∧b.variant≤255 by omega)
         simp [headB,a1,a2,a3]
        by_cases h8:b.parent=0
        ·
         have e:jX b=true:=by simp [jX,hh,h8,h7]
         rw [e]
         conv at hr =>
          rhs
          rw [hTe]
          simp only [zI.code,zI.rs,zSs,reduceIte,zk,zn,zo,zq,JJ,jV,jP,jU,jZ,wo,l0,l1,l2,l3,l4,if_neg hb.ne,decide_eq_false h1,decide_eq_false h2,decide_eq_false h3,decide_eq_false h4,decide_eq_false h5,decide_eq_false h6,c1,decide_eq_true h8]
         rw [hTe] at hr
         exact zI.runs hr (.inr rfl) (all1 (yN hb.okl.le)) rfl
        ·
         have c2:=fun S=>jo.v b.parent hb.par S
         unfold aa9 at c2
         by_cases h9:b.parent < 0
         ·
          rw [if_pos h9] at c2
          have hn:xQ b.parent=false:=by
           cases h:xQ b.parent with
           | false=>rfl
           | true=>have:=vP.mp h;omega
          have e:jX b=false:=by simp [jX,hh,h8,hn]
          rw [e]
          conv at hr =>
           rhs
           rw [hTe]
           simp only [zI.code,zI.rs,zSs,reduceIte,zk,zn,zo,zq,JJ,jV,jP,jU,jZ,wo,l0,l1,l2,l3,l4,if_neg hb.ne,decide_eq_false h1,decide_eq_false h2,decide_eq_false h3,decide_eq_false h4,decide_eq_false h5,decide_eq_false h6,c1,decide_eq_false h8,c2]
          rw [hTe] at hr
          exact zI.runs hr (.inr rfl) (all1 (yN hb.okl.le)) rfl
         ·
          rw [if_neg h9] at c2
          cases hn:xQ b.parent
          ·
           rw [hn] at c2
           have e:jX b=false:=by simp [jX,hh,h8,hn]
           rw [e]
           conv at hr =>
            rhs
            rw [hTe]
            simp only [zI.code,zI.rs,zSs,reduceIte,zk,zn,zo,zq,JJ,jV,jP,jU,jZ,wo,l0,l1,l2,l3,l4,if_neg hb.ne,decide_eq_false h1,decide_eq_false h2,decide_eq_false h3,decide_eq_false h4,decide_eq_false h5,decide_eq_false h6,c1,decide_eq_false h8,c2]
           rw [hTe] at hr
           exact zI.runs hr (.inr rfl) (all1 (yN hb.okl.le)) rfl
          ·
           rw [hn] at c2
           have e:jX b=decide (b.parent / 65536 < b.slot):=by simp [jX,hh,h8,hn,h7]
           rw [e]
           conv at hr =>
            rhs
            rw [hTe]
            simp only [zI.code,zI.rs,zSs,reduceIte,zk,zn,zo,zq,JJ,jV,jP,jU,jZ,wo,l0,l1,l2,l3,l4,if_neg hb.ne,decide_eq_false h1,decide_eq_false h2,decide_eq_false h3,decide_eq_false h4,decide_eq_false h5,decide_eq_false h6,c1,decide_eq_false h8,c2]
           rw [hTe] at hr
           exact zI.runs hr (.inr rfl) (all1 (yN hb.okl.le)) rfl
       ·
        rw [if_neg h7] at c1
        have e:jX b=false:=by simp [jX,h7]
        rw [e]
        conv at hr =>
         rhs
         rw [hTe]
         simp only [zI.code,zI.rs,zSs,reduceIte,zk,zn,zo,zq,JJ,jV,jP,jU,jZ,wo,l0,l1,l2,l3,l4,if_neg hb.ne,decide_eq_false h1,decide_eq_false h2,decide_eq_false h3,decide_eq_false h4,decide_eq_false h5,decide_eq_false h6,c1]
        rw [hTe] at hr
        exact zI.runs hr (.inr rfl) (all1 (yN hb.okl.le)) rfl
theorem yh.v {b:kS} (hb:b.Ok) (S:zy):zZ zi O yh.id [bv b] S=some (.int .i64 (nameOf b),S):=by
 obtain ⟨T,hTe⟩:∃ T,T=(bv b::zh::zh::zh::zh::zh::zh::zh::zh::zh::zh::zh::zh::zh::zh::zh::[]):=⟨_,rfl⟩
 have hr:zJ zi O false yh.code T zy.empty=zJ zi O false yh.code T zy.empty:=rfl
 have l0:=XK (yZ b)
 have l1:=XF (yZ b)
 have l2:=XQ (yZ b)
 have lb:=QF (yZ b) hb.ne
 have c1:=fun S=>jF.v hb S
 unfold nameOf
 cases hR:jX b
 ·
  rw [hR] at c1
  conv at hr =>
   rhs
   rw [hTe]
   simp only [yh.code,yh.rs,zSs,reduceIte,zk,zn,zo,zq,JJ,lb,c1]
  rw [hTe] at hr
  exact yh.runs hr (.inr rfl) (all1 (yN hb.okl.le)) rfl
 ·
  rw [hR] at c1
  have hh:=hR
  simp only [jX,Bool.and_eq_true,ZV] at hh
  obtain ⟨⟨h1,h2,h3,_⟩,_⟩:=hh
  have w1:IntKind.i64.wrap (b.slot * 65536)=b.slot * 65536:=wrap_i64 (by omega) (by omega)
  have w2:IntKind.i64.wrap (b.miner * 256)=b.miner * 256:=wrap_i64 (by omega) (by omega)
  have w3:IntKind.i64.wrap (b.slot * 65536+b.miner * 256)=b.slot * 65536+b.miner * 256:=wrap_i64 (by omega) (by omega)
  have w4:IntKind.i64.wrap (b.slot * 65536+b.miner * 256+b.variant)=b.slot * 65536+b.miner * 256+b.variant:=wrap_i64 (by omega) (by omega)
  conv at hr =>
   rhs
   rw [hTe]
   simp only [yh.code,yh.rs,zSs,reduceIte,zk,zn,zo,zq,JJ,lb,c1,jV,jP,jU,l0,l1,l2,w1,w2,w3,w4]
  rw [hTe] at hr
  exact yh.runs hr (.inr rfl) (all1 (yN hb.okl.le)) rfl
theorem jG.v {b:kS} (hb:b.Ok) (S:zy):zZ zi O jG.id [bv b] S=some (.int .i64 (nameOf b),S):=by
 obtain ⟨T,hTe⟩:∃ T,T=(bv b::zh::zh::zh::zh::zh::zh::zh::zh::zh::zh::zh::zh::zh::zh::zh::[]):=⟨_,rfl⟩
 have hr:zJ zi O false jG.code T zy.empty=zJ zi O false jG.code T zy.empty:=rfl
 have l0:=XK (yZ b)
 have l1:=XF (yZ b)
 have l2:=XQ (yZ b)
 have lb:=QF (yZ b) hb.ne
 have c1:=fun S=>zI.v hb S
 unfold nameOf
 cases hR:jX b
 ·
  rw [hR] at c1
  conv at hr =>
   rhs
   rw [hTe]
   simp only [jG.code,jG.rs,zSs,reduceIte,zk,zn,zo,zq,JJ,lb,c1]
  rw [hTe] at hr
  exact jG.runs hr (.inr rfl) (all1 (yN hb.okl.le)) rfl
 ·
  rw [hR] at c1
  have hh:=hR
  simp only [jX,Bool.and_eq_true,ZV] at hh
  obtain ⟨⟨h1,h2,h3,_⟩,_⟩:=hh
  have w1:IntKind.i64.wrap (b.slot * 256)=b.slot * 256:=wrap_i64 (by omega) (by omega)
  have w2:IntKind.i64.wrap (b.slot * 256+b.miner)=b.slot * 256+b.miner:=wrap_i64 (by omega) (by omega)
  have w3:IntKind.i64.wrap ((b.slot * 256+b.miner) * 256)=b.slot * 65536+b.miner * 256:=by rw [wrap_i64 (by omega) (by omega)];omega
  have w4:IntKind.i64.wrap (b.slot * 65536+b.miner * 256+b.variant)=b.slot * 65536+b.miner * 256+b.variant:=wrap_i64 (by omega) (by omega)
  conv at hr =>
   rhs
   rw [hTe]
   simp only [jG.code,jG.rs,zSs,reduceIte,zk,zn,zo,zq,JJ,lb,c1,jV,jP,jU,l0,l1,l2,w1,w2,w3,w4]
  rw [hTe] at hr
  exact jG.runs hr (.inr rfl) (all1 (yN hb.okl.le)) rfl
end Go.Proofs.Ytfjogganfjkckaa
namespace Go.Proofs.Ytfjogganfjkckaa
open Go.Abs
def kN (a b:kS):Bool:=decide (a.slot=b.slot) && (decide (a.miner=b.miner) && (decide (a.variant=b.variant) && (decide (a.parent=b.parent) && decide (a.txs=b.txs))))
abbrev ajp (a b:kS):zy:=(ak1 a).push (.cells (fBk b) (.own []) 0)
theorem XC (a b:kS):J3 (bv b) (ak1 a)=some (.pointer (some ⟨1,0,none⟩),ajp a b):=by kernel_rfl
theorem Ju (a b:kS):(ajp a b).get 0=some (.cells (fBk a) (.own []) 0):=by kernel_rfl
theorem Js (a b:kS):(ajp a b).get 1=some (.cells (fBk b) (.own []) 0):=by kernel_rfl
theorem wY.v {a b:kS} (ha:a.Ok) (hb:b.Ok) (S:zy):zZ zi O wY.id [bv a,bv b] S=some (.bool (kN a b),S):=by
 obtain ⟨T,hTe⟩:∃ T,T=(bv a::bv b::zh::zh::zh::zh::zh::zh::zh::zh::zh::zh::zh::zh::zh::zh::zh::zh::zh::zh::zh::zh::zh::zh::zh::zh::zh::zh::zh::zh::zh::zh::zh::zh::zh::zh::zh::zh::[]):=⟨_,rfl⟩
 have hr:zJ zi O false wY.code T zy.empty=zJ zi O false wY.code T zy.empty:=rfl
 have l0:=XK (Ju a b)
 have m0:=XK (Js a b)
 have l1:=XF (Ju a b)
 have m1:=XF (Js a b)
 have l2:=XQ (Ju a b)
 have m2:=XQ (Js a b)
 have l3:=aaW (Ju a b)
 have m3:=aaW (Js a b)
 have l4:=abm (Ju a b) ha.ne
 have m4:=abm (Js a b) hb.ne
 have c1:=fun S=>slices_Equal.v ha.okl hb.okl ha.ne hb.ne (by have:=ha.len;omega) S
 have cc:[bv a,bv b].all (jW 16)=true:=all2 (yN ha.okl.le) (yN hb.okl.le)
 unfold kN
 by_cases h1:a.slot=b.slot
 ·
  have e1:=decide_eq_true h1
  by_cases h2:a.miner=b.miner
  ·
   have e2:=decide_eq_true h2
   by_cases h3:a.variant=b.variant
   ·
    have e3:=decide_eq_true h3
    by_cases h4:a.parent=b.parent
    ·
     have e4:=decide_eq_true h4
     conv at hr =>
      rhs
      rw [hTe]
      simp only [wY.code,wY.rs,zSs,reduceIte,zk,zn,zo,zq,JJ,XC,jV,jP,jU,jZ,wo,l0,l1,l2,l3,l4,m0,m1,m2,m3,m4,if_neg ha.ne,if_neg hb.ne,e1,e2,e3,e4,c1]
     rw [hTe] at hr
     rw [e1,Bool.true_and,e2,Bool.true_and,e3,Bool.true_and,e4,Bool.true_and]
     exact wY.runs hr (.inr rfl) cc rfl
    ·
     have e4:=decide_eq_false h4
     conv at hr =>
      rhs
      rw [hTe]
      simp only [wY.code,wY.rs,zSs,reduceIte,zk,zn,zo,zq,JJ,XC,jV,jP,jU,jZ,wo,l0,l1,l2,l3,l4,m0,m1,m2,m3,m4,if_neg ha.ne,if_neg hb.ne,e1,e2,e3,e4]
     rw [hTe] at hr
     rw [e1,Bool.true_and,e2,Bool.true_and,e3,Bool.true_and,e4,Bool.false_and]
     exact wY.runs hr (.inr rfl) cc rfl
   ·
    have e3:=decide_eq_false h3
    conv at hr =>
     rhs
     rw [hTe]
     simp only [wY.code,wY.rs,zSs,reduceIte,zk,zn,zo,zq,JJ,XC,jV,jP,jU,jZ,wo,l0,l1,l2,l3,l4,m0,m1,m2,m3,m4,if_neg ha.ne,if_neg hb.ne,e1,e2,e3]
    rw [hTe] at hr
    rw [e1,Bool.true_and,e2,Bool.true_and,e3,Bool.false_and]
    exact wY.runs hr (.inr rfl) cc rfl
  ·
   have e2:=decide_eq_false h2
   conv at hr =>
    rhs
    rw [hTe]
    simp only [wY.code,wY.rs,zSs,reduceIte,zk,zn,zo,zq,JJ,XC,jV,jP,jU,jZ,wo,l0,l1,l2,l3,l4,m0,m1,m2,m3,m4,if_neg ha.ne,if_neg hb.ne,e1,e2]
   rw [hTe] at hr
   rw [e1,Bool.true_and,e2,Bool.false_and]
   exact wY.runs hr (.inr rfl) cc rfl
 ·
  have e1:=decide_eq_false h1
  conv at hr =>
   rhs
   rw [hTe]
   simp only [wY.code,wY.rs,zSs,reduceIte,zk,zn,zo,zq,JJ,XC,jV,jP,jU,jZ,wo,l0,l1,l2,l3,l4,m0,m1,m2,m3,m4,if_neg ha.ne,if_neg hb.ne,e1]
  rw [hTe] at hr
  rw [e1,Bool.false_and]
  exact wY.runs hr (.inr rfl) cc rfl
theorem jB.v {a b:kS} (ha:a.Ok) (hb:b.Ok) (S:zy):zZ zi O jB.id [bv a,bv b] S=some (.bool (kN a b),S):=by
 obtain ⟨T,hTe⟩:∃ T,T=(bv a::bv b::zh::zh::zh::zh::zh::zh::zh::zh::zh::zh::zh::zh::zh::zh::zh::zh::zh::zh::zh::zh::zh::zh::zh::zh::zh::zh::zh::zh::zh::zh::zh::zh::zh::zh::zh::zh::[]):=⟨_,rfl⟩
 have hr:zJ zi O false jB.code T zy.empty=zJ zi O false jB.code T zy.empty:=rfl
 have l0:=XK (Ju a b)
 have m0:=XK (Js a b)
 have l1:=XF (Ju a b)
 have m1:=XF (Js a b)
 have l2:=XQ (Ju a b)
 have m2:=XQ (Js a b)
 have l3:=aaW (Ju a b)
 have m3:=aaW (Js a b)
 have l4:=abm (Ju a b) ha.ne
 have m4:=abm (Js a b) hb.ne
 have c1:=fun S=>zL.v ha.okl hb.okl ha.ne hb.ne (by have:=ha.len;omega) S
 have cc:[bv a,bv b].all (jW 16)=true:=all2 (yN ha.okl.le) (yN hb.okl.le)
 unfold kN
 by_cases h1:a.slot=b.slot
 ·
  have e1:=decide_eq_true h1
  by_cases h2:a.miner=b.miner
  ·
   have e2:=decide_eq_true h2
   by_cases h3:a.variant=b.variant
   ·
    have e3:=decide_eq_true h3
    by_cases h4:a.parent=b.parent
    ·
     have e4:=decide_eq_true h4
     conv at hr =>
      rhs
      rw [hTe]
      simp only [jB.code,jB.rs,zSs,reduceIte,zk,zn,zo,zq,JJ,XC,jV,jP,jU,jZ,wo,l0,l1,l2,l3,l4,m0,m1,m2,m3,m4,if_neg ha.ne,if_neg hb.ne,e1,e2,e3,e4,c1]
     rw [hTe] at hr
     rw [e1,Bool.true_and,e2,Bool.true_and,e3,Bool.true_and,e4,Bool.true_and]
     exact jB.runs hr (.inr rfl) cc rfl
    ·
     have e4:=decide_eq_false h4
     conv at hr =>
      rhs
      rw [hTe]
      simp only [jB.code,jB.rs,zSs,reduceIte,zk,zn,zo,zq,JJ,XC,jV,jP,jU,jZ,wo,l0,l1,l2,l3,l4,m0,m1,m2,m3,m4,if_neg ha.ne,if_neg hb.ne,e1,e2,e3,e4]
     rw [hTe] at hr
     rw [e1,Bool.true_and,e2,Bool.true_and,e3,Bool.true_and,e4,Bool.false_and]
     exact jB.runs hr (.inr rfl) cc rfl
   ·
    have e3:=decide_eq_false h3
    conv at hr =>
     rhs
     rw [hTe]
     simp only [jB.code,jB.rs,zSs,reduceIte,zk,zn,zo,zq,JJ,XC,jV,jP,jU,jZ,wo,l0,l1,l2,l3,l4,m0,m1,m2,m3,m4,if_neg ha.ne,if_neg hb.ne,e1,e2,e3]
    rw [hTe] at hr
    rw [e1,Bool.true_and,e2,Bool.true_and,e3,Bool.false_and]
    exact jB.runs hr (.inr rfl) cc rfl
  ·
   have e2:=decide_eq_false h2
   conv at hr =>
    rhs
    rw [hTe]
    simp only [jB.code,jB.rs,zSs,reduceIte,zk,zn,zo,zq,JJ,XC,jV,jP,jU,jZ,wo,l0,l1,l2,l3,l4,m0,m1,m2,m3,m4,if_neg ha.ne,if_neg hb.ne,e1,e2]
   rw [hTe] at hr
   rw [e1,Bool.true_and,e2,Bool.false_and]
   exact jB.runs hr (.inr rfl) cc rfl
 ·
  have e1:=decide_eq_false h1
  conv at hr =>
   rhs
   rw [hTe]
   simp only [jB.code,jB.rs,zSs,reduceIte,zk,zn,zo,zq,JJ,XC,jV,jP,jU,jZ,wo,l0,l1,l2,l3,l4,m0,m1,m2,m3,m4,if_neg ha.ne,if_neg hb.ne,e1]
  rw [hTe] at hr
  rw [e1,Bool.false_and]
  exact jB.runs hr (.inr rfl) cc rfl
def XB (b:kS):List UInt8:=encs [b.slot,b.miner,b.variant,b.parent]++aaE b.txs
def acr (b:kS):Value:=if jX b then .tuple #[by_ 2 (XB b),.int .i64 0] else .tuple #[.slice none 0 0,.int .i64 71]
theorem W9 {b:kS} (h:headB b=true):∀ n ∈ [b.slot,b.miner,b.variant,b.parent],0≤n∧n≤268435455:=by
 obtain ⟨h1,h2,h3,h4⟩:=ZV.mp h
 have h5:0≤b.parent∧b.parent≤268435455:=by
  rcases h4 with h4 | ⟨h4,_⟩
  ·
   omega
  ·
   have:=vP.mp h4;omega
 intro n hn
 simp only [List.mem_cons,List.not_mem_nil,or_false] at hn
 rcases hn with rfl | rfl | rfl | rfl <;> omega
theorem bs4 (a b c d:Int) (S:zy):jK zi 24 4 [(0,.int .i64 a),(1,.int .i64 b),(2,.int .i64 c),(3,.int .i64 d)] S=some (iz 2 [a,b,c,d],S):=by kernel_rfl
theorem QW {b:kS} (h:headB b=true):(encs [b.slot,b.miner,b.variant,b.parent]).length≤40:=by
 have h1:=W9 h
 have:=Jl (l:=[b.slot,b.miner,b.variant,b.parent]) (fun n hn=>by have:=h1 n hn;omega)
 exact this
theorem wM.v {b:kS} (hb:b.Ok) (S:zy):zZ zi O wM.id [bv b] S=some (acr b,S):=by
 obtain ⟨T,hTe⟩:∃ T,T=(bv b::zh::zh::zh::zh::zh::zh::zh::zh::zh::zh::zh::zh::zh::zh::zh::zh::zh::zh::zh::zh::zh::zh::zh::zh::zh::zh::zh::zh::zh::zh::zh::zh::[]):=⟨_,rfl⟩
 have hr:zJ zi O false wM.code T zy.empty=zJ zi O false wM.code T zy.empty:=rfl
 have l0:=XK (yZ b)
 have l1:=XF (yZ b)
 have l2:=XQ (yZ b)
 have l3:=aaW (yZ b)
 have l4:=abm (yZ b) hb.ne
 have lb:=QF (yZ b) hb.ne
 have c1:=fun S=>jF.v hb S
 unfold acr
 cases hR:jX b
 ·
  rw [hR] at c1
  conv at hr =>
   rhs
   rw [hTe]
   simp only [wM.code,wM.rs,zSs,reduceIte,zk,zn,zo,zq,JJ,lb,c1]
  rw [hTe] at hr
  exact wM.runs hr (.inr rfl) rfl rfl (all1 (yN hb.okl.le)) rfl
 ·
  rw [hR] at c1
  have hh:headB b=true∧ZN b.txs=true:=by simpa [jX] using hR
  have few:=W9 hh.1
  have c2:=fun S=>jH.v (l:=[b.slot,b.miner,b.variant,b.parent]) Okl.read (by decide) (fun n hn=>by have:=few n hn;omega) S
  have n2:=JW (k:=0) (l:=[b.slot,b.miner,b.variant,b.parent]) (by simp) (fun n hn=>by have:=few n hn;omega) (by simp)
  have c3:=fun S=>wE.v hb.okl hb.ne (by have:=hb.len;omega) S
  have t3:aii b.txs=.tuple #[by_ 2 (aaE b.txs),.int .i64 0]:=if_pos hh.2
  have ap:∀ S,wR zi 33 33 (by_ 2 (encs [b.slot,b.miner,b.variant,b.parent])) (by_ 1 (aaE b.txs)) S=some (by_ 2 (XB b),S):=fun S=>by
   rw [xG Okl.own (by decide) Okl.read (by have:=QW hh.1;have:=QZ hh.2;omega)];rfl
  conv at hr =>
   rhs
   rw [hTe]
   simp only [wM.code,wM.rs,zSs,reduceIte,zk,zn,zo,zq,JJ,lb,c1,jV,jP,jU,jZ,wo,l0,l1,l2,l3,l4,if_neg hb.ne,bs4,c2,n2,c3,t3,ap]
  rw [hTe] at hr
  exact wM.runs hr (.inr rfl) (by simp only [List.getD_cons_succ,List.getD_cons_zero,wJ,wC,jS,jY,wB]) rfl (all1 (yN hb.okl.le)) (yV (all2 (qH (k:=2) (Nat.le_refl 2)) rfl))
theorem jw.v {b:kS} (hb:b.Ok) (S:zy):zZ zi O jw.id [bv b] S=some (acr b,S):=by
 obtain ⟨T,hTe⟩:∃ T,T=(bv b::zh::zh::zh::zh::zh::zh::zh::zh::zh::zh::zh::zh::zh::zh::zh::zh::zh::zh::zh::zh::zh::zh::zh::zh::zh::zh::zh::zh::zh::zh::zh::zh::[]):=⟨_,rfl⟩
 have hr:zJ zi O false jw.code T zy.empty=zJ zi O false jw.code T zy.empty:=rfl
 have l0:=XK (yZ b)
 have l1:=XF (yZ b)
 have l2:=XQ (yZ b)
 have l3:=aaW (yZ b)
 have l4:=abm (yZ b) hb.ne
 have lb:=QF (yZ b) hb.ne
 have c1:=fun S=>zI.v hb S
 unfold acr
 cases hR:jX b
 ·
  rw [hR] at c1
  conv at hr =>
   rhs
   rw [hTe]
   simp only [jw.code,jw.rs,zSs,reduceIte,zk,zn,zo,zq,JJ,lb,c1]
  rw [hTe] at hr
  exact jw.runs hr (.inr rfl) rfl rfl (all1 (yN hb.okl.le)) rfl
 ·
  rw [hR] at c1
  have hh:headB b=true∧ZN b.txs=true:=by simpa [jX] using hR
  have few:=W9 hh.1
  have c2:=fun S=>zK.v (l:=[b.slot,b.miner,b.variant,b.parent]) Okl.read (by decide) (fun n hn=>by have:=few n hn;omega) S
  have n2:=JW (k:=2) (l:=[b.slot,b.miner,b.variant,b.parent]) (by simp) (fun n hn=>by have:=few n hn;omega) (by simp)
  have c3:=fun S=>zC.v hb.okl hb.ne (by have:=hb.len;omega) S
  have t3:aii b.txs=.tuple #[by_ 2 (aaE b.txs),.int .i64 0]:=if_pos hh.2
  have ap:∀ S,wR zi 33 33 (by_ 2 (encs [b.slot,b.miner,b.variant,b.parent])) (by_ 1 (aaE b.txs)) S=some (by_ 2 (XB b),S):=fun S=>by
   rw [xG Okl.own (by decide) Okl.read (by have:=QW hh.1;have:=QZ hh.2;omega)];rfl
  conv at hr =>
   rhs
   rw [hTe]
   simp only [jw.code,jw.rs,zSs,reduceIte,zk,zn,zo,zq,JJ,lb,c1,jV,jP,jU,jZ,wo,l0,l1,l2,l3,l4,if_neg hb.ne,bs4,c2,n2,c3,t3,ap]
  rw [hTe] at hr
  exact jw.runs hr (.inr rfl) (by simp only [List.getD_cons_succ,List.getD_cons_zero,wJ,wC,jS,jY,wB]) rfl (all1 (yN hb.okl.le)) (yV (all2 (qH (k:=2) (Nat.le_refl 2)) rfl))
end Go.Proofs.Ytfjogganfjkckaa
namespace Go.Proofs.Ytfjogganfjkckaa
open Go.Abs
theorem J9 {α:Type} {f:α→List Value} {e k:Nat} {l:List α} {d:Nat}:okq d (vs f e k l)=true:=by unfold vs sv;cases d <;> split <;> rfl
theorem Vt {R:Type} {a b c d:Int} {k:Nat} {l:List TxV} (r:Option R) (p:Zv r):okK (.agg [Value.int .i64 a,.int .i64 b,.int .i64 c,.int .i64 d,tl k l].toArray) r p=r:=kF (by
 show ([Value.int .i64 a,.int .i64 b,.int .i64 c,.int .i64 d,tl k l].toArray.toList.all (okq 2))=true
 simp only [List.toList_toArray,List.all_cons,List.all_nil,J9,Bool.and_true]
 rfl) r p
theorem aeD (b:kS):∃ k x e,Okl k x∧List.length x≤140∧acr b=.tuple #[by_ k x,.int .i64 e]∧((e=0∧jX b=true∧x=XB b∧k=2)∨(e=71∧jX b=false∧x=[]∧k=0)):=by
 unfold acr
 by_cases h:jX b=true
 ·
  have hh:headB b=true∧ZN b.txs=true:=by simpa [jX] using h
  exact ⟨2,XB b,0,Okl.own,by unfold XB;rw [List.length_append];have:=QW hh.1;have:=QZ hh.2;omega,by rw [if_pos h],.inl ⟨rfl,h,rfl,rfl⟩⟩
 ·
  exact ⟨0,[],71,Okl.none,by simp,by rw [if_neg h];rfl,.inr ⟨rfl,by simpa using h,rfl,rfl⟩⟩
end Go.Proofs.Ytfjogganfjkckaa
namespace Go.Proofs.Ytfjogganfjkckaa
open Go.Abs
abbrev bk0:kS:=⟨0,0,0,0,0,[]⟩
theorem J8 (S:zy):yI zi 46 S=some (.pointer (some ⟨S.next,0,none⟩),S.push (.cells (fBk bk0) (.own []) 0)):=by kernel_rfl
theorem adH (b:kS):(fBk b).all (·.oneCell')=true:=by
 simp only [fBk,List.all_cons,List.all_nil,acX,af9,Bool.and_true]
theorem agm (S:zy) (b:kS):∃ S2,wU zi 46 (.pointer (some ⟨S.next,0,none⟩)) (bv b) (S.push (.cells (fBk bk0) (.own []) 0))=some (zh,S2)∧S2.get S.next=some (.cells (fBk b) (.own []) 0)∧Ext S S2∧S.next < S2.next :=
 YT S (by rw [qL,List.toList_toArray];rfl) xZ rfl (adH b)
theorem XD {S S0:zy} {q:Nat} {u:kS} (b:kS) (hg:S.get q=some (.cells (fBk u) (.own []) 0)) (hE:Ext S0 S) (hq:S0.next≤q):∃ S2,wU zi 46 (.pointer (some ⟨q,0,none⟩)) (bv b) S=some (zh,S2)∧S2.get q=some (.cells (fBk b) (.own []) 0)∧Ext S0 S2∧S2.next=S.next∧∀ k,k≠q→S2.get k=S.get k :=
 abv hg xZ rfl (adH b) (by simp [fBk]) hE hq
theorem VK {x y:kS} {r s:List UInt8} (hx:jX x=true) (hy:jX y=true) (h:XB x++r=XB y++s):(x.slot=y.slot∧x.miner=y.miner∧x.variant=y.variant∧x.parent=y.parent∧x.txs=y.txs)∧r=s:=by
 have h1:headB x=true∧ZN x.txs=true:=by simpa [jX] using hx
 have h2:headB y=true∧ZN y.txs=true:=by simpa [jX] using hy
 have f1:=W9 h1.1
 have f2:=W9 h2.1
 unfold XB at h
 rw [List.append_assoc,List.append_assoc] at h
 obtain ⟨e1,e2⟩:=WR (a:=[x.slot,x.miner,x.variant,x.parent]) (c:=[y.slot,y.miner,y.variant,y.parent]) rfl (fun n hn=>by have:=f1 n hn;unfold Few;omega) (fun n hn=>by have:=f2 n hn;unfold Few;omega) h
 obtain ⟨e3,e4⟩:=ady h1.2 h2.2 e2
 simp only [List.cons.injEq,and_true] at e1
 exact ⟨⟨e1.1,e1.2.1,e1.2.2.1,e1.2.2.2,e3⟩,e4⟩
noncomputable def ag3 (l:List UInt8):Option kS:=rd (fun b=>jX b=true∧b.k=0) XB l
theorem alc {x y:kS} (h:x.slot=y.slot∧x.miner=y.miner∧x.variant=y.variant∧x.parent=y.parent∧x.txs=y.txs) (hk:x.k=y.k):x=y:=by
 cases x;cases y
 simp at h hk
 obtain ⟨rfl,rfl,rfl,rfl,rfl⟩:=h
 rw [hk]
theorem WY (l:List UInt8) (b:kS):ag3 l=some b ↔ (jX b=true∧b.k=0)∧l=XB b :=
 agK (fun x y hx hy h=>alc (VK (r:=[]) (s:=[]) hx.1 hy.1 (by rw [List.append_nil,List.append_nil];exact h)).1 (hx.2.trans hy.2.symm)) l b
theorem Kq {l:List UInt8} (h:∀ b:kS,b.k=0→jX b=true→l≠XB b):ag3 l=none:=by
 cases hr:ag3 l with
 | none=>rfl
 | some b=>obtain ⟨⟨h1,h2⟩,h3⟩:=(WY l b).mp hr;exact absurd h3 (h b h2 h1)
theorem agJ (l:List UInt8):qp 4 l=none∨∃ a b c d r,qp 4 l=some ([a,b,c,d],r)∧r.length≤l.length:=by
 cases h:qp 4 l with
 | none=>exact .inl rfl
 | some ar =>
  obtain ⟨a,r⟩:=ar
  obtain ⟨h1,h2⟩:=WT h
  match a,h1 with
  | [x,y,z,w],_=>exact .inr ⟨x,y,z,w,r,rfl,h2⟩
theorem acu {l r:List UInt8} {b:kS} (hb:jX b=true) (h:l=XB b++r):qp 4 l=some ([b.slot,b.miner,b.variant,b.parent],aaE b.txs++r):=by
 have h1:headB b=true∧ZN b.txs=true:=by simpa [jX] using hb
 have f1:=W9 h1.1
 exact (y7 _ _ _ _).mpr ⟨rfl,by rw [h,XB,List.append_assoc],fun n hn=>by have:=f1 n hn;unfold Few;omega⟩
theorem X9 {l:List UInt8} (h:qp 4 l=none):ag3 l=none:=Kq fun b _ hb hl=>by
 have:=acu (l:=l) (r:=[]) hb (by rw [List.append_nil];exact hl)
 rw [h] at this;cases this
theorem Vb {l r:List UInt8} {a b c d:Int} (h:qp 4 l=some ([a,b,c,d],r)) (h2:Zt r=none):ag3 l=none:=Kq fun x _ hb hl=>by
 have:=acu (l:=l) (r:=[]) hb (by rw [List.append_nil];exact hl)
 rw [h] at this
 simp only [Option.some.injEq,Prod.mk.injEq,List.append_nil] at this
 have h1:headB x=true∧ZN x.txs=true:=by simpa [jX] using hb
 rw [(vg r x.txs).mpr ⟨h1.2,this.2⟩] at h2
 cases h2
theorem aai {l r:List UInt8} {a b c d:Int} {ts:List TxV} (h:qp 4 l=some ([a,b,c,d],r)) (h2:Zt r=some ts):ag3 l=if jX ⟨a,b,c,d,0,ts⟩=true then some ⟨a,b,c,d,0,ts⟩ else none:=by
 obtain ⟨_,g2,_⟩:=(y7 _ _ _ _).mp h
 obtain ⟨t1,t2⟩:=(vg r ts).mp h2
 split
 ·
  rename_i hR
  exact (WY _ _).mpr ⟨⟨hR,rfl⟩,by rw [g2,t2];rfl⟩
 ·
  rename_i hR
  refine Kq fun x _ hb hl=>hR ?_
  have:=acu (l:=l) (r:=[]) hb (by rw [List.append_nil];exact hl)
  rw [h] at this
  simp only [Option.some.injEq,Prod.mk.injEq,List.append_nil,List.cons.injEq,and_true] at this
  have h1:headB x=true∧ZN x.txs=true:=by simpa [jX] using hb
  have h3:=(vg r x.txs).mpr ⟨h1.2,this.2⟩
  rw [h2] at h3
  injection h3 with h3
  obtain ⟨⟨i1,i2,i3,i4⟩,_⟩:=this
  rw [i1,i2,i3,i4,h3]
  exact hb
theorem aaM (a b c d:Int) (k j:Nat) (t:List TxV):jX ⟨a,b,c,d,k,t⟩=jX ⟨a,b,c,d,j,t⟩:=rfl
def aeZ (l:List UInt8) (b:kS) (e:Int):Prop:=b.Ok∧b.txs.length≤3∧((e=0∧ag3 l=some ⟨b.slot,b.miner,b.variant,b.parent,0,b.txs⟩∧jX b=true)∨(e=71∧ag3 l=none∧b=bk0))
theorem ok0:bk0.Ok:=⟨Okl.none,by decide,by simp,by decide⟩
theorem jQ.v {k:Nat} {l:List UInt8} (hk:Okl k l) (k2:k≠2) (hl:l.length≤140737488355328):∃ b e,aeZ l b e∧∀ S,zZ zi O jQ.id [by_ k l] S=some (.tuple #[bv b,.int .i64 e],S):=by
 have a1:=J8 zy.empty
 have g1:(zy.empty.push (.cells (fBk bk0) (.own []) 0)).get 0=some (.cells (fBk bk0) (.own []) 0):=by kernel_rfl
 have n1:(zy.empty.push (.cells (fBk bk0) (.own []) 0)).next=1:=by kernel_rfl
 rw [show zy.empty.next=0 from rfl] at a1
 have hE1:Ext zy.empty (zy.empty.push (.cells (fBk bk0) (.own []) 0)):=Ext.push _ _
 have cl:[by_ k l].all (jW 16)=true:=all1 (qH (k:=k) hk.le)
 obtain ⟨T,hTe⟩:∃ T,T=(by_ k l::zh::zh::zh::zh::zh::zh::zh::zh::zh::zh::zh::zh::zh::zh::zh::zh::zh::zh::zh::zh::zh::zh::zh::zh::zh::zh::zh::zh::zh::zh::zh::zh::zh::zh::zh::zh::zh::zh::zh::zh::zh::zh::zh::zh::zh::[]):=⟨_,rfl⟩
 have hr:zJ zi O false jQ.code T zy.empty=zJ zi O false jQ.code T zy.empty:=rfl
 have c1:=fun S=>zS.v (many:=4) hk k2 hl S
 have r1:∀ k0 k1,Zi k0 k1 4 l=_:=fun k0 k1=>xU (m:=4) (by decide) (by decide)
 rw [r1] at c1
 have z0:∀ S,yA zi 46 [] S=some (bv bk0,S):=fun S=>WG S
 generalize zy.empty.push (.cells (fBk bk0) (.own []) 0)=S1 at a1 g1 n1 hE1
 rcases agJ l with h | ⟨a,b,c,d,r,h,hlr⟩
 ·
  rw [h] at c1
  obtain ⟨S3,q1,q2,q3,q4,q5⟩:=XD bk0 g1 hE1 (Nat.zero_le _)
  refine ⟨bk0,71,⟨ok0,by simp,.inr ⟨rfl,X9 h,rfl⟩⟩,fun S=>?_⟩
  conv at hr =>
   rhs
   rw [hTe]
   simp only [jQ.code,jQ.rs,zSs,reduceIte,zk,zn,zo,zq,if_neg k2,a1,c1,z0,q1]
  rw [hTe] at hr
  exact jQ.runs hr (.inr rfl) (QF q2 (by decide)) rfl rfl cl rfl
 ·
  rw [h] at c1
  have i0:=fun S=>vK (k:=1) (i:=0) (m:=0) (l:=[a,b,c,d]) Okl.read rfl rfl S
  have i1:=fun S=>vK (k:=1) (i:=1) (m:=1) (l:=[a,b,c,d]) Okl.read rfl rfl S
  have i2:=fun S=>vK (k:=1) (i:=2) (m:=2) (l:=[a,b,c,d]) Okl.read rfl rfl S
  have i3:=fun S=>vK (k:=1) (i:=3) (m:=3) (l:=[a,b,c,d]) Okl.read rfl rfl S
  have few:=((y7 _ _ _ _).mp h).2.2
  have fd:d≤4611686018427387904:=(few d (by simp)).2
  obtain ⟨j,t,e,o1,o2,o3,o4⟩:=KY (j:=0) (by decide) r
  have c2:=fun S=>zW.v (k:=1) (l:=r) Okl.read (by decide) (by omega) S
  rw [o3] at c2
  have hok:kS.Ok ⟨a,b,c,d,if j=2 then 1 else j,t⟩:=⟨o1.dem,Ws j,by show t.length * 16≤_;omega,by show d < _;omega⟩
  obtain ⟨S2,p1,p2,p3,p4⟩:=agm S1 ⟨a,b,c,d,if j=2 then 1 else j,t⟩
  have g2:S2.get 0=some (.cells (fBk bk0) (.own []) 0):=by rw [p3.get 0 (by omega),g1]
  have bd:=fun S=>Zx (y0:=.int .i64 a) (y1:=.int .i64 b) (y2:=.int .i64 c) (y3:=.int .i64 d) (y4:=tl (if j=2 then 1 else j) t) yS yS yS yS YU S
  have c3:∀ S,zZ zi O 45 [.agg [Value.int .i64 a,.int .i64 b,.int .i64 c,.int .i64 d,tl (if j=2 then 1 else j) t].toArray] S=some (.bool (jX ⟨a,b,c,d,if j=2 then 1 else j,t⟩),S):=fun S=>jF.v hok S
  have lb:jh zi false 46 (.pointer (some ⟨S1.next,0,none⟩)) S2=some (.agg [Value.int .i64 a,.int .i64 b,.int .i64 c,.int .i64 d,tl (if j=2 then 1 else j) t].toArray,S2):=QF p2 (Ws j)
  rcases o4 with ⟨rfl,hx⟩ | ⟨rfl,hx,rfl⟩
  ·
   cases hR:jX ⟨a,b,c,d,if j=2 then 1 else j,t⟩
   ·
    rw [hR] at c3
    obtain ⟨S3,q1,q2,q3,q4,q5⟩:=XD bk0 g2 (Ext.trans hE1 p3) (Nat.zero_le _)
    refine ⟨bk0,71,⟨ok0,by simp,.inr ⟨rfl,?_,rfl⟩⟩,fun S=>?_⟩
    ·
     rw [aai h hx,if_neg (by rw [aaM a b c d 0 (if j=2 then 1 else j) t,hR];decide)]
    conv at hr =>
     rhs
     rw [hTe]
     simp only [jQ.code,jQ.rs,zSs,reduceIte,zk,zn,zo,zq,if_neg k2,a1,c1,c2,i0,i1,i2,i3,qy,adz,bd,Vt,J8,p1,lb,c3,z0,q1]
    rw [hTe] at hr
    exact jQ.runs hr (.inr rfl) (QF q2 (by decide)) rfl rfl cl rfl
   ·
    rw [hR] at c3
    obtain ⟨S3,q1,q2,q3,q4,q5⟩:=XD ⟨a,b,c,d,if j=2 then 1 else j,t⟩ g2 (Ext.trans hE1 p3) (Nat.zero_le _)
    refine ⟨⟨a,b,c,d,if j=2 then 1 else j,t⟩,0,⟨hok,o2,.inl ⟨rfl,?_,hR⟩⟩,fun S=>?_⟩
    ·
     rw [aai h hx,if_pos (by rw [aaM a b c d 0 (if j=2 then 1 else j) t,hR])]
    conv at hr =>
     rhs
     rw [hTe]
     simp only [jQ.code,jQ.rs,zSs,reduceIte,zk,zn,zo,zq,if_neg k2,a1,c1,c2,i0,i1,i2,i3,qy,adz,bd,Vt,J8,p1,lb,c3,q1]
    rw [hTe] at hr
    exact jQ.runs hr (.inr rfl) (QF q2 (Ws j)) rfl rfl cl (yV (all2 (yN (b:=⟨a,b,c,d,if j=2 then 1 else j,t⟩) hok.okl.le) rfl))
  ·
   obtain ⟨S3,q1,q2,q3,q4,q5⟩:=XD bk0 g2 (Ext.trans hE1 p3) (Nat.zero_le _)
   refine ⟨bk0,71,⟨ok0,by simp,.inr ⟨rfl,Vb h hx,rfl⟩⟩,fun S=>?_⟩
   conv at hr =>
    rhs
    rw [hTe]
    simp only [jQ.code,jQ.rs,zSs,reduceIte,zk,zn,zo,zq,if_neg k2,a1,c1,c2,i0,i1,i2,i3,qy,adz,bd,Vt,J8,p1,z0,q1]
   rw [hTe] at hr
   exact jQ.runs hr (.inr rfl) (QF q2 (by decide)) rfl rfl cl rfl
theorem zU.v {k:Nat} {l:List UInt8} (hk:Okl k l) (k2:k≠2) (hl:l.length≤140737488355328):∃ b e,aeZ l b e∧∀ S,zZ zi O zU.id [by_ k l] S=some (.tuple #[bv b,.int .i64 e],S):=by
 have a1:=J8 zy.empty
 have g1:(zy.empty.push (.cells (fBk bk0) (.own []) 0)).get 0=some (.cells (fBk bk0) (.own []) 0):=by kernel_rfl
 have n1:(zy.empty.push (.cells (fBk bk0) (.own []) 0)).next=1:=by kernel_rfl
 rw [show zy.empty.next=0 from rfl] at a1
 have hE1:Ext zy.empty (zy.empty.push (.cells (fBk bk0) (.own []) 0)):=Ext.push _ _
 have cl:[by_ k l].all (jW 16)=true:=all1 (qH (k:=k) hk.le)
 obtain ⟨T,hTe⟩:∃ T,T=(by_ k l::zh::zh::zh::zh::zh::zh::zh::zh::zh::zh::zh::zh::zh::zh::zh::zh::zh::zh::zh::zh::zh::zh::zh::zh::zh::zh::zh::zh::zh::zh::zh::zh::zh::zh::zh::zh::zh::zh::zh::zh::zh::zh::zh::zh::zh::zh::[]):=⟨_,rfl⟩
 have hr:zJ zi O false zU.code T zy.empty=zJ zi O false zU.code T zy.empty:=rfl
 have c1:=fun S=>zD.v (many:=4) hk k2 hl S
 have r1:∀ k0 k1,Zi k0 k1 4 l=_:=fun k0 k1=>xU (m:=4) (by decide) (by decide)
 rw [r1] at c1
 have z0:∀ S,yA zi 46 [] S=some (bv bk0,S):=fun S=>WG S
 generalize zy.empty.push (.cells (fBk bk0) (.own []) 0)=S1 at a1 g1 n1 hE1
 rcases agJ l with h | ⟨a,b,c,d,r,h,hlr⟩
 ·
  rw [h] at c1
  obtain ⟨S3,q1,q2,q3,q4,q5⟩:=XD bk0 g1 hE1 (Nat.zero_le _)
  refine ⟨bk0,71,⟨ok0,by simp,.inr ⟨rfl,X9 h,rfl⟩⟩,fun S=>?_⟩
  conv at hr =>
   rhs
   rw [hTe]
   simp only [zU.code,zU.rs,zSs,reduceIte,zk,zn,zo,zq,if_neg k2,a1,c1,z0,q1]
  rw [hTe] at hr
  exact zU.runs hr (.inr rfl) (QF q2 (by decide)) rfl rfl cl rfl
 ·
  rw [h] at c1
  have i0:=fun S=>vK (k:=1) (i:=0) (m:=0) (l:=[a,b,c,d]) Okl.read rfl rfl S
  have i1:=fun S=>vK (k:=1) (i:=1) (m:=1) (l:=[a,b,c,d]) Okl.read rfl rfl S
  have i2:=fun S=>vK (k:=1) (i:=2) (m:=2) (l:=[a,b,c,d]) Okl.read rfl rfl S
  have i3:=fun S=>vK (k:=1) (i:=3) (m:=3) (l:=[a,b,c,d]) Okl.read rfl rfl S
  have few:=((y7 _ _ _ _).mp h).2.2
  have fd:d≤4611686018427387904:=(few d (by simp)).2
  obtain ⟨j,t,e,o1,o2,o3,o4⟩:=KY (j:=2) (by decide) r
  have c2:=fun S=>zA.v (k:=1) (l:=r) Okl.read (by decide) (by omega) S
  rw [o3] at c2
  have hok:kS.Ok ⟨a,b,c,d,if j=2 then 1 else j,t⟩:=⟨o1.dem,Ws j,by show t.length * 16≤_;omega,by show d < _;omega⟩
  obtain ⟨S2,p1,p2,p3,p4⟩:=agm S1 ⟨a,b,c,d,if j=2 then 1 else j,t⟩
  have g2:S2.get 0=some (.cells (fBk bk0) (.own []) 0):=by rw [p3.get 0 (by omega),g1]
  have bd:=fun S=>Zx (y0:=.int .i64 a) (y1:=.int .i64 b) (y2:=.int .i64 c) (y3:=.int .i64 d) (y4:=tl (if j=2 then 1 else j) t) yS yS yS yS YU S
  have c3:∀ S,zZ zi O 32 [.agg [Value.int .i64 a,.int .i64 b,.int .i64 c,.int .i64 d,tl (if j=2 then 1 else j) t].toArray] S=some (.bool (jX ⟨a,b,c,d,if j=2 then 1 else j,t⟩),S):=fun S=>zI.v hok S
  have lb:jh zi false 46 (.pointer (some ⟨S1.next,0,none⟩)) S2=some (.agg [Value.int .i64 a,.int .i64 b,.int .i64 c,.int .i64 d,tl (if j=2 then 1 else j) t].toArray,S2):=QF p2 (Ws j)
  rcases o4 with ⟨rfl,hx⟩ | ⟨rfl,hx,rfl⟩
  ·
   cases hR:jX ⟨a,b,c,d,if j=2 then 1 else j,t⟩
   ·
    rw [hR] at c3
    obtain ⟨S3,q1,q2,q3,q4,q5⟩:=XD bk0 g2 (Ext.trans hE1 p3) (Nat.zero_le _)
    refine ⟨bk0,71,⟨ok0,by simp,.inr ⟨rfl,?_,rfl⟩⟩,fun S=>?_⟩
    ·
     rw [aai h hx,if_neg (by rw [aaM a b c d 0 (if j=2 then 1 else j) t,hR];decide)]
    conv at hr =>
     rhs
     rw [hTe]
     simp only [zU.code,zU.rs,zSs,reduceIte,zk,zn,zo,zq,if_neg k2,a1,c1,c2,i0,i1,i2,i3,qy,adz,bd,Vt,J8,p1,lb,c3,z0,q1]
    rw [hTe] at hr
    exact zU.runs hr (.inr rfl) (QF q2 (by decide)) rfl rfl cl rfl
   ·
    rw [hR] at c3
    obtain ⟨S3,q1,q2,q3,q4,q5⟩:=XD ⟨a,b,c,d,if j=2 then 1 else j,t⟩ g2 (Ext.trans hE1 p3) (Nat.zero_le _)
    refine ⟨⟨a,b,c,d,if j=2 then 1 else j,t⟩,0,⟨hok,o2,.inl ⟨rfl,?_,hR⟩⟩,fun S=>?_⟩
    ·
     rw [aai h hx,if_pos (by rw [aaM a b c d 0 (if j=2 then 1 else j) t,hR])]
    conv at hr =>
     rhs
     rw [hTe]
     simp only [zU.code,zU.rs,zSs,reduceIte,zk,zn,zo,zq,if_neg k2,a1,c1,c2,i0,i1,i2,i3,qy,adz,bd,Vt,J8,p1,lb,c3,q1]
    rw [hTe] at hr
    exact zU.runs hr (.inr rfl) (QF q2 (Ws j)) rfl rfl cl (yV (all2 (yN (b:=⟨a,b,c,d,if j=2 then 1 else j,t⟩) hok.okl.le) rfl))
  ·
   obtain ⟨S3,q1,q2,q3,q4,q5⟩:=XD bk0 g2 (Ext.trans hE1 p3) (Nat.zero_le _)
   refine ⟨bk0,71,⟨ok0,by simp,.inr ⟨rfl,Vb h hx,rfl⟩⟩,fun S=>?_⟩
   conv at hr =>
    rhs
    rw [hTe]
    simp only [zU.code,zU.rs,zSs,reduceIte,zk,zn,zo,zq,if_neg k2,a1,c1,c2,i0,i1,i2,i3,qy,adz,bd,Vt,J8,p1,z0,q1]
   rw [hTe] at hr
   exact zU.runs hr (.inr rfl) (QF q2 (by decide)) rfl rfl cl rfl
end Go.Proofs.Ytfjogganfjkckaa
namespace Go.Proofs.Ytfjogganfjkckaa
open Go.Abs
structure yg where
 kind:Int
 frm:Int
 index:Int
 view:Int
 value:Int
 prep:Int
 tx:TxV
 b:kS
def fM (m:yg):List Value:=[.int .i64 m.kind,.int .i64 m.frm,.int .i64 m.index,.int .i64 m.view,.int .i64 m.value,.int .i64 m.prep,.int .i64 m.tx.id,.int .i64 m.tx.fee,.int .i64 m.b.slot,.int .i64 m.b.miner,.int .i64 m.b.variant,.int .i64 m.b.parent,tl m.b.k m.b.txs]
abbrev mv (m:yg):Value:=.agg [Value.int .i64 m.kind,.int .i64 m.frm,.int .i64 m.index,.int .i64 m.view,.int .i64 m.value,.int .i64 m.prep,.int .i64 m.tx.id,.int .i64 m.tx.fee,.int .i64 m.b.slot,.int .i64 m.b.miner,.int .i64 m.b.variant,.int .i64 m.b.parent,tl m.b.k m.b.txs].toArray
def Big (n:Int):Prop:=-9223372036854775808≤n∧n < 9223372036854775808
structure yg.Ok (m:yg):Prop where
 b:m.b.Ok
 tx:m.tx.Ok
 kind:Big m.kind
 frm:Big m.frm
 index:Big m.index
 view:Big m.view
 value:Big m.value
 prep:Big m.prep
abbrev m0:yg:=⟨0,0,0,0,0,0,⟨0,0⟩,bk0⟩
theorem mk_eq {x y:yg} (h1:x.kind=y.kind) (h2:x.frm=y.frm) (h3:x.index=y.index) (h4:x.view=y.view) (h5:x.value=y.value) (h6:x.prep=y.prep) (h7:x.tx=y.tx) (h8:x.b=y.b):x=y:=by
 cases x;cases y;simp_all
theorem yM {m:yg} {d:Nat} (h:m.b.k≤2):jW (d+6) (mv m)=true:=by
 have h1:jW (d+5) (tl m.b.k m.b.txs)=true:=Jo (d:=d+1) h fun _ _=>rfl
 refine aby ?_
 simp only [List.all_cons,List.all_nil,h1,Bool.and_true]
 rfl
theorem aki (m:yg):(fM m).all (·.oneCell')=true:=by
 simp only [fM,List.all_cons,List.all_nil,acX,af9,Bool.and_true]
section
variable {S:zy} {q e:Nat} {m:yg} {own:Own}
theorem wS (h:S.get q=some (.cells (fM m) own e)):jh zi false 3 (.pointer (some ⟨q,0+0,none⟩)) S=some (.int .i64 m.kind,S):=qK (t:=3) (o:=0+0) h ZX rfl
theorem yK (h:S.get q=some (.cells (fM m) own e)):jh zi false 3 (.pointer (some ⟨q,0+1,none⟩)) S=some (.int .i64 m.frm,S):=qK (t:=3) (o:=0+1) h ZX rfl
theorem yO (h:S.get q=some (.cells (fM m) own e)):jh zi false 3 (.pointer (some ⟨q,0+2,none⟩)) S=some (.int .i64 m.index,S):=qK (t:=3) (o:=0+2) h ZX rfl
theorem yX (h:S.get q=some (.cells (fM m) own e)):jh zi false 3 (.pointer (some ⟨q,0+3,none⟩)) S=some (.int .i64 m.view,S):=qK (t:=3) (o:=0+3) h ZX rfl
theorem yD (h:S.get q=some (.cells (fM m) own e)):jh zi false 3 (.pointer (some ⟨q,0+4,none⟩)) S=some (.int .i64 m.value,S):=qK (t:=3) (o:=0+4) h ZX rfl
theorem qh (h:S.get q=some (.cells (fM m) own e)):jh zi false 3 (.pointer (some ⟨q,0+5,none⟩)) S=some (.int .i64 m.prep,S):=qK (t:=3) (o:=0+5) h ZX rfl
theorem qm (h:S.get q=some (.cells (fM m) own e)):jh zi false 43 (.pointer (some ⟨q,0+6,none⟩)) S=some (tv m.tx,S):=(Y8 (o:=0+6) h aaC ZY (by simp [fM])).trans (by simp [fM,Zr])
theorem yY (h:S.get q=some (.cells (fM m) own e)) (hk:m.b.k≠2):jh zi false 46 (.pointer (some ⟨q,0+8,none⟩)) S=some (bv m.b,S):=by
 rw [Y8 (o:=0+8) h Yy xZ (by simp [fM])]
 simp [fM,Zr,acM,hk]
theorem xI (h:S.get q=some (.cells (fM m) own e)) (hk:m.b.k≠2):jh zi false 48 (.pointer (some ⟨q,0,none⟩)) S=some (mv m,S):=by
 rw [aeh h]
 simp only [Zr,acM,if_neg hk]
end
abbrev YN (m:yg):zy:=zy.empty.push (.cells (fM m) (.own []) 0)
theorem Zc (m:yg):J3 (mv m) zy.empty=some (.pointer (some ⟨0,0,none⟩),YN m):=rfl
theorem xP (m:yg):(YN m).get 0=some (.cells (fM m) (.own []) 0):=rfl
abbrev Ql (a b:yg):zy:=(YN a).push (.cells (fM b) (.own []) 0)
theorem abK (a b:yg):J3 (mv b) (YN a)=some (.pointer (some ⟨1,0,none⟩),Ql a b):=by kernel_rfl
theorem acQ (a b:yg):(Ql a b).get 0=some (.cells (fM a) (.own []) 0):=by kernel_rfl
theorem acI (a b:yg):(Ql a b).get 1=some (.cells (fM b) (.own []) 0):=by kernel_rfl
theorem Xz (S:zy):yI zi 48 S=some (.pointer (some ⟨S.next,0,none⟩),S.push (.cells (fM m0) (.own []) 0)):=by kernel_rfl
def ZB (a b:yg):Bool:=decide (a.kind=b.kind) && (decide (a.frm=b.frm) && (decide (a.index=b.index) && (decide (a.view=b.view) && (decide (a.value=b.value) && (decide (a.prep=b.prep) && (decide (a.tx=b.tx) && kN a.b b.b))))))
theorem yc.v {a b:yg} (ha:a.Ok) (hb:b.Ok) (S:zy):zZ zi O yc.id [mv a,mv b] S=some (.bool (ZB a b),S):=by
 obtain ⟨T,hTe⟩:∃ T,T=(mv a::mv b::zh::zh::zh::zh::zh::zh::zh::zh::zh::zh::zh::zh::zh::zh::zh::zh::zh::zh::zh::zh::zh::zh::zh::zh::zh::zh::zh::zh::zh::zh::zh::zh::zh::zh::zh::zh::zh::zh::zh::zh::zh::zh::zh::zh::zh::zh::zh::zh::zh::zh::zh::zh::zh::zh::zh::zh::zh::zh::zh::[]):=⟨_,rfl⟩
 have hr:zJ zi O false yc.code T zy.empty=zJ zi O false yc.code T zy.empty:=rfl
 have g0:=acQ a b
 have g1:=acI a b
 have c1:=fun S=>wY.v ha.b hb.b S
 have e1:=fun S=>(ahm a.tx b.tx S).1
 have hc:[mv a,mv b].all (jW 16)=true:=all2 (yM ha.b.okl.le) (yM hb.b.okl.le)
 unfold ZB
 by_cases h1:a.kind=b.kind
 ·
  by_cases h2:a.frm=b.frm
  ·
   by_cases h3:a.index=b.index
   ·
    by_cases h4:a.view=b.view
    ·
     by_cases h5:a.value=b.value
     ·
      by_cases h6:a.prep=b.prep
      ·
       by_cases h7:a.tx=b.tx
       ·
        rw [decide_eq_true h1,decide_eq_true h2,decide_eq_true h3,decide_eq_true h4,decide_eq_true h5,decide_eq_true h6,decide_eq_true h7]
        simp only [Bool.true_and]
        conv at hr =>
         rhs
         rw [hTe]
         simp only [yc.code,yc.rs,zSs,reduceIte,zk,zn,zo,zq,Zc,abK,zO,je,ji,jk,zY,jm,jl,jd,wS g0,wS g1,yK g0,yK g1,yO g0,yO g1,yX g0,yX g1,yD g0,yD g1,qh g0,qh g1,qm g0,qm g1,yY g0 ha.b.ne,yY g1 hb.b.ne,decide_eq_true h1,decide_eq_true h2,decide_eq_true h3,decide_eq_true h4,decide_eq_true h5,decide_eq_true h6,decide_eq_true h7,e1,c1]
        rw [hTe] at hr
        exact yc.runs hr (.inr rfl) hc rfl
       ·
        rw [decide_eq_false h7]
        simp only [Bool.false_and,Bool.and_false]
        conv at hr =>
         rhs
         rw [hTe]
         simp only [yc.code,yc.rs,zSs,reduceIte,zk,zn,zo,zq,Zc,abK,zO,je,ji,jk,zY,jm,jl,wS g0,wS g1,yK g0,yK g1,yO g0,yO g1,yX g0,yX g1,yD g0,yD g1,qh g0,qh g1,qm g0,qm g1,decide_eq_true h1,decide_eq_true h2,decide_eq_true h3,decide_eq_true h4,decide_eq_true h5,decide_eq_true h6,decide_eq_false h7,e1]
        rw [hTe] at hr
        exact yc.runs hr (.inr rfl) hc rfl
      ·
       rw [decide_eq_false h6]
       simp only [Bool.false_and,Bool.and_false]
       conv at hr =>
        rhs
        rw [hTe]
        simp only [yc.code,yc.rs,zSs,reduceIte,zk,zn,zo,zq,Zc,abK,zO,je,ji,jk,zY,jm,wS g0,wS g1,yK g0,yK g1,yO g0,yO g1,yX g0,yX g1,yD g0,yD g1,qh g0,qh g1,decide_eq_true h1,decide_eq_true h2,decide_eq_true h3,decide_eq_true h4,decide_eq_true h5,decide_eq_false h6]
       rw [hTe] at hr
       exact yc.runs hr (.inr rfl) hc rfl
     ·
      rw [decide_eq_false h5]
      simp only [Bool.false_and,Bool.and_false]
      conv at hr =>
       rhs
       rw [hTe]
       simp only [yc.code,yc.rs,zSs,reduceIte,zk,zn,zo,zq,Zc,abK,zO,je,ji,jk,zY,wS g0,wS g1,yK g0,yK g1,yO g0,yO g1,yX g0,yX g1,yD g0,yD g1,decide_eq_true h1,decide_eq_true h2,decide_eq_true h3,decide_eq_true h4,decide_eq_false h5]
      rw [hTe] at hr
      exact yc.runs hr (.inr rfl) hc rfl
    ·
     rw [decide_eq_false h4]
     simp only [Bool.false_and,Bool.and_false]
     conv at hr =>
      rhs
      rw [hTe]
      simp only [yc.code,yc.rs,zSs,reduceIte,zk,zn,zo,zq,Zc,abK,zO,je,ji,jk,wS g0,wS g1,yK g0,yK g1,yO g0,yO g1,yX g0,yX g1,decide_eq_true h1,decide_eq_true h2,decide_eq_true h3,decide_eq_false h4]
     rw [hTe] at hr
     exact yc.runs hr (.inr rfl) hc rfl
   ·
    rw [decide_eq_false h3]
    simp only [Bool.false_and,Bool.and_false]
    conv at hr =>
     rhs
     rw [hTe]
     simp only [yc.code,yc.rs,zSs,reduceIte,zk,zn,zo,zq,Zc,abK,zO,je,ji,wS g0,wS g1,yK g0,yK g1,yO g0,yO g1,decide_eq_true h1,decide_eq_true h2,decide_eq_false h3]
    rw [hTe] at hr
    exact yc.runs hr (.inr rfl) hc rfl
  ·
   rw [decide_eq_false h2]
   simp only [Bool.false_and,Bool.and_false]
   conv at hr =>
    rhs
    rw [hTe]
    simp only [yc.code,yc.rs,zSs,reduceIte,zk,zn,zo,zq,Zc,abK,zO,je,wS g0,wS g1,yK g0,yK g1,decide_eq_true h1,decide_eq_false h2]
   rw [hTe] at hr
   exact yc.runs hr (.inr rfl) hc rfl
 ·
  rw [decide_eq_false h1]
  simp only [Bool.false_and]
  conv at hr =>
   rhs
   rw [hTe]
   simp only [yc.code,yc.rs,zSs,reduceIte,zk,zn,zo,zq,Zc,abK,zO,wS g0,wS g1,decide_eq_false h1]
  rw [hTe] at hr
  exact yc.runs hr (.inr rfl) hc rfl
end Go.Proofs.Ytfjogganfjkckaa
namespace Go.Proofs.Ytfjogganfjkckaa
open Go.Abs
def Y4 (m:yg):Bool:=decide (m.kind=4) || decide (m.kind=5)
def kK (m:yg):Bool:=decide (m.value=0) || decide (0 < YS m.value) || (Y4 m && decide (m.value=-1))
theorem wH.v {m:yg} (hm:m.Ok) (S:zy):zZ zi O wH.id [mv m] S=some (.bool (kK m),S):=by
 obtain ⟨T,hTe⟩:∃ T,T=(mv m::zh::zh::zh::zh::zh::zh::zh::zh::zh::zh::zh::zh::zh::zh::zh::zh::zh::zh::zh::zh::zh::zh::zh::zh::zh::zh::zh::zh::[]):=⟨_,rfl⟩
 have hr:zJ zi O false wH.code T zy.empty=zJ zi O false wH.code T zy.empty:=rfl
 have g0:=xP m
 have c1:=fun S=>yu.v m.value S
 have hc:[mv m].all (jW 16)=true:=all1 (yM hm.b.okl.le)
 by_cases k4:m.kind=4
 ·
  have hvote:Y4 m=true:=by simp [Y4,k4]
  by_cases v0:m.value=0
  ·
   rw [show kK m=true from by simp [kK,v0]]
   conv at hr =>
    rhs
    rw [hTe]
    simp only [wH.code,wH.rs,zSs,reduceIte,zk,zn,zo,zq,Zc,zO,zY,wS g0,yD g0,decide_eq_true k4,decide_eq_true v0]
   rw [hTe] at hr
   exact wH.runs hr (.inr rfl) hc rfl
  by_cases v1:0 < YS m.value
  ·
   rw [show kK m=true from by simp [kK,v1]]
   conv at hr =>
    rhs
    rw [hTe]
    simp only [wH.code,wH.rs,zSs,reduceIte,zk,zn,zo,zq,Zc,zO,zY,wS g0,yD g0,decide_eq_true k4,decide_eq_false v0,c1,decide_eq_true v1]
   rw [hTe] at hr
   exact wH.runs hr (.inr rfl) hc rfl
  by_cases v2:m.value=-1
  ·
   rw [show kK m=true from by simp [kK,v2,hvote]]
   conv at hr =>
    rhs
    rw [hTe]
    simp only [wH.code,wH.rs,zSs,reduceIte,zk,zn,zo,zq,Zc,zO,zY,wS g0,yD g0,decide_eq_true k4,decide_eq_false v0,c1,decide_eq_false v1,decide_eq_true v2]
   rw [hTe] at hr
   exact wH.runs hr (.inr rfl) hc rfl
  rw [show kK m=false from by simp [kK,v0,v1,v2]]
  conv at hr =>
   rhs
   rw [hTe]
   simp only [wH.code,wH.rs,zSs,reduceIte,zk,zn,zo,zq,Zc,zO,zY,wS g0,yD g0,decide_eq_true k4,decide_eq_false v0,c1,decide_eq_false v1,decide_eq_false v2]
  rw [hTe] at hr
  exact wH.runs hr (.inr rfl) hc rfl
 by_cases k5:m.kind=5
 ·
  have hvote:Y4 m=true:=by simp [Y4,k5]
  by_cases v0:m.value=0
  ·
   rw [show kK m=true from by simp [kK,v0]]
   conv at hr =>
    rhs
    rw [hTe]
    simp only [wH.code,wH.rs,zSs,reduceIte,zk,zn,zo,zq,Zc,zO,zY,wS g0,yD g0,decide_eq_false k4,decide_eq_true k5,decide_eq_true v0]
   rw [hTe] at hr
   exact wH.runs hr (.inr rfl) hc rfl
  by_cases v1:0 < YS m.value
  ·
   rw [show kK m=true from by simp [kK,v1]]
   conv at hr =>
    rhs
    rw [hTe]
    simp only [wH.code,wH.rs,zSs,reduceIte,zk,zn,zo,zq,Zc,zO,zY,wS g0,yD g0,decide_eq_false k4,decide_eq_true k5,decide_eq_false v0,c1,decide_eq_true v1]
   rw [hTe] at hr
   exact wH.runs hr (.inr rfl) hc rfl
  by_cases v2:m.value=-1
  ·
   rw [show kK m=true from by simp [kK,v2,hvote]]
   conv at hr =>
    rhs
    rw [hTe]
    simp only [wH.code,wH.rs,zSs,reduceIte,zk,zn,zo,zq,Zc,zO,zY,wS g0,yD g0,decide_eq_false k4,decide_eq_true k5,decide_eq_false v0,c1,decide_eq_false v1,decide_eq_true v2]
   rw [hTe] at hr
   exact wH.runs hr (.inr rfl) hc rfl
  rw [show kK m=false from by simp [kK,v0,v1,v2]]
  conv at hr =>
   rhs
   rw [hTe]
   simp only [wH.code,wH.rs,zSs,reduceIte,zk,zn,zo,zq,Zc,zO,zY,wS g0,yD g0,decide_eq_false k4,decide_eq_true k5,decide_eq_false v0,c1,decide_eq_false v1,decide_eq_false v2]
  rw [hTe] at hr
  exact wH.runs hr (.inr rfl) hc rfl
 have hvote:Y4 m=false:=by simp [Y4,k4,k5]
 by_cases v0:m.value=0
 ·
  rw [show kK m=true from by simp [kK,v0]]
  conv at hr =>
   rhs
   rw [hTe]
   simp only [wH.code,wH.rs,zSs,reduceIte,zk,zn,zo,zq,Zc,zO,zY,wS g0,yD g0,decide_eq_false k4,decide_eq_false k5,decide_eq_true v0]
  rw [hTe] at hr
  exact wH.runs hr (.inr rfl) hc rfl
 by_cases v1:0 < YS m.value
 ·
  rw [show kK m=true from by simp [kK,v1]]
  conv at hr =>
   rhs
   rw [hTe]
   simp only [wH.code,wH.rs,zSs,reduceIte,zk,zn,zo,zq,Zc,zO,zY,wS g0,yD g0,decide_eq_false k4,decide_eq_false k5,decide_eq_false v0,c1,decide_eq_true v1]
  rw [hTe] at hr
  exact wH.runs hr (.inr rfl) hc rfl
 rw [show kK m=false from by simp [kK,v0,v1,hvote]]
 conv at hr =>
  rhs
  rw [hTe]
  simp only [wH.code,wH.rs,zSs,reduceIte,zk,zn,zo,zq,Zc,zO,zY,wS g0,yD g0,decide_eq_false k4,decide_eq_false k5,decide_eq_false v0,c1,decide_eq_false v1]
 rw [hTe] at hr
 exact wH.runs hr (.inr rfl) hc rfl
def qj (m:yg):yg :=
 if m.kind=0 then ⟨m.kind,m.frm,0,0,0,0,m.tx,bk0⟩
 else if m.kind=1 then ⟨m.kind,m.frm,0,0,0,0,⟨0,0⟩,m.b⟩
 else if m.kind=2 then ⟨m.kind,m.frm,0,0,m.value,0,⟨0,0⟩,bk0⟩
 else if m.kind=3 then ⟨m.kind,m.frm,m.index,m.view,m.value,m.prep,⟨0,0⟩,bk0⟩
 else if m.kind=4 then ⟨m.kind,m.frm,m.index,m.view,m.value,0,⟨0,0⟩,bk0⟩
 else if m.kind=5 then ⟨m.kind,m.frm,m.index,m.view,m.value,0,⟨0,0⟩,bk0⟩
 else ⟨m.kind,m.frm,m.index,0,m.value,0,⟨0,0⟩,bk0⟩
abbrev kG (S:zy) (q:Nat) (x:yg):zy:=(S.kills []).set q (.cells (fM x) (.own []) 0)
theorem wQ (S:zy) (q:Nat) (x:yg):(kG S q x).get q=some (.cells (fM x) (.own []) 0):=by rw [zy.qC,if_pos rfl]
theorem yG {S:zy} {q k:Nat} {x:yg} (h:k≠q):(kG S q x).get k=S.get k:=by rw [zy.qC,if_neg h];rfl
theorem WW {S:zy} {q k o:Nat} {x y:yg} (h:S.get k=some (.cells (fM y) (.own []) 0)) (hk:k≠q):qN (.pointer (some ⟨k,o,none⟩)) S (kG S q x)=true:=by
 have hl:(kG S q x).log=q::S.log:=rfl
 simp only [qN,h,hl,List.length_cons,Nat.add_sub_cancel_left,List.take_succ_cons,List.take_zero]
 simp [hk]
section
variable {S:zy} {q:Nat} {x:yg}
theorem Qd (h:S.get q=some (.cells (fM x) (.own []) 0)) (y:yg):wU zi 48 (.pointer (some ⟨q,0,none⟩)) (mv y) S=some (zh,kG S q y):=by
 rw [Zk (x:=mv y) (n:=13) h Xf (by rw [qL];rfl) (by rw [qL,List.toList_toArray];exact aki y) (by simp [fM]),qL,List.toList_toArray];rfl
theorem ah7 (h:S.get q=some (.cells (fM x) (.own []) 0)) (v:Int):wU zi 3 (.pointer (some ⟨q,0+2,none⟩)) (.int .i64 v) S=some (zh,kG S q { x with index:=v }):=by
 rw [Zk (n:=1) h aed rfl rfl (by simp [fM])];rfl
theorem ajz (h:S.get q=some (.cells (fM x) (.own []) 0)) (v:Int):wU zi 3 (.pointer (some ⟨q,0+3,none⟩)) (.int .i64 v) S=some (zh,kG S q { x with view:=v }):=by
 rw [Zk (n:=1) h aed rfl rfl (by simp [fM])];rfl
theorem afp (h:S.get q=some (.cells (fM x) (.own []) 0)) (v:Int):wU zi 3 (.pointer (some ⟨q,0+4,none⟩)) (.int .i64 v) S=some (zh,kG S q { x with value:=v }):=by
 rw [Zk (n:=1) h aed rfl rfl (by simp [fM])];rfl
theorem ale (h:S.get q=some (.cells (fM x) (.own []) 0)) (v:Int):wU zi 3 (.pointer (some ⟨q,0+5,none⟩)) (.int .i64 v) S=some (zh,kG S q { x with prep:=v }):=by
 rw [Zk (n:=1) h aed rfl rfl (by simp [fM])];rfl
theorem ajw (h:S.get q=some (.cells (fM x) (.own []) 0)) (t:TxV):wU zi 43 (.pointer (some ⟨q,0+6,none⟩)) (tv t) S=some (zh,kG S q { x with tx:=t }):=by
 rw [Zk (n:=2) h ZY rfl rfl (by simp [fM])];rfl
theorem aj3 (h:S.get q=some (.cells (fM x) (.own []) 0)) (b:kS):wU zi 46 (.pointer (some ⟨q,0+8,none⟩)) (bv b) S=some (zh,kG S q { x with b:=b }):=by
 rw [Zk (x:=bv b) (n:=5) h xZ (by rw [qL];rfl) (by rw [qL,List.toList_toArray];exact adH b) (by simp [fM]),qL,List.toList_toArray];rfl
end
theorem jr.v0 {m:yg} (hm:m.Ok) (hk:m.kind=0) (S:zy):zZ zi O jr.id [mv m] S=some (mv (qj m),S):=by
 obtain ⟨T,hTe⟩:∃ T,T=(mv m::zh::zh::zh::zh::zh::zh::zh::zh::zh::zh::zh::zh::zh::zh::zh::zh::zh::zh::zh::zh::zh::zh::zh::zh::zh::zh::zh::zh::zh::zh::zh::zh::zh::zh::zh::zh::zh::zh::zh::zh::zh::zh::zh::zh::zh::[]):=⟨_,rfl⟩
 have hr:zJ zi O false jr.code T zy.empty=zJ zi O false jr.code T zy.empty:=rfl
 obtain ⟨A1,hA1⟩:∃ A,A=(YN m).push (.cells (fM m0) (.own []) 0):=⟨_,rfl⟩
 have a1:yI zi 48 (YN m)=some (.pointer (some ⟨1,0,none⟩),A1):=by rw [hA1];exact Xz _
 have p0:A1.get 0=some (.cells (fM m) (.own []) 0):=by rw [hA1];kernel_rfl
 obtain ⟨A2,hA2⟩:∃ A,A=A1.push (.cells (fM m0) (.own []) 0):=⟨_,rfl⟩
 have a2:yI zi 48 A1=some (.pointer (some ⟨2,0,none⟩),A2):=by rw [hA2,hA1];exact Xz _
 have q0:A2.get 0=some (.cells (fM m) (.own []) 0):=by rw [hA2,hA1];kernel_rfl
 have q1:A2.get 1=some (.cells (fM m0) (.own []) 0):=by rw [hA2,hA1];kernel_rfl
 have q2:A2.get 2=some (.cells (fM m0) (.own []) 0):=by rw [hA2,hA1];kernel_rfl
 have s0:wU zi 48 (.pointer (some ⟨2,0,none⟩)) (.agg [Value.int .i64 m.kind,.int .i64 m.frm,.int .i64 0,.int .i64 0,.int .i64 0,.int .i64 0,.int .i64 0,.int .i64 0,.int .i64 0,.int .i64 0,.int .i64 0,.int .i64 0,.slice none 0 0].toArray) A2=some (zh,kG A2 2 (⟨m.kind,m.frm,0,0,0,0,⟨0,0⟩,bk0⟩:yg)):=Qd q2 (⟨m.kind,m.frm,0,0,0,0,⟨0,0⟩,bk0⟩:yg)
 have b0:(kG A2 2 (⟨m.kind,m.frm,0,0,0,0,⟨0,0⟩,bk0⟩:yg)).get 0=some (.cells (fM m) (.own []) 0):=(yG (by decide)).trans q0
 have b1:(kG A2 2 (⟨m.kind,m.frm,0,0,0,0,⟨0,0⟩,bk0⟩:yg)).get 1=some (.cells (fM m0) (.own []) 0):=(yG (by decide)).trans q1
 have b2:=wQ A2 2 (⟨m.kind,m.frm,0,0,0,0,⟨0,0⟩,bk0⟩:yg)
 generalize hB0:kG A2 2 (⟨m.kind,m.frm,0,0,0,0,⟨0,0⟩,bk0⟩:yg)=B0 at s0 b0 b1 b2
 have s1:=ajw b2 m.tx
 have c1_0:(kG B0 2 (⟨m.kind,m.frm,0,0,0,0,m.tx,bk0⟩:yg)).get 0=some (.cells (fM m) (.own []) 0):=(yG (by decide)).trans b0
 have c1_1:(kG B0 2 (⟨m.kind,m.frm,0,0,0,0,m.tx,bk0⟩:yg)).get 1=some (.cells (fM m0) (.own []) 0):=(yG (by decide)).trans b1
 have c1_2:=wQ B0 2 (⟨m.kind,m.frm,0,0,0,0,m.tx,bk0⟩:yg)
 dsimp only at s1
 generalize hB1:kG B0 2 (⟨m.kind,m.frm,0,0,0,0,m.tx,bk0⟩:yg)=B1 at s1  c1_0 c1_1 c1_2
 have eb:(⟨m.kind,m.frm,0,0,0,0,m.tx,bk0⟩:yg)=qj m:=by simp [qj,hk]
 rw [eb] at c1_2
 have hbk:(qj m).b.k≠2:=by simp [qj,hk]
 have ld:=xI c1_2 hbk
 have sl:=Qd c1_1 (qj m)
 have fin:=xI (wQ B1 1 (qj m)) hbk
 have hcb:(qj m).b.k≤2:=by simp [qj,hk]
 conv at hr =>
  rhs
  rw [hTe]
  simp only [jr.code,jr.rs,zSs,reduceIte,zk,zn,zo,zq,Zc,a1,a2,zO,je,wS p0,yK p0,kX (y0:=.int .i64 m.kind) (y1:=.int .i64 m.frm) rfl rfl,s0,wS b0,jl,s1,qm b0,decide_eq_true hk,Jf,ld,sl]
 rw [hTe] at hr
 exact jr.runs hr (.inr rfl) fin (all1 (yM hm.b.okl.le)) (yM hcb)
theorem jr.v1 {m:yg} (hm:m.Ok) (hk:m.kind=1) (S:zy):zZ zi O jr.id [mv m] S=some (mv (qj m),S):=by
 obtain ⟨T,hTe⟩:∃ T,T=(mv m::zh::zh::zh::zh::zh::zh::zh::zh::zh::zh::zh::zh::zh::zh::zh::zh::zh::zh::zh::zh::zh::zh::zh::zh::zh::zh::zh::zh::zh::zh::zh::zh::zh::zh::zh::zh::zh::zh::zh::zh::zh::zh::zh::zh::zh::[]):=⟨_,rfl⟩
 have hr:zJ zi O false jr.code T zy.empty=zJ zi O false jr.code T zy.empty:=rfl
 obtain ⟨A1,hA1⟩:∃ A,A=(YN m).push (.cells (fM m0) (.own []) 0):=⟨_,rfl⟩
 have a1:yI zi 48 (YN m)=some (.pointer (some ⟨1,0,none⟩),A1):=by rw [hA1];exact Xz _
 have p0:A1.get 0=some (.cells (fM m) (.own []) 0):=by rw [hA1];kernel_rfl
 obtain ⟨A2,hA2⟩:∃ A,A=A1.push (.cells (fM m0) (.own []) 0):=⟨_,rfl⟩
 have a2:yI zi 48 A1=some (.pointer (some ⟨2,0,none⟩),A2):=by rw [hA2,hA1];exact Xz _
 have q0:A2.get 0=some (.cells (fM m) (.own []) 0):=by rw [hA2,hA1];kernel_rfl
 have q1:A2.get 1=some (.cells (fM m0) (.own []) 0):=by rw [hA2,hA1];kernel_rfl
 have q2:A2.get 2=some (.cells (fM m0) (.own []) 0):=by rw [hA2,hA1];kernel_rfl
 have s0:wU zi 48 (.pointer (some ⟨2,0,none⟩)) (.agg [Value.int .i64 m.kind,.int .i64 m.frm,.int .i64 0,.int .i64 0,.int .i64 0,.int .i64 0,.int .i64 0,.int .i64 0,.int .i64 0,.int .i64 0,.int .i64 0,.int .i64 0,.slice none 0 0].toArray) A2=some (zh,kG A2 2 (⟨m.kind,m.frm,0,0,0,0,⟨0,0⟩,bk0⟩:yg)):=Qd q2 (⟨m.kind,m.frm,0,0,0,0,⟨0,0⟩,bk0⟩:yg)
 have b0:(kG A2 2 (⟨m.kind,m.frm,0,0,0,0,⟨0,0⟩,bk0⟩:yg)).get 0=some (.cells (fM m) (.own []) 0):=(yG (by decide)).trans q0
 have b1:(kG A2 2 (⟨m.kind,m.frm,0,0,0,0,⟨0,0⟩,bk0⟩:yg)).get 1=some (.cells (fM m0) (.own []) 0):=(yG (by decide)).trans q1
 have b2:=wQ A2 2 (⟨m.kind,m.frm,0,0,0,0,⟨0,0⟩,bk0⟩:yg)
 generalize hB0:kG A2 2 (⟨m.kind,m.frm,0,0,0,0,⟨0,0⟩,bk0⟩:yg)=B0 at s0 b0 b1 b2
 have s1:=aj3 b2 m.b
 have c1_0:(kG B0 2 (⟨m.kind,m.frm,0,0,0,0,⟨0,0⟩,m.b⟩:yg)).get 0=some (.cells (fM m) (.own []) 0):=(yG (by decide)).trans b0
 have c1_1:(kG B0 2 (⟨m.kind,m.frm,0,0,0,0,⟨0,0⟩,m.b⟩:yg)).get 1=some (.cells (fM m0) (.own []) 0):=(yG (by decide)).trans b1
 have c1_2:=wQ B0 2 (⟨m.kind,m.frm,0,0,0,0,⟨0,0⟩,m.b⟩:yg)
 dsimp only at s1
 generalize hB1:kG B0 2 (⟨m.kind,m.frm,0,0,0,0,⟨0,0⟩,m.b⟩:yg)=B1 at s1  c1_0 c1_1 c1_2
 have eb:(⟨m.kind,m.frm,0,0,0,0,⟨0,0⟩,m.b⟩:yg)=qj m:=by simp [qj,hk]
 rw [eb] at c1_2
 have hbk:(qj m).b.k≠2:=by simp [qj,hk,hm.b.ne]
 have ld:=xI c1_2 hbk
 have sl:=Qd c1_1 (qj m)
 have fin:=xI (wQ B1 1 (qj m)) hbk
 have hcb:(qj m).b.k≤2:=by simp [qj,hk,hm.b.okl.le]
 conv at hr =>
  rhs
  rw [hTe]
  simp only [jr.code,jr.rs,zSs,reduceIte,zk,zn,zo,zq,Zc,a1,a2,zO,je,wS p0,yK p0,kX (y0:=.int .i64 m.kind) (y1:=.int .i64 m.frm) rfl rfl,s0,wS b0,jd,s1,yY b0 hm.b.ne,decide_eq_false (show ¬ m.kind=0 by omega),decide_eq_true hk,Jf,ld,sl]
 rw [hTe] at hr
 exact jr.runs hr (.inr rfl) fin (all1 (yM hm.b.okl.le)) (yM hcb)
theorem jr.v2 {m:yg} (hm:m.Ok) (hk:m.kind=2) (S:zy):zZ zi O jr.id [mv m] S=some (mv (qj m),S):=by
 obtain ⟨T,hTe⟩:∃ T,T=(mv m::zh::zh::zh::zh::zh::zh::zh::zh::zh::zh::zh::zh::zh::zh::zh::zh::zh::zh::zh::zh::zh::zh::zh::zh::zh::zh::zh::zh::zh::zh::zh::zh::zh::zh::zh::zh::zh::zh::zh::zh::zh::zh::zh::zh::zh::[]):=⟨_,rfl⟩
 have hr:zJ zi O false jr.code T zy.empty=zJ zi O false jr.code T zy.empty:=rfl
 obtain ⟨A1,hA1⟩:∃ A,A=(YN m).push (.cells (fM m0) (.own []) 0):=⟨_,rfl⟩
 have a1:yI zi 48 (YN m)=some (.pointer (some ⟨1,0,none⟩),A1):=by rw [hA1];exact Xz _
 have p0:A1.get 0=some (.cells (fM m) (.own []) 0):=by rw [hA1];kernel_rfl
 obtain ⟨A2,hA2⟩:∃ A,A=A1.push (.cells (fM m0) (.own []) 0):=⟨_,rfl⟩
 have a2:yI zi 48 A1=some (.pointer (some ⟨2,0,none⟩),A2):=by rw [hA2,hA1];exact Xz _
 have q0:A2.get 0=some (.cells (fM m) (.own []) 0):=by rw [hA2,hA1];kernel_rfl
 have q1:A2.get 1=some (.cells (fM m0) (.own []) 0):=by rw [hA2,hA1];kernel_rfl
 have q2:A2.get 2=some (.cells (fM m0) (.own []) 0):=by rw [hA2,hA1];kernel_rfl
 have s0:wU zi 48 (.pointer (some ⟨2,0,none⟩)) (.agg [Value.int .i64 m.kind,.int .i64 m.frm,.int .i64 0,.int .i64 0,.int .i64 0,.int .i64 0,.int .i64 0,.int .i64 0,.int .i64 0,.int .i64 0,.int .i64 0,.int .i64 0,.slice none 0 0].toArray) A2=some (zh,kG A2 2 (⟨m.kind,m.frm,0,0,0,0,⟨0,0⟩,bk0⟩:yg)):=Qd q2 (⟨m.kind,m.frm,0,0,0,0,⟨0,0⟩,bk0⟩:yg)
 have b0:(kG A2 2 (⟨m.kind,m.frm,0,0,0,0,⟨0,0⟩,bk0⟩:yg)).get 0=some (.cells (fM m) (.own []) 0):=(yG (by decide)).trans q0
 have b1:(kG A2 2 (⟨m.kind,m.frm,0,0,0,0,⟨0,0⟩,bk0⟩:yg)).get 1=some (.cells (fM m0) (.own []) 0):=(yG (by decide)).trans q1
 have b2:=wQ A2 2 (⟨m.kind,m.frm,0,0,0,0,⟨0,0⟩,bk0⟩:yg)
 generalize hB0:kG A2 2 (⟨m.kind,m.frm,0,0,0,0,⟨0,0⟩,bk0⟩:yg)=B0 at s0 b0 b1 b2
 have s1:=afp b2 m.value
 have c1_0:(kG B0 2 (⟨m.kind,m.frm,0,0,m.value,0,⟨0,0⟩,bk0⟩:yg)).get 0=some (.cells (fM m) (.own []) 0):=(yG (by decide)).trans b0
 have c1_1:(kG B0 2 (⟨m.kind,m.frm,0,0,m.value,0,⟨0,0⟩,bk0⟩:yg)).get 1=some (.cells (fM m0) (.own []) 0):=(yG (by decide)).trans b1
 have c1_2:=wQ B0 2 (⟨m.kind,m.frm,0,0,m.value,0,⟨0,0⟩,bk0⟩:yg)
 dsimp only at s1
 generalize hB1:kG B0 2 (⟨m.kind,m.frm,0,0,m.value,0,⟨0,0⟩,bk0⟩:yg)=B1 at s1  c1_0 c1_1 c1_2
 have eb:(⟨m.kind,m.frm,0,0,m.value,0,⟨0,0⟩,bk0⟩:yg)=qj m:=by simp [qj,hk]
 rw [eb] at c1_2
 have hbk:(qj m).b.k≠2:=by simp [qj,hk]
 have ld:=xI c1_2 hbk
 have sl:=Qd c1_1 (qj m)
 have fin:=xI (wQ B1 1 (qj m)) hbk
 have hcb:(qj m).b.k≤2:=by simp [qj,hk]
 conv at hr =>
  rhs
  rw [hTe]
  simp only [jr.code,jr.rs,zSs,reduceIte,zk,zn,zo,zq,Zc,a1,a2,zO,je,wS p0,yK p0,kX (y0:=.int .i64 m.kind) (y1:=.int .i64 m.frm) rfl rfl,s0,wS b0,zY,s1,yD b0,decide_eq_false (show ¬ m.kind=0 by omega),decide_eq_false (show ¬ m.kind=1 by omega),decide_eq_true hk,Jf,ld,sl]
 rw [hTe] at hr
 exact jr.runs hr (.inr rfl) fin (all1 (yM hm.b.okl.le)) (yM hcb)
theorem jr.v3 {m:yg} (hm:m.Ok) (hk:m.kind=3) (S:zy):zZ zi O jr.id [mv m] S=some (mv (qj m),S):=by
 obtain ⟨T,hTe⟩:∃ T,T=(mv m::zh::zh::zh::zh::zh::zh::zh::zh::zh::zh::zh::zh::zh::zh::zh::zh::zh::zh::zh::zh::zh::zh::zh::zh::zh::zh::zh::zh::zh::zh::zh::zh::zh::zh::zh::zh::zh::zh::zh::zh::zh::zh::zh::zh::zh::[]):=⟨_,rfl⟩
 have hr:zJ zi O false jr.code T zy.empty=zJ zi O false jr.code T zy.empty:=rfl
 obtain ⟨A1,hA1⟩:∃ A,A=(YN m).push (.cells (fM m0) (.own []) 0):=⟨_,rfl⟩
 have a1:yI zi 48 (YN m)=some (.pointer (some ⟨1,0,none⟩),A1):=by rw [hA1];exact Xz _
 have p0:A1.get 0=some (.cells (fM m) (.own []) 0):=by rw [hA1];kernel_rfl
 obtain ⟨A2,hA2⟩:∃ A,A=A1.push (.cells (fM m0) (.own []) 0):=⟨_,rfl⟩
 have a2:yI zi 48 A1=some (.pointer (some ⟨2,0,none⟩),A2):=by rw [hA2,hA1];exact Xz _
 have q0:A2.get 0=some (.cells (fM m) (.own []) 0):=by rw [hA2,hA1];kernel_rfl
 have q1:A2.get 1=some (.cells (fM m0) (.own []) 0):=by rw [hA2,hA1];kernel_rfl
 have q2:A2.get 2=some (.cells (fM m0) (.own []) 0):=by rw [hA2,hA1];kernel_rfl
 have s0:wU zi 48 (.pointer (some ⟨2,0,none⟩)) (.agg [Value.int .i64 m.kind,.int .i64 m.frm,.int .i64 0,.int .i64 0,.int .i64 0,.int .i64 0,.int .i64 0,.int .i64 0,.int .i64 0,.int .i64 0,.int .i64 0,.int .i64 0,.slice none 0 0].toArray) A2=some (zh,kG A2 2 (⟨m.kind,m.frm,0,0,0,0,⟨0,0⟩,bk0⟩:yg)):=Qd q2 (⟨m.kind,m.frm,0,0,0,0,⟨0,0⟩,bk0⟩:yg)
 have b0:(kG A2 2 (⟨m.kind,m.frm,0,0,0,0,⟨0,0⟩,bk0⟩:yg)).get 0=some (.cells (fM m) (.own []) 0):=(yG (by decide)).trans q0
 have b1:(kG A2 2 (⟨m.kind,m.frm,0,0,0,0,⟨0,0⟩,bk0⟩:yg)).get 1=some (.cells (fM m0) (.own []) 0):=(yG (by decide)).trans q1
 have b2:=wQ A2 2 (⟨m.kind,m.frm,0,0,0,0,⟨0,0⟩,bk0⟩:yg)
 generalize hB0:kG A2 2 (⟨m.kind,m.frm,0,0,0,0,⟨0,0⟩,bk0⟩:yg)=B0 at s0 b0 b1 b2
 have s1:=ale b2 m.prep
 have c1_0:(kG B0 2 (⟨m.kind,m.frm,0,0,0,m.prep,⟨0,0⟩,bk0⟩:yg)).get 0=some (.cells (fM m) (.own []) 0):=(yG (by decide)).trans b0
 have c1_1:(kG B0 2 (⟨m.kind,m.frm,0,0,0,m.prep,⟨0,0⟩,bk0⟩:yg)).get 1=some (.cells (fM m0) (.own []) 0):=(yG (by decide)).trans b1
 have c1_2:=wQ B0 2 (⟨m.kind,m.frm,0,0,0,m.prep,⟨0,0⟩,bk0⟩:yg)
 dsimp only at s1
 generalize hB1:kG B0 2 (⟨m.kind,m.frm,0,0,0,m.prep,⟨0,0⟩,bk0⟩:yg)=B1 at s1  c1_0 c1_1 c1_2
 have s2:=ajz c1_2 m.view
 have c2_0:(kG B1 2 (⟨m.kind,m.frm,0,m.view,0,m.prep,⟨0,0⟩,bk0⟩:yg)).get 0=some (.cells (fM m) (.own []) 0):=(yG (by decide)).trans c1_0
 have c2_1:(kG B1 2 (⟨m.kind,m.frm,0,m.view,0,m.prep,⟨0,0⟩,bk0⟩:yg)).get 1=some (.cells (fM m0) (.own []) 0):=(yG (by decide)).trans c1_1
 have c2_2:=wQ B1 2 (⟨m.kind,m.frm,0,m.view,0,m.prep,⟨0,0⟩,bk0⟩:yg)
 dsimp only at s2
 generalize hB2:kG B1 2 (⟨m.kind,m.frm,0,m.view,0,m.prep,⟨0,0⟩,bk0⟩:yg)=B2 at s2  c2_0 c2_1 c2_2
 have s3:=ah7 c2_2 m.index
 have sq:=WW (o:=0+4) (x:=(⟨m.kind,m.frm,m.index,m.view,0,m.prep,⟨0,0⟩,bk0⟩:yg)) c2_0 (show (0:Nat)≠2 by decide)
 have c3_0:(kG B2 2 (⟨m.kind,m.frm,m.index,m.view,0,m.prep,⟨0,0⟩,bk0⟩:yg)).get 0=some (.cells (fM m) (.own []) 0):=(yG (by decide)).trans c2_0
 have c3_1:(kG B2 2 (⟨m.kind,m.frm,m.index,m.view,0,m.prep,⟨0,0⟩,bk0⟩:yg)).get 1=some (.cells (fM m0) (.own []) 0):=(yG (by decide)).trans c2_1
 have c3_2:=wQ B2 2 (⟨m.kind,m.frm,m.index,m.view,0,m.prep,⟨0,0⟩,bk0⟩:yg)
 dsimp only at s3
 generalize hB3:kG B2 2 (⟨m.kind,m.frm,m.index,m.view,0,m.prep,⟨0,0⟩,bk0⟩:yg)=B3 at s3 sq c3_0 c3_1 c3_2
 have s4:=afp c3_2 m.value
 have c4_0:(kG B3 2 (⟨m.kind,m.frm,m.index,m.view,m.value,m.prep,⟨0,0⟩,bk0⟩:yg)).get 0=some (.cells (fM m) (.own []) 0):=(yG (by decide)).trans c3_0
 have c4_1:(kG B3 2 (⟨m.kind,m.frm,m.index,m.view,m.value,m.prep,⟨0,0⟩,bk0⟩:yg)).get 1=some (.cells (fM m0) (.own []) 0):=(yG (by decide)).trans c3_1
 have c4_2:=wQ B3 2 (⟨m.kind,m.frm,m.index,m.view,m.value,m.prep,⟨0,0⟩,bk0⟩:yg)
 dsimp only at s4
 generalize hB4:kG B3 2 (⟨m.kind,m.frm,m.index,m.view,m.value,m.prep,⟨0,0⟩,bk0⟩:yg)=B4 at s4  c4_0 c4_1 c4_2
 have eb:(⟨m.kind,m.frm,m.index,m.view,m.value,m.prep,⟨0,0⟩,bk0⟩:yg)=qj m:=by simp [qj,hk]
 rw [eb] at c4_2
 have hbk:(qj m).b.k≠2:=by simp [qj,hk]
 have ld:=xI c4_2 hbk
 have sl:=Qd c4_1 (qj m)
 have fin:=xI (wQ B4 1 (qj m)) hbk
 have hcb:(qj m).b.k≤2:=by simp [qj,hk]
 conv at hr =>
  rhs
  rw [hTe]
  simp only [jr.code,jr.rs,zSs,reduceIte,zk,zn,zo,zq,Zc,a1,a2,zO,je,wS p0,yK p0,kX (y0:=.int .i64 m.kind) (y1:=.int .i64 m.frm) rfl rfl,s0,wS b0,jm,s1,qh b0,jk,s2,yX b0,yX c1_0,ji,s3,sq,yO c1_0,yO c2_0,yD c2_0,zY,zY,s4,yD c2_0,yD c3_0,decide_eq_false (show ¬ m.kind=0 by omega),decide_eq_false (show ¬ m.kind=1 by omega),decide_eq_false (show ¬ m.kind=2 by omega),decide_eq_true hk,Jf,ld,sl]
 rw [hTe] at hr
 exact jr.runs hr (.inr rfl) fin (all1 (yM hm.b.okl.le)) (yM hcb)
theorem jr.v4 {m:yg} (hm:m.Ok) (hk:m.kind=4) (S:zy):zZ zi O jr.id [mv m] S=some (mv (qj m),S):=by
 obtain ⟨T,hTe⟩:∃ T,T=(mv m::zh::zh::zh::zh::zh::zh::zh::zh::zh::zh::zh::zh::zh::zh::zh::zh::zh::zh::zh::zh::zh::zh::zh::zh::zh::zh::zh::zh::zh::zh::zh::zh::zh::zh::zh::zh::zh::zh::zh::zh::zh::zh::zh::zh::zh::[]):=⟨_,rfl⟩
 have hr:zJ zi O false jr.code T zy.empty=zJ zi O false jr.code T zy.empty:=rfl
 obtain ⟨A1,hA1⟩:∃ A,A=(YN m).push (.cells (fM m0) (.own []) 0):=⟨_,rfl⟩
 have a1:yI zi 48 (YN m)=some (.pointer (some ⟨1,0,none⟩),A1):=by rw [hA1];exact Xz _
 have p0:A1.get 0=some (.cells (fM m) (.own []) 0):=by rw [hA1];kernel_rfl
 obtain ⟨A2,hA2⟩:∃ A,A=A1.push (.cells (fM m0) (.own []) 0):=⟨_,rfl⟩
 have a2:yI zi 48 A1=some (.pointer (some ⟨2,0,none⟩),A2):=by rw [hA2,hA1];exact Xz _
 have q0:A2.get 0=some (.cells (fM m) (.own []) 0):=by rw [hA2,hA1];kernel_rfl
 have q1:A2.get 1=some (.cells (fM m0) (.own []) 0):=by rw [hA2,hA1];kernel_rfl
 have q2:A2.get 2=some (.cells (fM m0) (.own []) 0):=by rw [hA2,hA1];kernel_rfl
 have s0:wU zi 48 (.pointer (some ⟨2,0,none⟩)) (.agg [Value.int .i64 m.kind,.int .i64 m.frm,.int .i64 0,.int .i64 0,.int .i64 0,.int .i64 0,.int .i64 0,.int .i64 0,.int .i64 0,.int .i64 0,.int .i64 0,.int .i64 0,.slice none 0 0].toArray) A2=some (zh,kG A2 2 (⟨m.kind,m.frm,0,0,0,0,⟨0,0⟩,bk0⟩:yg)):=Qd q2 (⟨m.kind,m.frm,0,0,0,0,⟨0,0⟩,bk0⟩:yg)
 have b0:(kG A2 2 (⟨m.kind,m.frm,0,0,0,0,⟨0,0⟩,bk0⟩:yg)).get 0=some (.cells (fM m) (.own []) 0):=(yG (by decide)).trans q0
 have b1:(kG A2 2 (⟨m.kind,m.frm,0,0,0,0,⟨0,0⟩,bk0⟩:yg)).get 1=some (.cells (fM m0) (.own []) 0):=(yG (by decide)).trans q1
 have b2:=wQ A2 2 (⟨m.kind,m.frm,0,0,0,0,⟨0,0⟩,bk0⟩:yg)
 generalize hB0:kG A2 2 (⟨m.kind,m.frm,0,0,0,0,⟨0,0⟩,bk0⟩:yg)=B0 at s0 b0 b1 b2
 have s1:=ajz b2 m.view
 have c1_0:(kG B0 2 (⟨m.kind,m.frm,0,m.view,0,0,⟨0,0⟩,bk0⟩:yg)).get 0=some (.cells (fM m) (.own []) 0):=(yG (by decide)).trans b0
 have c1_1:(kG B0 2 (⟨m.kind,m.frm,0,m.view,0,0,⟨0,0⟩,bk0⟩:yg)).get 1=some (.cells (fM m0) (.own []) 0):=(yG (by decide)).trans b1
 have c1_2:=wQ B0 2 (⟨m.kind,m.frm,0,m.view,0,0,⟨0,0⟩,bk0⟩:yg)
 dsimp only at s1
 generalize hB1:kG B0 2 (⟨m.kind,m.frm,0,m.view,0,0,⟨0,0⟩,bk0⟩:yg)=B1 at s1  c1_0 c1_1 c1_2
 have s2:=ah7 c1_2 m.index
 have sq:=WW (o:=0+4) (x:=(⟨m.kind,m.frm,m.index,m.view,0,0,⟨0,0⟩,bk0⟩:yg)) c1_0 (show (0:Nat)≠2 by decide)
 have c2_0:(kG B1 2 (⟨m.kind,m.frm,m.index,m.view,0,0,⟨0,0⟩,bk0⟩:yg)).get 0=some (.cells (fM m) (.own []) 0):=(yG (by decide)).trans c1_0
 have c2_1:(kG B1 2 (⟨m.kind,m.frm,m.index,m.view,0,0,⟨0,0⟩,bk0⟩:yg)).get 1=some (.cells (fM m0) (.own []) 0):=(yG (by decide)).trans c1_1
 have c2_2:=wQ B1 2 (⟨m.kind,m.frm,m.index,m.view,0,0,⟨0,0⟩,bk0⟩:yg)
 dsimp only at s2
 generalize hB2:kG B1 2 (⟨m.kind,m.frm,m.index,m.view,0,0,⟨0,0⟩,bk0⟩:yg)=B2 at s2 sq c2_0 c2_1 c2_2
 have s3:=afp c2_2 m.value
 have c3_0:(kG B2 2 (⟨m.kind,m.frm,m.index,m.view,m.value,0,⟨0,0⟩,bk0⟩:yg)).get 0=some (.cells (fM m) (.own []) 0):=(yG (by decide)).trans c2_0
 have c3_1:(kG B2 2 (⟨m.kind,m.frm,m.index,m.view,m.value,0,⟨0,0⟩,bk0⟩:yg)).get 1=some (.cells (fM m0) (.own []) 0):=(yG (by decide)).trans c2_1
 have c3_2:=wQ B2 2 (⟨m.kind,m.frm,m.index,m.view,m.value,0,⟨0,0⟩,bk0⟩:yg)
 dsimp only at s3
 generalize hB3:kG B2 2 (⟨m.kind,m.frm,m.index,m.view,m.value,0,⟨0,0⟩,bk0⟩:yg)=B3 at s3  c3_0 c3_1 c3_2
 have eb:(⟨m.kind,m.frm,m.index,m.view,m.value,0,⟨0,0⟩,bk0⟩:yg)=qj m:=by simp [qj,hk]
 rw [eb] at c3_2
 have hbk:(qj m).b.k≠2:=by simp [qj,hk]
 have ld:=xI c3_2 hbk
 have sl:=Qd c3_1 (qj m)
 have fin:=xI (wQ B3 1 (qj m)) hbk
 have hcb:(qj m).b.k≤2:=by simp [qj,hk]
 conv at hr =>
  rhs
  rw [hTe]
  simp only [jr.code,jr.rs,zSs,reduceIte,zk,zn,zo,zq,Zc,a1,a2,zO,je,wS p0,yK p0,kX (y0:=.int .i64 m.kind) (y1:=.int .i64 m.frm) rfl rfl,s0,wS b0,jk,s1,yX b0,ji,s2,sq,yO b0,yO c1_0,yD c1_0,zY,zY,s3,yD c1_0,yD c2_0,decide_eq_false (show ¬ m.kind=0 by omega),decide_eq_false (show ¬ m.kind=1 by omega),decide_eq_false (show ¬ m.kind=2 by omega),decide_eq_false (show ¬ m.kind=3 by omega),decide_eq_true hk,decide_eq_false (show ¬ m.kind=5 by omega),decide_eq_false (show ¬ m.kind=6 by omega),Jf,ld,sl]
 rw [hTe] at hr
 exact jr.runs hr (.inr rfl) fin (all1 (yM hm.b.okl.le)) (yM hcb)
theorem jr.v5 {m:yg} (hm:m.Ok) (hk:m.kind=5) (S:zy):zZ zi O jr.id [mv m] S=some (mv (qj m),S):=by
 obtain ⟨T,hTe⟩:∃ T,T=(mv m::zh::zh::zh::zh::zh::zh::zh::zh::zh::zh::zh::zh::zh::zh::zh::zh::zh::zh::zh::zh::zh::zh::zh::zh::zh::zh::zh::zh::zh::zh::zh::zh::zh::zh::zh::zh::zh::zh::zh::zh::zh::zh::zh::zh::zh::[]):=⟨_,rfl⟩
 have hr:zJ zi O false jr.code T zy.empty=zJ zi O false jr.code T zy.empty:=rfl
 obtain ⟨A1,hA1⟩:∃ A,A=(YN m).push (.cells (fM m0) (.own []) 0):=⟨_,rfl⟩
 have a1:yI zi 48 (YN m)=some (.pointer (some ⟨1,0,none⟩),A1):=by rw [hA1];exact Xz _
 have p0:A1.get 0=some (.cells (fM m) (.own []) 0):=by rw [hA1];kernel_rfl
 obtain ⟨A2,hA2⟩:∃ A,A=A1.push (.cells (fM m0) (.own []) 0):=⟨_,rfl⟩
 have a2:yI zi 48 A1=some (.pointer (some ⟨2,0,none⟩),A2):=by rw [hA2,hA1];exact Xz _
 have q0:A2.get 0=some (.cells (fM m) (.own []) 0):=by rw [hA2,hA1];kernel_rfl
 have q1:A2.get 1=some (.cells (fM m0) (.own []) 0):=by rw [hA2,hA1];kernel_rfl
 have q2:A2.get 2=some (.cells (fM m0) (.own []) 0):=by rw [hA2,hA1];kernel_rfl
 have s0:wU zi 48 (.pointer (some ⟨2,0,none⟩)) (.agg [Value.int .i64 m.kind,.int .i64 m.frm,.int .i64 0,.int .i64 0,.int .i64 0,.int .i64 0,.int .i64 0,.int .i64 0,.int .i64 0,.int .i64 0,.int .i64 0,.int .i64 0,.slice none 0 0].toArray) A2=some (zh,kG A2 2 (⟨m.kind,m.frm,0,0,0,0,⟨0,0⟩,bk0⟩:yg)):=Qd q2 (⟨m.kind,m.frm,0,0,0,0,⟨0,0⟩,bk0⟩:yg)
 have b0:(kG A2 2 (⟨m.kind,m.frm,0,0,0,0,⟨0,0⟩,bk0⟩:yg)).get 0=some (.cells (fM m) (.own []) 0):=(yG (by decide)).trans q0
 have b1:(kG A2 2 (⟨m.kind,m.frm,0,0,0,0,⟨0,0⟩,bk0⟩:yg)).get 1=some (.cells (fM m0) (.own []) 0):=(yG (by decide)).trans q1
 have b2:=wQ A2 2 (⟨m.kind,m.frm,0,0,0,0,⟨0,0⟩,bk0⟩:yg)
 generalize hB0:kG A2 2 (⟨m.kind,m.frm,0,0,0,0,⟨0,0⟩,bk0⟩:yg)=B0 at s0 b0 b1 b2
 have s1:=ajz b2 m.view
 have c1_0:(kG B0 2 (⟨m.kind,m.frm,0,m.view,0,0,⟨0,0⟩,bk0⟩:yg)).get 0=some (.cells (fM m) (.own []) 0):=(yG (by decide)).trans b0
 have c1_1:(kG B0 2 (⟨m.kind,m.frm,0,m.view,0,0,⟨0,0⟩,bk0⟩:yg)).get 1=some (.cells (fM m0) (.own []) 0):=(yG (by decide)).trans b1
 have c1_2:=wQ B0 2 (⟨m.kind,m.frm,0,m.view,0,0,⟨0,0⟩,bk0⟩:yg)
 dsimp only at s1
 generalize hB1:kG B0 2 (⟨m.kind,m.frm,0,m.view,0,0,⟨0,0⟩,bk0⟩:yg)=B1 at s1  c1_0 c1_1 c1_2
 have s2:=ah7 c1_2 m.index
 have sq:=WW (o:=0+4) (x:=(⟨m.kind,m.frm,m.index,m.view,0,0,⟨0,0⟩,bk0⟩:yg)) c1_0 (show (0:Nat)≠2 by decide)
 have c2_0:(kG B1 2 (⟨m.kind,m.frm,m.index,m.view,0,0,⟨0,0⟩,bk0⟩:yg)).get 0=some (.cells (fM m) (.own []) 0):=(yG (by decide)).trans c1_0
 have c2_1:(kG B1 2 (⟨m.kind,m.frm,m.index,m.view,0,0,⟨0,0⟩,bk0⟩:yg)).get 1=some (.cells (fM m0) (.own []) 0):=(yG (by decide)).trans c1_1
 have c2_2:=wQ B1 2 (⟨m.kind,m.frm,m.index,m.view,0,0,⟨0,0⟩,bk0⟩:yg)
 dsimp only at s2
 generalize hB2:kG B1 2 (⟨m.kind,m.frm,m.index,m.view,0,0,⟨0,0⟩,bk0⟩:yg)=B2 at s2 sq c2_0 c2_1 c2_2
 have s3:=afp c2_2 m.value
 have c3_0:(kG B2 2 (⟨m.kind,m.frm,m.index,m.view,m.value,0,⟨0,0⟩,bk0⟩:yg)).get 0=some (.cells (fM m) (.own []) 0):=(yG (by decide)).trans c2_0
 have c3_1:(kG B2 2 (⟨m.kind,m.frm,m.index,m.view,m.value,0,⟨0,0⟩,bk0⟩:yg)).get 1=some (.cells (fM m0) (.own []) 0):=(yG (by decide)).trans c2_1
 have c3_2:=wQ B2 2 (⟨m.kind,m.frm,m.index,m.view,m.value,0,⟨0,0⟩,bk0⟩:yg)
 dsimp only at s3
 generalize hB3:kG B2 2 (⟨m.kind,m.frm,m.index,m.view,m.value,0,⟨0,0⟩,bk0⟩:yg)=B3 at s3  c3_0 c3_1 c3_2
 have eb:(⟨m.kind,m.frm,m.index,m.view,m.value,0,⟨0,0⟩,bk0⟩:yg)=qj m:=by simp [qj,hk]
 rw [eb] at c3_2
 have hbk:(qj m).b.k≠2:=by simp [qj,hk]
 have ld:=xI c3_2 hbk
 have sl:=Qd c3_1 (qj m)
 have fin:=xI (wQ B3 1 (qj m)) hbk
 have hcb:(qj m).b.k≤2:=by simp [qj,hk]
 conv at hr =>
  rhs
  rw [hTe]
  simp only [jr.code,jr.rs,zSs,reduceIte,zk,zn,zo,zq,Zc,a1,a2,zO,je,wS p0,yK p0,kX (y0:=.int .i64 m.kind) (y1:=.int .i64 m.frm) rfl rfl,s0,wS b0,jk,s1,yX b0,ji,s2,sq,yO b0,yO c1_0,yD c1_0,zY,zY,s3,yD c1_0,yD c2_0,decide_eq_false (show ¬ m.kind=0 by omega),decide_eq_false (show ¬ m.kind=1 by omega),decide_eq_false (show ¬ m.kind=2 by omega),decide_eq_false (show ¬ m.kind=3 by omega),decide_eq_false (show ¬ m.kind=4 by omega),decide_eq_true hk,Jf,ld,sl]
 rw [hTe] at hr
 exact jr.runs hr (.inr rfl) fin (all1 (yM hm.b.okl.le)) (yM hcb)
theorem jr.v6 {m:yg} (hm:m.Ok) (hk:m.kind=6) (S:zy):zZ zi O jr.id [mv m] S=some (mv (qj m),S):=by
 obtain ⟨T,hTe⟩:∃ T,T=(mv m::zh::zh::zh::zh::zh::zh::zh::zh::zh::zh::zh::zh::zh::zh::zh::zh::zh::zh::zh::zh::zh::zh::zh::zh::zh::zh::zh::zh::zh::zh::zh::zh::zh::zh::zh::zh::zh::zh::zh::zh::zh::zh::zh::zh::zh::[]):=⟨_,rfl⟩
 have hr:zJ zi O false jr.code T zy.empty=zJ zi O false jr.code T zy.empty:=rfl
 obtain ⟨A1,hA1⟩:∃ A,A=(YN m).push (.cells (fM m0) (.own []) 0):=⟨_,rfl⟩
 have a1:yI zi 48 (YN m)=some (.pointer (some ⟨1,0,none⟩),A1):=by rw [hA1];exact Xz _
 have p0:A1.get 0=some (.cells (fM m) (.own []) 0):=by rw [hA1];kernel_rfl
 obtain ⟨A2,hA2⟩:∃ A,A=A1.push (.cells (fM m0) (.own []) 0):=⟨_,rfl⟩
 have a2:yI zi 48 A1=some (.pointer (some ⟨2,0,none⟩),A2):=by rw [hA2,hA1];exact Xz _
 have q0:A2.get 0=some (.cells (fM m) (.own []) 0):=by rw [hA2,hA1];kernel_rfl
 have q1:A2.get 1=some (.cells (fM m0) (.own []) 0):=by rw [hA2,hA1];kernel_rfl
 have q2:A2.get 2=some (.cells (fM m0) (.own []) 0):=by rw [hA2,hA1];kernel_rfl
 have s0:wU zi 48 (.pointer (some ⟨2,0,none⟩)) (.agg [Value.int .i64 m.kind,.int .i64 m.frm,.int .i64 0,.int .i64 0,.int .i64 0,.int .i64 0,.int .i64 0,.int .i64 0,.int .i64 0,.int .i64 0,.int .i64 0,.int .i64 0,.slice none 0 0].toArray) A2=some (zh,kG A2 2 (⟨m.kind,m.frm,0,0,0,0,⟨0,0⟩,bk0⟩:yg)):=Qd q2 (⟨m.kind,m.frm,0,0,0,0,⟨0,0⟩,bk0⟩:yg)
 have b0:(kG A2 2 (⟨m.kind,m.frm,0,0,0,0,⟨0,0⟩,bk0⟩:yg)).get 0=some (.cells (fM m) (.own []) 0):=(yG (by decide)).trans q0
 have b1:(kG A2 2 (⟨m.kind,m.frm,0,0,0,0,⟨0,0⟩,bk0⟩:yg)).get 1=some (.cells (fM m0) (.own []) 0):=(yG (by decide)).trans q1
 have b2:=wQ A2 2 (⟨m.kind,m.frm,0,0,0,0,⟨0,0⟩,bk0⟩:yg)
 generalize hB0:kG A2 2 (⟨m.kind,m.frm,0,0,0,0,⟨0,0⟩,bk0⟩:yg)=B0 at s0 b0 b1 b2
 have s1:=ah7 b2 m.index
 have sq:=WW (o:=0+4) (x:=(⟨m.kind,m.frm,m.index,0,0,0,⟨0,0⟩,bk0⟩:yg)) b0 (show (0:Nat)≠2 by decide)
 have c1_0:(kG B0 2 (⟨m.kind,m.frm,m.index,0,0,0,⟨0,0⟩,bk0⟩:yg)).get 0=some (.cells (fM m) (.own []) 0):=(yG (by decide)).trans b0
 have c1_1:(kG B0 2 (⟨m.kind,m.frm,m.index,0,0,0,⟨0,0⟩,bk0⟩:yg)).get 1=some (.cells (fM m0) (.own []) 0):=(yG (by decide)).trans b1
 have c1_2:=wQ B0 2 (⟨m.kind,m.frm,m.index,0,0,0,⟨0,0⟩,bk0⟩:yg)
 dsimp only at s1
 generalize hB1:kG B0 2 (⟨m.kind,m.frm,m.index,0,0,0,⟨0,0⟩,bk0⟩:yg)=B1 at s1 sq c1_0 c1_1 c1_2
 have s2:=afp c1_2 m.value
 have c2_0:(kG B1 2 (⟨m.kind,m.frm,m.index,0,m.value,0,⟨0,0⟩,bk0⟩:yg)).get 0=some (.cells (fM m) (.own []) 0):=(yG (by decide)).trans c1_0
 have c2_1:(kG B1 2 (⟨m.kind,m.frm,m.index,0,m.value,0,⟨0,0⟩,bk0⟩:yg)).get 1=some (.cells (fM m0) (.own []) 0):=(yG (by decide)).trans c1_1
 have c2_2:=wQ B1 2 (⟨m.kind,m.frm,m.index,0,m.value,0,⟨0,0⟩,bk0⟩:yg)
 dsimp only at s2
 generalize hB2:kG B1 2 (⟨m.kind,m.frm,m.index,0,m.value,0,⟨0,0⟩,bk0⟩:yg)=B2 at s2  c2_0 c2_1 c2_2
 have eb:(⟨m.kind,m.frm,m.index,0,m.value,0,⟨0,0⟩,bk0⟩:yg)=qj m:=by simp [qj,hk]
 rw [eb] at c2_2
 have hbk:(qj m).b.k≠2:=by simp [qj,hk]
 have ld:=xI c2_2 hbk
 have sl:=Qd c2_1 (qj m)
 have fin:=xI (wQ B2 1 (qj m)) hbk
 have hcb:(qj m).b.k≤2:=by simp [qj,hk]
 conv at hr =>
  rhs
  rw [hTe]
  simp only [jr.code,jr.rs,zSs,reduceIte,zk,zn,zo,zq,Zc,a1,a2,zO,je,wS p0,yK p0,kX (y0:=.int .i64 m.kind) (y1:=.int .i64 m.frm) rfl rfl,s0,wS b0,ji,s1,sq,yO b0,yD b0,zY,zY,s2,yD b0,yD c1_0,decide_eq_false (show ¬ m.kind=0 by omega),decide_eq_false (show ¬ m.kind=1 by omega),decide_eq_false (show ¬ m.kind=2 by omega),decide_eq_false (show ¬ m.kind=3 by omega),decide_eq_false (show ¬ m.kind=4 by omega),decide_eq_false (show ¬ m.kind=5 by omega),decide_eq_true hk,Jf,ld,sl]
 rw [hTe] at hr
 exact jr.runs hr (.inr rfl) fin (all1 (yM hm.b.okl.le)) (yM hcb)
theorem jr.v {m:yg} (hm:m.Ok) (h0:0≤m.kind) (h6:m.kind≤6) (S:zy):zZ zi O jr.id [mv m] S=some (mv (qj m),S):=by
 have:m.kind=0∨m.kind=1∨m.kind=2∨m.kind=3∨m.kind=4∨m.kind=5∨m.kind=6:=by omega
 rcases this with h | h | h | h | h | h | h
 ·
  exact jr.v0 hm h S
 ·
  exact jr.v1 hm h S
 ·
  exact jr.v2 hm h S
 ·
  exact jr.v3 hm h S
 ·
  exact jr.v4 hm h S
 ·
  exact jr.v5 hm h S
 ·
  exact jr.v6 hm h S
end Go.Proofs.Ytfjogganfjkckaa
namespace Go.Abs
open Go.RowKit
def gv (x b:Bool) (v:Value):Value:=if x=b then v else zh
theorem aiZ (x b:Bool) (v:Value):dem (gv x b v)=gv x b (dem v):=by
 unfold gv;split
 ·
  rfl
 ·
  exact Xo
theorem Xr {R:Type} {K:Value→zy→Option R} {p:Zv K} {m:M Value} {S:zy} (x b:Bool):gdK (.bool x) b m S K p=if x=b then zN (m S) K p else K zh S:=by
 cases x <;> cases b <;> rfl
section
variable {R:Type} {K:Value→zy→Option R} {p:Zv K} {S:zy} {x b c y z:Bool} {m m':M Value} {P:Program} {O:Ora} {t:TypeId} {v w u:Value}
theorem qY (h:x=b→m S=m' S):gdK (.bool x) b m S K p=gdK (.bool x) b m' S K p:=by
 rw [Xr,Xr]
 split
 ·
  rename_i hx;rw [h hx]
 ·
  rfl
theorem zB (h:m S=some (v,S)):gdK (.bool x) b m S K p=K (gv x b v) S:=by
 rw [Xr]
 unfold gv
 split
 ·
  rw [h];rfl
 ·
  rfl
theorem Wi (h:m S=some (v,S)) (hq:okq 3 v=true):aeV (.bool x) b m S K p=K (gv x b v) S:=by
 unfold gv
 cases x <;> cases b <;> first | rfl | (simp only [acU,acB,h,KL,kF hq,if_true])
theorem Wl (h:x=b):gv x b v=v:=if_pos h
theorem afD {fx:Bool}:gdK (.bool x) b (jh P fx t (gv x b v)) S K p=gdK (.bool x) b (jh P fx t v) S K p:=qY fun h=>by rw [Wl h]
theorem QI {f:Nat}:gdK (.bool x) b (zF P t (gv x b v) f) S K p=gdK (.bool x) b (zF P t v f) S K p:=qY fun h=>by rw [Wl h]
theorem KQ:gdK (.bool x) b (xk (gv x b v)) S K p=gdK (.bool x) b (xk v) S K p:=qY fun h=>by rw [Wl h]
theorem aiX:gdK (.bool x) b (Zu P t (gv x b v)) S K p=gdK (.bool x) b (Zu P t v) S K p:=qY fun h=>by rw [Wl h]
theorem YF:gdK (.bool x) b (jy P t (gv x b v) w) S K p=gdK (.bool x) b (jy P t v w) S K p:=qY fun h=>by rw [Wl h]
theorem Qc:gdK (.bool x) b (jy P t v (gv x b w)) S K p=gdK (.bool x) b (jy P t v w) S K p:=qY fun h=>by rw [Wl h]
theorem akJ {op:UnOp}:gdK (.bool x) b (aUn P op (gv x b v)) S K p=gdK (.bool x) b (aUn P op v) S K p:=qY fun h=>by rw [Wl h]
theorem agp {hp dr:Bool} {t2:TypeId}:gdK (.bool x) b (qU P hp dr t t2 (gv x b v)) S K p=gdK (.bool x) b (qU P hp dr t t2 v) S K p:=qY fun h=>by rw [Wl h]
theorem aga {op:BinOp}:gdK (.bool x) b (wI P op t (gv x b v) w) S K p=gdK (.bool x) b (wI P op t v w) S K p:=qY fun h=>by rw [Wl h]
theorem afu {op:BinOp}:gdK (.bool x) b (wI P op t v (gv x b w)) S K p=gdK (.bool x) b (wI P op t v w) S K p:=qY fun h=>by rw [Wl h]
theorem adg {g:FuncId} {l:List Value}:gdK (.bool x) b (zZ P O g (gv x b v::l)) S K p=gdK (.bool x) b (zZ P O g (v::l)) S K p:=qY fun h=>by rw [Wl h]
theorem adx {g:FuncId} {l:List Value}:gdK (.bool x) b (zZ P O g (u::gv x b v::l)) S K p=gdK (.bool x) b (zZ P O g (u::v::l)) S K p:=qY fun h=>by rw [Wl h]
theorem aaZ {g:FuncId} {l:List Value}:gdK (.bool x) b (ahi (zZ P O) g (gv x b v::l)) S K p=gdK (.bool x) b (ahi (zZ P O) g (v::l)) S K p:=qY fun h=>by rw [Wl h]
theorem abe {g:FuncId} {l:List Value}:gdK (.bool x) b (ahi (zZ P O) g (u::gv x b v::l)) S K p=gdK (.bool x) b (ahi (zZ P O) g (u::v::l)) S K p:=qY fun h=>by rw [Wl h]
theorem ai0:gdK (.bool x) b (ret v) S K p=K (gv x b v) S:=zB rfl
theorem akB:gv x b (gv x b v)=gv x b v:=by unfold gv;split <;> rfl
theorem ac9:gdK (gv x c (.bool y)) b m S K p=gdK (.bool ((x == c) && (y == b))) true m S K p:=by
 unfold gv
 cases x <;> cases c <;> cases y <;> cases b <;> rfl
theorem aeN {fx:Bool}:gdK (.bool ((x == c) && (y == b))) true (jh P fx t (gv x c v)) S K p=gdK (.bool ((x == c) && (y == b))) true (jh P fx t v) S K p:=qY fun h=>by rw [Wl (by simp at h;exact h.1)]
theorem agn {op:BinOp}:gdK (.bool ((x == c) && (y == b))) true (wI P op t (gv x c v) w) S K p=gdK (.bool ((x == c) && (y == b))) true (wI P op t v w) S K p:=qY fun h=>by rw [Wl (by simp at h;exact h.1)]
theorem agP {op:BinOp}:gdK (.bool ((x == c) && (y == b))) true (wI P op t v (gv x c w)) S K p=gdK (.bool ((x == c) && (y == b))) true (wI P op t v w) S K p:=qY fun h=>by rw [Wl (by simp at h;exact h.1)]
theorem ai3:gdK (.bool x) c (wX (gv x c (.bool y)) (.bool true) (gv ((x == c) && (y == false)) true (.bool z))) S K p=K (gv x c (.bool (y || z))) S:=by
 unfold gv
 cases x <;> cases c <;> cases y <;> cases z <;> rfl
theorem aeL:gdK (.bool x) c (wX (gv x c (.bool y)) (gv ((x == c) && (y == true)) true (.bool z)) (.bool false)) S K p=K (gv x c (.bool (y && z))) S:=by
 unfold gv
 cases x <;> cases c <;> cases y <;> cases z <;> rfl
theorem akC:(if x=true then Value.bool true else gv x false (.bool y))=.bool (x || y):=by cases x <;> rfl
theorem aiS:(if x=true then gv x true (.bool y) else Value.bool false)=.bool (x && y):=by cases x <;> rfl
theorem akS:gv true true v=v:=rfl
theorem akP:gv false false v=v:=rfl
theorem akL:gv true false v=zh:=rfl
theorem akV:gv false true v=zh:=rfl
theorem ai1 {k:IntKind} {a d:Int}:gdK (.bool x) b (wI P .lss t (.int k a) (.int k d)) S K p=K (gv x b (.bool (decide (a < d)))) S:=zB (aae k a d)
theorem ai4 {k:IntKind} {a d:Int}:gdK (.bool x) b (wI P .leq t (.int k a) (.int k d)) S K p=K (gv x b (.bool (decide (a≤d)))) S:=zB (aac k a d)
theorem aiv {k:IntKind} {a d:Int}:gdK (.bool x) b (wI P .gtr t (.int k a) (.int k d)) S K p=K (gv x b (.bool (decide (d < a)))) S:=zB (aaL k a d)
theorem aiw {k:IntKind} {a d:Int}:gdK (.bool x) b (wI P .geq t (.int k a) (.int k d)) S K p=K (gv x b (.bool (decide (d≤a)))) S:=zB (aaq k a d)
theorem ai2 {k:IntKind} {a d:Int}:gdK (.bool x) b (wI P .eql t (.int k a) (.int k d)) S K p=K (gv x b (.bool (decide (a=d)))) S:=zB (VG k a d)
theorem aiF {k:IntKind} {a d:Int}:gdK (.bool x) b (wI P .neq t (.int k a) (.int k d)) S K p=K (gv x b (.bool (!decide (a=d)))) S:=zB (V3 k a d)
theorem aiO {k:IntKind} {a d:Int}:gdK (.bool x) b (wI P .add t (.int k a) (.int k d)) S K p=K (gv x b (.int k (k.wrap (a+d)))) S:=zB (aam k a d)
theorem aiy {k:IntKind} {a d:Int}:gdK (.bool x) b (wI P .sub t (.int k a) (.int k d)) S K p=K (gv x b (.int k (k.wrap (a - d)))) S:=zB (VE k a d)
theorem ai6:gdK (.bool x) b (aUn P .not (.bool y)) S K p=K (gv x b (.bool (!y))) S:=zB (by cases y <;> rfl)
end
theorem gvw:type_of% (alG @aiZ (alG @afD (alG @QI (alG @KQ (alG @aiX (alG @YF (alG @Qc (alG @akJ (alG @agp (alG @aga (alG @afu (alG @adg (alG @adx (alG @aaZ (alG @abe (alG @ai0 (alG @akB (alG @ac9 (alG @aeN (alG @agn (alG @agP (alG @ai3 (alG @aeL (alG @akC (alG @aiS (alG @akS (alG @akP (alG @akL (alG @akV (alG @ai1 (alG @ai4 (alG @aiv (alG @aiw (alG @ai2 (alG @aiF (alG @aiO (alG @aiy @ai6))))))))))))))))))))))))))))))))))))) :=
 alG @aiZ (alG @afD (alG @QI (alG @KQ (alG @aiX (alG @YF (alG @Qc (alG @akJ (alG @agp (alG @aga (alG @afu (alG @adg (alG @adx (alG @aaZ (alG @abe (alG @ai0 (alG @akB (alG @ac9 (alG @aeN (alG @agn (alG @agP (alG @ai3 (alG @aeL (alG @akC (alG @aiS (alG @akS (alG @akP (alG @akL (alG @akV (alG @ai1 (alG @ai4 (alG @aiv (alG @aiw (alG @ai2 (alG @aiF (alG @aiO (alG @aiy @ai6))))))))))))))))))))))))))))))))))))
end Go.Abs
namespace Go.Proofs.Ytfjogganfjkckaa
open Go.Abs
def nameB (n:Int):Bool:=decide (n=0) || xQ n
theorem afr {n:Int} (h:n < 0):xQ n=false:=by
 rw [Bool.eq_false_iff];intro h2;have:=vP.1 h2;omega
theorem ahp (n:Int):decide (0 < YS n)=xQ n:=by
 rw [Bool.eq_iff_iff,decide_eq_true_eq]
 unfold YS
 constructor
 ·
  intro h;split at h
  ·
   assumption
  ·
   omega
 ·
  intro h
  have:=vP.1 h
  rw [if_pos h];omega
theorem jL.v {n:Int} (hn:n < 9223372036854775808) (S:zy):zZ zi O jL.id [.int .i64 n] S=some (.bool (nameB n),S):=by
 obtain ⟨T,hTe⟩:∃ T,T=(.int .i64 n::zh::zh::zh::zh::zh::zh::zh::zh::zh::zh::zh::zh::zh::zh::zh::zh::zh::zh::[]):=⟨_,rfl⟩
 have hr:zJ zi O false jL.code T S=zJ zi O false jL.code T S:=rfl
 have c1:=fun S=>jo.v n hn S
 obtain ⟨a,b,c,e⟩:∃ a b c,aa9 n=.tuple #[.int .i64 a,.int .i64 b,.int .i64 c,.bool (xQ n)]:=by
  unfold aa9
  by_cases h:n < 0
  ·
   exact ⟨0,0,0,by rw [if_pos h,afr h]⟩
  ·
   exact ⟨_,_,_,by rw [if_neg h]⟩
 rw [e] at c1
 unfold nameB
 conv at hr =>
  rhs
  rw [hTe]
  simp only [jL.code,jL.rs,zSs,reduceIte,zk,zn,zo,zq,c1,gvw]
 rw [hTe] at hr
 exact jL.runs hr (.inr rfl)
theorem jM.v {b:kS} (hb:b.Ok) (S:zy):zZ zi O jM.id [bv b] S=some (.bool (kN b bk0),S):=by
 obtain ⟨T,hTe⟩:∃ T,T=(bv b::zh::zh::zh::zh::zh::[]):=⟨_,rfl⟩
 have hr:zJ zi O false jM.code T zy.empty=zJ zi O false jM.code T zy.empty:=rfl
 have c1:∀ S,zZ zi O 18 [bv b,.agg [Value.int .i64 0,.int .i64 0,.int .i64 0,.int .i64 0,.slice none 0 0].toArray] S=some (.bool (kN b bk0),S):=fun S=>jB.v hb ok0 S
 conv at hr =>
  rhs
  rw [hTe]
  simp only [jM.code,jM.rs,zSs,reduceIte,zk,zn,zo,zq,JJ,QF (yZ b) hb.ne,WG,c1]
 rw [hTe] at hr
 exact jM.runs hr (.inr rfl) (all1 (yN hb.okl.le)) rfl
def Zh (m:yg):Bool:=((!decide (m.kind=0) && !decide (m.tx=⟨0,0⟩)) || (!decide (m.kind=1) && !kN m.b bk0)) || (!decide (m.kind=3) && !decide (m.prep=0))
def aaQ (m:yg):Bool:=decide (0≤m.index) && decide (m.index≤1000)
def vwB (m:yg):Bool:=decide (0≤m.view) && decide (m.view≤1000)
def ZC (m:yg):Bool :=
 if m.kind=0 then ((decide (m.index=0) && decide (m.view=0)) && decide (m.value=0)) && qF m.tx
 else if m.kind=1 then ((decide (m.index=0) && decide (m.view=0)) && decide (m.value=0)) && jX m.b
 else if m.kind=2 then (decide (m.index=0) && decide (m.view=0)) && nameB m.value
 else if m.kind=3 then ((((aaQ m) && (vwB m)) && nameB m.value) && decide (-1≤m.prep)) && decide (m.prep < m.view)
 else if m.kind=4∨m.kind=5 then ((aaQ m) && (vwB m)) && (decide (m.value=-1) || nameB m.value)
 else if m.kind=6 then ((aaQ m) && decide (m.view=0)) && nameB m.value
 else false
def Zd (m:yg):Bool:=if decide (m.frm < 0) || decide (6 < m.frm) then false else if Zh m then false else ZC m
theorem Wh (t u:TxV) (S:zy):wI zi .neq 43 (tv t) (tv u) S=some (.bool (!decide (t=u)),S):=(ahm t u S).2
theorem zx.v0 {m:yg} (hm:m.Ok) (hk:m.kind=0) (S:zy):zZ zi O zx.id [mv m] S=some (.bool (Zd m),S):=by
 obtain ⟨T,hTe⟩:∃ T,T=(mv m::zh::zh::zh::zh::zh::zh::zh::zh::zh::zh::zh::zh::zh::zh::zh::zh::zh::zh::zh::zh::zh::zh::zh::zh::zh::zh::zh::zh::zh::zh::zh::zh::zh::zh::zh::zh::zh::zh::zh::zh::zh::zh::zh::zh::zh::zh::zh::zh::zh::zh::zh::zh::zh::zh::zh::zh::zh::zh::zh::zh::zh::zh::zh::zh::zh::zh::zh::zh::zh::zh::zh::zh::zh::zh::zh::zh::zh::zh::zh::zh::zh::zh::zh::zh::zh::zh::zh::zh::zh::zh::zh::zh::zh::zh::zh::zh::zh::zh::zh::zh::zh::zh::zh::zh::zh::zh::zh::zh::zh::zh::zh::zh::zh::zh::zh::zh::zh::zh::zh::zh::zh::zh::zh::zh::zh::zh::zh::zh::zh::zh::zh::zh::zh::zh::zh::zh::zh::zh::zh::zh::zh::zh::zh::zh::zh::zh::zh::zh::zh::zh::zh::zh::zh::zh::zh::zh::zh::zh::zh::zh::zh::zh::zh::zh::zh::zh::zh::zh::[]):=⟨_,rfl⟩
 have hr:zJ zi O false zx.code T zy.empty=zJ zi O false zx.code T zy.empty:=rfl
 have g0:=xP m
 have c1:=fun S=>jM.v hm.b S
 have c2:=fun S=>jL.v hm.value.2 S
 have c3:=fun S=>jE.v m.tx S
 have c4:=fun S=>zI.v hm.b S
 have hc:[mv m].all (jW 16)=true:=all1 (yM hm.b.okl.le)
 have eT:∀ S,wI zi .neq 43 (tv m.tx) (.agg [Value.int .i64 0,.int .i64 0].toArray) S=some (.bool (!decide (m.tx=⟨0,0⟩)),S):=fun S=>Wh m.tx ⟨0,0⟩ S
 have k0:decide (m.kind=0)=true:=decide_eq_true hk
 have k1:decide (m.kind=1)=false:=decide_eq_false (by omega)
 have k2:decide (m.kind=2)=false:=decide_eq_false (by omega)
 have k3:decide (m.kind=3)=false:=decide_eq_false (by omega)
 have k4:decide (m.kind=4)=false:=decide_eq_false (by omega)
 have k5:decide (m.kind=5)=false:=decide_eq_false (by omega)
 have k6:decide (m.kind=6)=false:=decide_eq_false (by omega)
 have ek:ZC m=(((decide (m.index=0) && decide (m.view=0)) && decide (m.value=0)) && qF m.tx):=by simp only [ZC,hk,aaQ,vwB,zn,if_true,if_false,reduceIte,or_true,true_or,or_false,or_self]
 unfold Zd
 rw [ek]
 obtain ⟨c,hc0⟩:∃ b,(decide (m.frm < 0) || decide (6 < m.frm))=b:=⟨_,rfl⟩
 obtain ⟨d,hd⟩:∃ b,Zh m=b:=⟨_,rfl⟩
 have hd2:=hd
 unfold Zh at hd2
 simp only [k0,k1,k2,k3,k4,k5,k6,Bool.not_true,Bool.not_false,Bool.true_and,Bool.false_and,Bool.or_false,Bool.false_or] at hd2
 rw [hc0,hd]
 cases c
 ·
  cases d
  ·
   simp only [Bool.false_eq_true,if_false]
   conv at hr =>
    rhs
    rw [hTe]
    simp only [zx.code,zx.rs,zSs,reduceIte,zk,zn,zo,zq,Zc,zO,je,ji,jk,zY,jm,jl,jd,wS g0,yK g0,yO g0,yX g0,yD g0,qh g0,qm g0,yY g0 hm.b.ne,wF,eT,c1,c2,c3,c4,zB (zO _ _ _),zB (je _ _ _),zB (ji _ _ _),zB (jk _ _ _),zB (zY _ _ _),zB (jm _ _ _),zB (jl _ _ _),zB (jd _ _ _),zB (wS g0),zB (yK g0),zB (yO g0),zB (yX g0),zB (yD g0),zB (qh g0),zB (qm g0),zB (yY g0 hm.b.ne),zB (wF _),zB (eT _),zB (c1 _),zB (c2 _),zB (c3 _),zB (c4 _),gvw,k0,k1,k2,k3,k4,k5,k6,hc0,hd2,Bool.not_true,Bool.not_false,Bool.true_and,Bool.false_and,Bool.or_false,Bool.false_or]
   rw [hTe] at hr
   exact zx.runs hr (.inr rfl) hc rfl
  ·
   simp only [Bool.false_eq_true,if_false,if_true]
   conv at hr =>
    rhs
    rw [hTe]
    simp only [zx.code,zx.rs,zSs,reduceIte,zk,zn,zo,zq,Zc,zO,je,ji,jk,zY,jm,jl,jd,wS g0,yK g0,yO g0,yX g0,yD g0,qh g0,qm g0,yY g0 hm.b.ne,wF,eT,c1,c2,c3,c4,zB (zO _ _ _),zB (je _ _ _),zB (ji _ _ _),zB (jk _ _ _),zB (zY _ _ _),zB (jm _ _ _),zB (jl _ _ _),zB (jd _ _ _),zB (wS g0),zB (yK g0),zB (yO g0),zB (yX g0),zB (yD g0),zB (qh g0),zB (qm g0),zB (yY g0 hm.b.ne),zB (wF _),zB (eT _),zB (c1 _),zB (c2 _),zB (c3 _),zB (c4 _),gvw,k0,k1,k2,k3,k4,k5,k6,hc0,hd2,Bool.not_true,Bool.not_false,Bool.true_and,Bool.false_and,Bool.or_false,Bool.false_or]
   rw [hTe] at hr
   exact zx.runs hr (.inr rfl) hc rfl
 ·
  simp only [if_true]
  conv at hr =>
   rhs
   rw [hTe]
   simp only [zx.code,zx.rs,zSs,reduceIte,zk,zn,zo,zq,Zc,zO,je,ji,jk,zY,jm,jl,jd,wS g0,yK g0,yO g0,yX g0,yD g0,qh g0,qm g0,yY g0 hm.b.ne,wF,eT,c1,c2,c3,c4,zB (zO _ _ _),zB (je _ _ _),zB (ji _ _ _),zB (jk _ _ _),zB (zY _ _ _),zB (jm _ _ _),zB (jl _ _ _),zB (jd _ _ _),zB (wS g0),zB (yK g0),zB (yO g0),zB (yX g0),zB (yD g0),zB (qh g0),zB (qm g0),zB (yY g0 hm.b.ne),zB (wF _),zB (eT _),zB (c1 _),zB (c2 _),zB (c3 _),zB (c4 _),gvw,k0,k1,k2,k3,k4,k5,k6,hc0]
  rw [hTe] at hr
  exact zx.runs hr (.inr rfl) hc rfl
theorem zx.v1 {m:yg} (hm:m.Ok) (hk:m.kind=1) (S:zy):zZ zi O zx.id [mv m] S=some (.bool (Zd m),S):=by
 obtain ⟨T,hTe⟩:∃ T,T=(mv m::zh::zh::zh::zh::zh::zh::zh::zh::zh::zh::zh::zh::zh::zh::zh::zh::zh::zh::zh::zh::zh::zh::zh::zh::zh::zh::zh::zh::zh::zh::zh::zh::zh::zh::zh::zh::zh::zh::zh::zh::zh::zh::zh::zh::zh::zh::zh::zh::zh::zh::zh::zh::zh::zh::zh::zh::zh::zh::zh::zh::zh::zh::zh::zh::zh::zh::zh::zh::zh::zh::zh::zh::zh::zh::zh::zh::zh::zh::zh::zh::zh::zh::zh::zh::zh::zh::zh::zh::zh::zh::zh::zh::zh::zh::zh::zh::zh::zh::zh::zh::zh::zh::zh::zh::zh::zh::zh::zh::zh::zh::zh::zh::zh::zh::zh::zh::zh::zh::zh::zh::zh::zh::zh::zh::zh::zh::zh::zh::zh::zh::zh::zh::zh::zh::zh::zh::zh::zh::zh::zh::zh::zh::zh::zh::zh::zh::zh::zh::zh::zh::zh::zh::zh::zh::zh::zh::zh::zh::zh::zh::zh::zh::zh::zh::zh::zh::zh::zh::[]):=⟨_,rfl⟩
 have hr:zJ zi O false zx.code T zy.empty=zJ zi O false zx.code T zy.empty:=rfl
 have g0:=xP m
 have c1:=fun S=>jM.v hm.b S
 have c2:=fun S=>jL.v hm.value.2 S
 have c3:=fun S=>jE.v m.tx S
 have c4:=fun S=>zI.v hm.b S
 have hc:[mv m].all (jW 16)=true:=all1 (yM hm.b.okl.le)
 have eT:∀ S,wI zi .neq 43 (tv m.tx) (.agg [Value.int .i64 0,.int .i64 0].toArray) S=some (.bool (!decide (m.tx=⟨0,0⟩)),S):=fun S=>Wh m.tx ⟨0,0⟩ S
 have k0:decide (m.kind=0)=false:=decide_eq_false (by omega)
 have k1:decide (m.kind=1)=true:=decide_eq_true hk
 have k2:decide (m.kind=2)=false:=decide_eq_false (by omega)
 have k3:decide (m.kind=3)=false:=decide_eq_false (by omega)
 have k4:decide (m.kind=4)=false:=decide_eq_false (by omega)
 have k5:decide (m.kind=5)=false:=decide_eq_false (by omega)
 have k6:decide (m.kind=6)=false:=decide_eq_false (by omega)
 have ek:ZC m=(((decide (m.index=0) && decide (m.view=0)) && decide (m.value=0)) && jX m.b):=by simp only [ZC,hk,aaQ,vwB,zn,if_true,if_false,reduceIte,or_true,true_or,or_false,or_self]
 unfold Zd
 rw [ek]
 obtain ⟨c,hc0⟩:∃ b,(decide (m.frm < 0) || decide (6 < m.frm))=b:=⟨_,rfl⟩
 obtain ⟨d,hd⟩:∃ b,Zh m=b:=⟨_,rfl⟩
 have hd2:=hd
 unfold Zh at hd2
 simp only [k0,k1,k2,k3,k4,k5,k6,Bool.not_true,Bool.not_false,Bool.true_and,Bool.false_and,Bool.or_false,Bool.false_or] at hd2
 rw [hc0,hd]
 cases c
 ·
  cases d
  ·
   simp only [Bool.false_eq_true,if_false]
   conv at hr =>
    rhs
    rw [hTe]
    simp only [zx.code,zx.rs,zSs,reduceIte,zk,zn,zo,zq,Zc,zO,je,ji,jk,zY,jm,jl,jd,wS g0,yK g0,yO g0,yX g0,yD g0,qh g0,qm g0,yY g0 hm.b.ne,wF,eT,c1,c2,c3,c4,zB (zO _ _ _),zB (je _ _ _),zB (ji _ _ _),zB (jk _ _ _),zB (zY _ _ _),zB (jm _ _ _),zB (jl _ _ _),zB (jd _ _ _),zB (wS g0),zB (yK g0),zB (yO g0),zB (yX g0),zB (yD g0),zB (qh g0),zB (qm g0),zB (yY g0 hm.b.ne),zB (wF _),zB (eT _),zB (c1 _),zB (c2 _),zB (c3 _),zB (c4 _),gvw,k0,k1,k2,k3,k4,k5,k6,hc0,hd2,Bool.not_true,Bool.not_false,Bool.true_and,Bool.false_and,Bool.or_false,Bool.false_or]
   rw [hTe] at hr
   exact zx.runs hr (.inr rfl) hc rfl
  ·
   simp only [Bool.false_eq_true,if_false,if_true]
   conv at hr =>
    rhs
    rw [hTe]
    simp only [zx.code,zx.rs,zSs,reduceIte,zk,zn,zo,zq,Zc,zO,je,ji,jk,zY,jm,jl,jd,wS g0,yK g0,yO g0,yX g0,yD g0,qh g0,qm g0,yY g0 hm.b.ne,wF,eT,c1,c2,c3,c4,zB (zO _ _ _),zB (je _ _ _),zB (ji _ _ _),zB (jk _ _ _),zB (zY _ _ _),zB (jm _ _ _),zB (jl _ _ _),zB (jd _ _ _),zB (wS g0),zB (yK g0),zB (yO g0),zB (yX g0),zB (yD g0),zB (qh g0),zB (qm g0),zB (yY g0 hm.b.ne),zB (wF _),zB (eT _),zB (c1 _),zB (c2 _),zB (c3 _),zB (c4 _),gvw,k0,k1,k2,k3,k4,k5,k6,hc0,hd2,Bool.not_true,Bool.not_false,Bool.true_and,Bool.false_and,Bool.or_false,Bool.false_or]
   rw [hTe] at hr
   exact zx.runs hr (.inr rfl) hc rfl
 ·
  simp only [if_true]
  conv at hr =>
   rhs
   rw [hTe]
   simp only [zx.code,zx.rs,zSs,reduceIte,zk,zn,zo,zq,Zc,zO,je,ji,jk,zY,jm,jl,jd,wS g0,yK g0,yO g0,yX g0,yD g0,qh g0,qm g0,yY g0 hm.b.ne,wF,eT,c1,c2,c3,c4,zB (zO _ _ _),zB (je _ _ _),zB (ji _ _ _),zB (jk _ _ _),zB (zY _ _ _),zB (jm _ _ _),zB (jl _ _ _),zB (jd _ _ _),zB (wS g0),zB (yK g0),zB (yO g0),zB (yX g0),zB (yD g0),zB (qh g0),zB (qm g0),zB (yY g0 hm.b.ne),zB (wF _),zB (eT _),zB (c1 _),zB (c2 _),zB (c3 _),zB (c4 _),gvw,k0,k1,k2,k3,k4,k5,k6,hc0]
  rw [hTe] at hr
  exact zx.runs hr (.inr rfl) hc rfl
theorem zx.v2 {m:yg} (hm:m.Ok) (hk:m.kind=2) (S:zy):zZ zi O zx.id [mv m] S=some (.bool (Zd m),S):=by
 obtain ⟨T,hTe⟩:∃ T,T=(mv m::zh::zh::zh::zh::zh::zh::zh::zh::zh::zh::zh::zh::zh::zh::zh::zh::zh::zh::zh::zh::zh::zh::zh::zh::zh::zh::zh::zh::zh::zh::zh::zh::zh::zh::zh::zh::zh::zh::zh::zh::zh::zh::zh::zh::zh::zh::zh::zh::zh::zh::zh::zh::zh::zh::zh::zh::zh::zh::zh::zh::zh::zh::zh::zh::zh::zh::zh::zh::zh::zh::zh::zh::zh::zh::zh::zh::zh::zh::zh::zh::zh::zh::zh::zh::zh::zh::zh::zh::zh::zh::zh::zh::zh::zh::zh::zh::zh::zh::zh::zh::zh::zh::zh::zh::zh::zh::zh::zh::zh::zh::zh::zh::zh::zh::zh::zh::zh::zh::zh::zh::zh::zh::zh::zh::zh::zh::zh::zh::zh::zh::zh::zh::zh::zh::zh::zh::zh::zh::zh::zh::zh::zh::zh::zh::zh::zh::zh::zh::zh::zh::zh::zh::zh::zh::zh::zh::zh::zh::zh::zh::zh::zh::zh::zh::zh::zh::zh::zh::[]):=⟨_,rfl⟩
 have hr:zJ zi O false zx.code T zy.empty=zJ zi O false zx.code T zy.empty:=rfl
 have g0:=xP m
 have c1:=fun S=>jM.v hm.b S
 have c2:=fun S=>jL.v hm.value.2 S
 have c3:=fun S=>jE.v m.tx S
 have c4:=fun S=>zI.v hm.b S
 have hc:[mv m].all (jW 16)=true:=all1 (yM hm.b.okl.le)
 have eT:∀ S,wI zi .neq 43 (tv m.tx) (.agg [Value.int .i64 0,.int .i64 0].toArray) S=some (.bool (!decide (m.tx=⟨0,0⟩)),S):=fun S=>Wh m.tx ⟨0,0⟩ S
 have k0:decide (m.kind=0)=false:=decide_eq_false (by omega)
 have k1:decide (m.kind=1)=false:=decide_eq_false (by omega)
 have k2:decide (m.kind=2)=true:=decide_eq_true hk
 have k3:decide (m.kind=3)=false:=decide_eq_false (by omega)
 have k4:decide (m.kind=4)=false:=decide_eq_false (by omega)
 have k5:decide (m.kind=5)=false:=decide_eq_false (by omega)
 have k6:decide (m.kind=6)=false:=decide_eq_false (by omega)
 have ek:ZC m=((decide (m.index=0) && decide (m.view=0)) && nameB m.value):=by simp only [ZC,hk,aaQ,vwB,zn,if_true,if_false,reduceIte,or_true,true_or,or_false,or_self]
 unfold Zd
 rw [ek]
 obtain ⟨c,hc0⟩:∃ b,(decide (m.frm < 0) || decide (6 < m.frm))=b:=⟨_,rfl⟩
 obtain ⟨d,hd⟩:∃ b,Zh m=b:=⟨_,rfl⟩
 have hd2:=hd
 unfold Zh at hd2
 simp only [k0,k1,k2,k3,k4,k5,k6,Bool.not_true,Bool.not_false,Bool.true_and,Bool.false_and,Bool.or_false,Bool.false_or] at hd2
 rw [hc0,hd]
 cases c
 ·
  cases d
  ·
   simp only [Bool.false_eq_true,if_false]
   conv at hr =>
    rhs
    rw [hTe]
    simp only [zx.code,zx.rs,zSs,reduceIte,zk,zn,zo,zq,Zc,zO,je,ji,jk,zY,jm,jl,jd,wS g0,yK g0,yO g0,yX g0,yD g0,qh g0,qm g0,yY g0 hm.b.ne,wF,eT,c1,c2,c3,c4,zB (zO _ _ _),zB (je _ _ _),zB (ji _ _ _),zB (jk _ _ _),zB (zY _ _ _),zB (jm _ _ _),zB (jl _ _ _),zB (jd _ _ _),zB (wS g0),zB (yK g0),zB (yO g0),zB (yX g0),zB (yD g0),zB (qh g0),zB (qm g0),zB (yY g0 hm.b.ne),zB (wF _),zB (eT _),zB (c1 _),zB (c2 _),zB (c3 _),zB (c4 _),gvw,k0,k1,k2,k3,k4,k5,k6,hc0,hd2,Bool.not_true,Bool.not_false,Bool.true_and,Bool.false_and,Bool.or_false,Bool.false_or]
   rw [hTe] at hr
   exact zx.runs hr (.inr rfl) hc rfl
  ·
   simp only [Bool.false_eq_true,if_false,if_true]
   conv at hr =>
    rhs
    rw [hTe]
    simp only [zx.code,zx.rs,zSs,reduceIte,zk,zn,zo,zq,Zc,zO,je,ji,jk,zY,jm,jl,jd,wS g0,yK g0,yO g0,yX g0,yD g0,qh g0,qm g0,yY g0 hm.b.ne,wF,eT,c1,c2,c3,c4,zB (zO _ _ _),zB (je _ _ _),zB (ji _ _ _),zB (jk _ _ _),zB (zY _ _ _),zB (jm _ _ _),zB (jl _ _ _),zB (jd _ _ _),zB (wS g0),zB (yK g0),zB (yO g0),zB (yX g0),zB (yD g0),zB (qh g0),zB (qm g0),zB (yY g0 hm.b.ne),zB (wF _),zB (eT _),zB (c1 _),zB (c2 _),zB (c3 _),zB (c4 _),gvw,k0,k1,k2,k3,k4,k5,k6,hc0,hd2,Bool.not_true,Bool.not_false,Bool.true_and,Bool.false_and,Bool.or_false,Bool.false_or]
   rw [hTe] at hr
   exact zx.runs hr (.inr rfl) hc rfl
 ·
  simp only [if_true]
  conv at hr =>
   rhs
   rw [hTe]
   simp only [zx.code,zx.rs,zSs,reduceIte,zk,zn,zo,zq,Zc,zO,je,ji,jk,zY,jm,jl,jd,wS g0,yK g0,yO g0,yX g0,yD g0,qh g0,qm g0,yY g0 hm.b.ne,wF,eT,c1,c2,c3,c4,zB (zO _ _ _),zB (je _ _ _),zB (ji _ _ _),zB (jk _ _ _),zB (zY _ _ _),zB (jm _ _ _),zB (jl _ _ _),zB (jd _ _ _),zB (wS g0),zB (yK g0),zB (yO g0),zB (yX g0),zB (yD g0),zB (qh g0),zB (qm g0),zB (yY g0 hm.b.ne),zB (wF _),zB (eT _),zB (c1 _),zB (c2 _),zB (c3 _),zB (c4 _),gvw,k0,k1,k2,k3,k4,k5,k6,hc0]
  rw [hTe] at hr
  exact zx.runs hr (.inr rfl) hc rfl
theorem zx.v3 {m:yg} (hm:m.Ok) (hk:m.kind=3) (S:zy):zZ zi O zx.id [mv m] S=some (.bool (Zd m),S):=by
 obtain ⟨T,hTe⟩:∃ T,T=(mv m::zh::zh::zh::zh::zh::zh::zh::zh::zh::zh::zh::zh::zh::zh::zh::zh::zh::zh::zh::zh::zh::zh::zh::zh::zh::zh::zh::zh::zh::zh::zh::zh::zh::zh::zh::zh::zh::zh::zh::zh::zh::zh::zh::zh::zh::zh::zh::zh::zh::zh::zh::zh::zh::zh::zh::zh::zh::zh::zh::zh::zh::zh::zh::zh::zh::zh::zh::zh::zh::zh::zh::zh::zh::zh::zh::zh::zh::zh::zh::zh::zh::zh::zh::zh::zh::zh::zh::zh::zh::zh::zh::zh::zh::zh::zh::zh::zh::zh::zh::zh::zh::zh::zh::zh::zh::zh::zh::zh::zh::zh::zh::zh::zh::zh::zh::zh::zh::zh::zh::zh::zh::zh::zh::zh::zh::zh::zh::zh::zh::zh::zh::zh::zh::zh::zh::zh::zh::zh::zh::zh::zh::zh::zh::zh::zh::zh::zh::zh::zh::zh::zh::zh::zh::zh::zh::zh::zh::zh::zh::zh::zh::zh::zh::zh::zh::zh::zh::zh::[]):=⟨_,rfl⟩
 have hr:zJ zi O false zx.code T zy.empty=zJ zi O false zx.code T zy.empty:=rfl
 have g0:=xP m
 have c1:=fun S=>jM.v hm.b S
 have c2:=fun S=>jL.v hm.value.2 S
 have c3:=fun S=>jE.v m.tx S
 have c4:=fun S=>zI.v hm.b S
 have hc:[mv m].all (jW 16)=true:=all1 (yM hm.b.okl.le)
 have eT:∀ S,wI zi .neq 43 (tv m.tx) (.agg [Value.int .i64 0,.int .i64 0].toArray) S=some (.bool (!decide (m.tx=⟨0,0⟩)),S):=fun S=>Wh m.tx ⟨0,0⟩ S
 have k0:decide (m.kind=0)=false:=decide_eq_false (by omega)
 have k1:decide (m.kind=1)=false:=decide_eq_false (by omega)
 have k2:decide (m.kind=2)=false:=decide_eq_false (by omega)
 have k3:decide (m.kind=3)=true:=decide_eq_true hk
 have k4:decide (m.kind=4)=false:=decide_eq_false (by omega)
 have k5:decide (m.kind=5)=false:=decide_eq_false (by omega)
 have k6:decide (m.kind=6)=false:=decide_eq_false (by omega)
 have ek:ZC m=(((((decide (0≤m.index) && decide (m.index≤1000)) && (decide (0≤m.view) && decide (m.view≤1000))) && nameB m.value) && decide (-1≤m.prep)) && decide (m.prep < m.view)):=by simp only [ZC,hk,aaQ,vwB,zn,if_true,if_false,reduceIte,or_true,true_or,or_false,or_self]
 unfold Zd
 rw [ek]
 obtain ⟨c,hc0⟩:∃ b,(decide (m.frm < 0) || decide (6 < m.frm))=b:=⟨_,rfl⟩
 obtain ⟨d,hd⟩:∃ b,Zh m=b:=⟨_,rfl⟩
 have hd2:=hd
 unfold Zh at hd2
 simp only [k0,k1,k2,k3,k4,k5,k6,Bool.not_true,Bool.not_false,Bool.true_and,Bool.false_and,Bool.or_false,Bool.false_or] at hd2
 rw [hc0,hd]
 cases c
 ·
  cases d
  ·
   simp only [Bool.false_eq_true,if_false]
   conv at hr =>
    rhs
    rw [hTe]
    simp only [zx.code,zx.rs,zSs,reduceIte,zk,zn,zo,zq,Zc,zO,je,ji,jk,zY,jm,jl,jd,wS g0,yK g0,yO g0,yX g0,yD g0,qh g0,qm g0,yY g0 hm.b.ne,wF,eT,c1,c2,c3,c4,zB (zO _ _ _),zB (je _ _ _),zB (ji _ _ _),zB (jk _ _ _),zB (zY _ _ _),zB (jm _ _ _),zB (jl _ _ _),zB (jd _ _ _),zB (wS g0),zB (yK g0),zB (yO g0),zB (yX g0),zB (yD g0),zB (qh g0),zB (qm g0),zB (yY g0 hm.b.ne),zB (wF _),zB (eT _),zB (c1 _),zB (c2 _),zB (c3 _),zB (c4 _),gvw,k0,k1,k2,k3,k4,k5,k6,hc0,hd2,Bool.not_true,Bool.not_false,Bool.true_and,Bool.false_and,Bool.or_false,Bool.false_or]
   rw [hTe] at hr
   exact zx.runs hr (.inr rfl) hc rfl
  ·
   simp only [Bool.false_eq_true,if_false,if_true]
   conv at hr =>
    rhs
    rw [hTe]
    simp only [zx.code,zx.rs,zSs,reduceIte,zk,zn,zo,zq,Zc,zO,je,ji,jk,zY,jm,jl,jd,wS g0,yK g0,yO g0,yX g0,yD g0,qh g0,qm g0,yY g0 hm.b.ne,wF,eT,c1,c2,c3,c4,zB (zO _ _ _),zB (je _ _ _),zB (ji _ _ _),zB (jk _ _ _),zB (zY _ _ _),zB (jm _ _ _),zB (jl _ _ _),zB (jd _ _ _),zB (wS g0),zB (yK g0),zB (yO g0),zB (yX g0),zB (yD g0),zB (qh g0),zB (qm g0),zB (yY g0 hm.b.ne),zB (wF _),zB (eT _),zB (c1 _),zB (c2 _),zB (c3 _),zB (c4 _),gvw,k0,k1,k2,k3,k4,k5,k6,hc0,hd2,Bool.not_true,Bool.not_false,Bool.true_and,Bool.false_and,Bool.or_false,Bool.false_or]
   rw [hTe] at hr
   exact zx.runs hr (.inr rfl) hc rfl
 ·
  simp only [if_true]
  conv at hr =>
   rhs
   rw [hTe]
   simp only [zx.code,zx.rs,zSs,reduceIte,zk,zn,zo,zq,Zc,zO,je,ji,jk,zY,jm,jl,jd,wS g0,yK g0,yO g0,yX g0,yD g0,qh g0,qm g0,yY g0 hm.b.ne,wF,eT,c1,c2,c3,c4,zB (zO _ _ _),zB (je _ _ _),zB (ji _ _ _),zB (jk _ _ _),zB (zY _ _ _),zB (jm _ _ _),zB (jl _ _ _),zB (jd _ _ _),zB (wS g0),zB (yK g0),zB (yO g0),zB (yX g0),zB (yD g0),zB (qh g0),zB (qm g0),zB (yY g0 hm.b.ne),zB (wF _),zB (eT _),zB (c1 _),zB (c2 _),zB (c3 _),zB (c4 _),gvw,k0,k1,k2,k3,k4,k5,k6,hc0]
  rw [hTe] at hr
  exact zx.runs hr (.inr rfl) hc rfl
theorem zx.v4 {m:yg} (hm:m.Ok) (hk:m.kind=4) (S:zy):zZ zi O zx.id [mv m] S=some (.bool (Zd m),S):=by
 obtain ⟨T,hTe⟩:∃ T,T=(mv m::zh::zh::zh::zh::zh::zh::zh::zh::zh::zh::zh::zh::zh::zh::zh::zh::zh::zh::zh::zh::zh::zh::zh::zh::zh::zh::zh::zh::zh::zh::zh::zh::zh::zh::zh::zh::zh::zh::zh::zh::zh::zh::zh::zh::zh::zh::zh::zh::zh::zh::zh::zh::zh::zh::zh::zh::zh::zh::zh::zh::zh::zh::zh::zh::zh::zh::zh::zh::zh::zh::zh::zh::zh::zh::zh::zh::zh::zh::zh::zh::zh::zh::zh::zh::zh::zh::zh::zh::zh::zh::zh::zh::zh::zh::zh::zh::zh::zh::zh::zh::zh::zh::zh::zh::zh::zh::zh::zh::zh::zh::zh::zh::zh::zh::zh::zh::zh::zh::zh::zh::zh::zh::zh::zh::zh::zh::zh::zh::zh::zh::zh::zh::zh::zh::zh::zh::zh::zh::zh::zh::zh::zh::zh::zh::zh::zh::zh::zh::zh::zh::zh::zh::zh::zh::zh::zh::zh::zh::zh::zh::zh::zh::zh::zh::zh::zh::zh::zh::[]):=⟨_,rfl⟩
 have hr:zJ zi O false zx.code T zy.empty=zJ zi O false zx.code T zy.empty:=rfl
 have g0:=xP m
 have c1:=fun S=>jM.v hm.b S
 have c2:=fun S=>jL.v hm.value.2 S
 have c3:=fun S=>jE.v m.tx S
 have c4:=fun S=>zI.v hm.b S
 have hc:[mv m].all (jW 16)=true:=all1 (yM hm.b.okl.le)
 have eT:∀ S,wI zi .neq 43 (tv m.tx) (.agg [Value.int .i64 0,.int .i64 0].toArray) S=some (.bool (!decide (m.tx=⟨0,0⟩)),S):=fun S=>Wh m.tx ⟨0,0⟩ S
 have k0:decide (m.kind=0)=false:=decide_eq_false (by omega)
 have k1:decide (m.kind=1)=false:=decide_eq_false (by omega)
 have k2:decide (m.kind=2)=false:=decide_eq_false (by omega)
 have k3:decide (m.kind=3)=false:=decide_eq_false (by omega)
 have k4:decide (m.kind=4)=true:=decide_eq_true hk
 have k5:decide (m.kind=5)=false:=decide_eq_false (by omega)
 have k6:decide (m.kind=6)=false:=decide_eq_false (by omega)
 have ek:ZC m=(((decide (0≤m.index) && decide (m.index≤1000)) && (decide (0≤m.view) && decide (m.view≤1000))) && (decide (m.value=-1) || nameB m.value)):=by simp only [ZC,hk,aaQ,vwB,zn,if_true,if_false,reduceIte,or_true,true_or,or_false,or_self]
 unfold Zd
 rw [ek]
 obtain ⟨c,hc0⟩:∃ b,(decide (m.frm < 0) || decide (6 < m.frm))=b:=⟨_,rfl⟩
 obtain ⟨d,hd⟩:∃ b,Zh m=b:=⟨_,rfl⟩
 have hd2:=hd
 unfold Zh at hd2
 simp only [k0,k1,k2,k3,k4,k5,k6,Bool.not_true,Bool.not_false,Bool.true_and,Bool.false_and,Bool.or_false,Bool.false_or] at hd2
 rw [hc0,hd]
 cases c
 ·
  cases d
  ·
   simp only [Bool.false_eq_true,if_false]
   conv at hr =>
    rhs
    rw [hTe]
    simp only [zx.code,zx.rs,zSs,reduceIte,zk,zn,zo,zq,Zc,zO,je,ji,jk,zY,jm,jl,jd,wS g0,yK g0,yO g0,yX g0,yD g0,qh g0,qm g0,yY g0 hm.b.ne,wF,eT,c1,c2,c3,c4,zB (zO _ _ _),zB (je _ _ _),zB (ji _ _ _),zB (jk _ _ _),zB (zY _ _ _),zB (jm _ _ _),zB (jl _ _ _),zB (jd _ _ _),zB (wS g0),zB (yK g0),zB (yO g0),zB (yX g0),zB (yD g0),zB (qh g0),zB (qm g0),zB (yY g0 hm.b.ne),zB (wF _),zB (eT _),zB (c1 _),zB (c2 _),zB (c3 _),zB (c4 _),gvw,k0,k1,k2,k3,k4,k5,k6,hc0,hd2,Bool.not_true,Bool.not_false,Bool.true_and,Bool.false_and,Bool.or_false,Bool.false_or]
   rw [hTe] at hr
   exact zx.runs hr (.inr rfl) hc rfl
  ·
   simp only [Bool.false_eq_true,if_false,if_true]
   conv at hr =>
    rhs
    rw [hTe]
    simp only [zx.code,zx.rs,zSs,reduceIte,zk,zn,zo,zq,Zc,zO,je,ji,jk,zY,jm,jl,jd,wS g0,yK g0,yO g0,yX g0,yD g0,qh g0,qm g0,yY g0 hm.b.ne,wF,eT,c1,c2,c3,c4,zB (zO _ _ _),zB (je _ _ _),zB (ji _ _ _),zB (jk _ _ _),zB (zY _ _ _),zB (jm _ _ _),zB (jl _ _ _),zB (jd _ _ _),zB (wS g0),zB (yK g0),zB (yO g0),zB (yX g0),zB (yD g0),zB (qh g0),zB (qm g0),zB (yY g0 hm.b.ne),zB (wF _),zB (eT _),zB (c1 _),zB (c2 _),zB (c3 _),zB (c4 _),gvw,k0,k1,k2,k3,k4,k5,k6,hc0,hd2,Bool.not_true,Bool.not_false,Bool.true_and,Bool.false_and,Bool.or_false,Bool.false_or]
   rw [hTe] at hr
   exact zx.runs hr (.inr rfl) hc rfl
 ·
  simp only [if_true]
  conv at hr =>
   rhs
   rw [hTe]
   simp only [zx.code,zx.rs,zSs,reduceIte,zk,zn,zo,zq,Zc,zO,je,ji,jk,zY,jm,jl,jd,wS g0,yK g0,yO g0,yX g0,yD g0,qh g0,qm g0,yY g0 hm.b.ne,wF,eT,c1,c2,c3,c4,zB (zO _ _ _),zB (je _ _ _),zB (ji _ _ _),zB (jk _ _ _),zB (zY _ _ _),zB (jm _ _ _),zB (jl _ _ _),zB (jd _ _ _),zB (wS g0),zB (yK g0),zB (yO g0),zB (yX g0),zB (yD g0),zB (qh g0),zB (qm g0),zB (yY g0 hm.b.ne),zB (wF _),zB (eT _),zB (c1 _),zB (c2 _),zB (c3 _),zB (c4 _),gvw,k0,k1,k2,k3,k4,k5,k6,hc0]
  rw [hTe] at hr
  exact zx.runs hr (.inr rfl) hc rfl
theorem zx.v5 {m:yg} (hm:m.Ok) (hk:m.kind=5) (S:zy):zZ zi O zx.id [mv m] S=some (.bool (Zd m),S):=by
 obtain ⟨T,hTe⟩:∃ T,T=(mv m::zh::zh::zh::zh::zh::zh::zh::zh::zh::zh::zh::zh::zh::zh::zh::zh::zh::zh::zh::zh::zh::zh::zh::zh::zh::zh::zh::zh::zh::zh::zh::zh::zh::zh::zh::zh::zh::zh::zh::zh::zh::zh::zh::zh::zh::zh::zh::zh::zh::zh::zh::zh::zh::zh::zh::zh::zh::zh::zh::zh::zh::zh::zh::zh::zh::zh::zh::zh::zh::zh::zh::zh::zh::zh::zh::zh::zh::zh::zh::zh::zh::zh::zh::zh::zh::zh::zh::zh::zh::zh::zh::zh::zh::zh::zh::zh::zh::zh::zh::zh::zh::zh::zh::zh::zh::zh::zh::zh::zh::zh::zh::zh::zh::zh::zh::zh::zh::zh::zh::zh::zh::zh::zh::zh::zh::zh::zh::zh::zh::zh::zh::zh::zh::zh::zh::zh::zh::zh::zh::zh::zh::zh::zh::zh::zh::zh::zh::zh::zh::zh::zh::zh::zh::zh::zh::zh::zh::zh::zh::zh::zh::zh::zh::zh::zh::zh::zh::zh::[]):=⟨_,rfl⟩
 have hr:zJ zi O false zx.code T zy.empty=zJ zi O false zx.code T zy.empty:=rfl
 have g0:=xP m
 have c1:=fun S=>jM.v hm.b S
 have c2:=fun S=>jL.v hm.value.2 S
 have c3:=fun S=>jE.v m.tx S
 have c4:=fun S=>zI.v hm.b S
 have hc:[mv m].all (jW 16)=true:=all1 (yM hm.b.okl.le)
 have eT:∀ S,wI zi .neq 43 (tv m.tx) (.agg [Value.int .i64 0,.int .i64 0].toArray) S=some (.bool (!decide (m.tx=⟨0,0⟩)),S):=fun S=>Wh m.tx ⟨0,0⟩ S
 have k0:decide (m.kind=0)=false:=decide_eq_false (by omega)
 have k1:decide (m.kind=1)=false:=decide_eq_false (by omega)
 have k2:decide (m.kind=2)=false:=decide_eq_false (by omega)
 have k3:decide (m.kind=3)=false:=decide_eq_false (by omega)
 have k4:decide (m.kind=4)=false:=decide_eq_false (by omega)
 have k5:decide (m.kind=5)=true:=decide_eq_true hk
 have k6:decide (m.kind=6)=false:=decide_eq_false (by omega)
 have ek:ZC m=(((decide (0≤m.index) && decide (m.index≤1000)) && (decide (0≤m.view) && decide (m.view≤1000))) && (decide (m.value=-1) || nameB m.value)):=by simp only [ZC,hk,aaQ,vwB,zn,if_true,if_false,reduceIte,or_true,true_or,or_false,or_self]
 unfold Zd
 rw [ek]
 obtain ⟨c,hc0⟩:∃ b,(decide (m.frm < 0) || decide (6 < m.frm))=b:=⟨_,rfl⟩
 obtain ⟨d,hd⟩:∃ b,Zh m=b:=⟨_,rfl⟩
 have hd2:=hd
 unfold Zh at hd2
 simp only [k0,k1,k2,k3,k4,k5,k6,Bool.not_true,Bool.not_false,Bool.true_and,Bool.false_and,Bool.or_false,Bool.false_or] at hd2
 rw [hc0,hd]
 cases c
 ·
  cases d
  ·
   simp only [Bool.false_eq_true,if_false]
   conv at hr =>
    rhs
    rw [hTe]
    simp only [zx.code,zx.rs,zSs,reduceIte,zk,zn,zo,zq,Zc,zO,je,ji,jk,zY,jm,jl,jd,wS g0,yK g0,yO g0,yX g0,yD g0,qh g0,qm g0,yY g0 hm.b.ne,wF,eT,c1,c2,c3,c4,zB (zO _ _ _),zB (je _ _ _),zB (ji _ _ _),zB (jk _ _ _),zB (zY _ _ _),zB (jm _ _ _),zB (jl _ _ _),zB (jd _ _ _),zB (wS g0),zB (yK g0),zB (yO g0),zB (yX g0),zB (yD g0),zB (qh g0),zB (qm g0),zB (yY g0 hm.b.ne),zB (wF _),zB (eT _),zB (c1 _),zB (c2 _),zB (c3 _),zB (c4 _),gvw,k0,k1,k2,k3,k4,k5,k6,hc0,hd2,Bool.not_true,Bool.not_false,Bool.true_and,Bool.false_and,Bool.or_false,Bool.false_or]
   rw [hTe] at hr
   exact zx.runs hr (.inr rfl) hc rfl
  ·
   simp only [Bool.false_eq_true,if_false,if_true]
   conv at hr =>
    rhs
    rw [hTe]
    simp only [zx.code,zx.rs,zSs,reduceIte,zk,zn,zo,zq,Zc,zO,je,ji,jk,zY,jm,jl,jd,wS g0,yK g0,yO g0,yX g0,yD g0,qh g0,qm g0,yY g0 hm.b.ne,wF,eT,c1,c2,c3,c4,zB (zO _ _ _),zB (je _ _ _),zB (ji _ _ _),zB (jk _ _ _),zB (zY _ _ _),zB (jm _ _ _),zB (jl _ _ _),zB (jd _ _ _),zB (wS g0),zB (yK g0),zB (yO g0),zB (yX g0),zB (yD g0),zB (qh g0),zB (qm g0),zB (yY g0 hm.b.ne),zB (wF _),zB (eT _),zB (c1 _),zB (c2 _),zB (c3 _),zB (c4 _),gvw,k0,k1,k2,k3,k4,k5,k6,hc0,hd2,Bool.not_true,Bool.not_false,Bool.true_and,Bool.false_and,Bool.or_false,Bool.false_or]
   rw [hTe] at hr
   exact zx.runs hr (.inr rfl) hc rfl
 ·
  simp only [if_true]
  conv at hr =>
   rhs
   rw [hTe]
   simp only [zx.code,zx.rs,zSs,reduceIte,zk,zn,zo,zq,Zc,zO,je,ji,jk,zY,jm,jl,jd,wS g0,yK g0,yO g0,yX g0,yD g0,qh g0,qm g0,yY g0 hm.b.ne,wF,eT,c1,c2,c3,c4,zB (zO _ _ _),zB (je _ _ _),zB (ji _ _ _),zB (jk _ _ _),zB (zY _ _ _),zB (jm _ _ _),zB (jl _ _ _),zB (jd _ _ _),zB (wS g0),zB (yK g0),zB (yO g0),zB (yX g0),zB (yD g0),zB (qh g0),zB (qm g0),zB (yY g0 hm.b.ne),zB (wF _),zB (eT _),zB (c1 _),zB (c2 _),zB (c3 _),zB (c4 _),gvw,k0,k1,k2,k3,k4,k5,k6,hc0]
  rw [hTe] at hr
  exact zx.runs hr (.inr rfl) hc rfl
theorem zx.v6 {m:yg} (hm:m.Ok) (hk:m.kind=6) (S:zy):zZ zi O zx.id [mv m] S=some (.bool (Zd m),S):=by
 obtain ⟨T,hTe⟩:∃ T,T=(mv m::zh::zh::zh::zh::zh::zh::zh::zh::zh::zh::zh::zh::zh::zh::zh::zh::zh::zh::zh::zh::zh::zh::zh::zh::zh::zh::zh::zh::zh::zh::zh::zh::zh::zh::zh::zh::zh::zh::zh::zh::zh::zh::zh::zh::zh::zh::zh::zh::zh::zh::zh::zh::zh::zh::zh::zh::zh::zh::zh::zh::zh::zh::zh::zh::zh::zh::zh::zh::zh::zh::zh::zh::zh::zh::zh::zh::zh::zh::zh::zh::zh::zh::zh::zh::zh::zh::zh::zh::zh::zh::zh::zh::zh::zh::zh::zh::zh::zh::zh::zh::zh::zh::zh::zh::zh::zh::zh::zh::zh::zh::zh::zh::zh::zh::zh::zh::zh::zh::zh::zh::zh::zh::zh::zh::zh::zh::zh::zh::zh::zh::zh::zh::zh::zh::zh::zh::zh::zh::zh::zh::zh::zh::zh::zh::zh::zh::zh::zh::zh::zh::zh::zh::zh::zh::zh::zh::zh::zh::zh::zh::zh::zh::zh::zh::zh::zh::zh::zh::[]):=⟨_,rfl⟩
 have hr:zJ zi O false zx.code T zy.empty=zJ zi O false zx.code T zy.empty:=rfl
 have g0:=xP m
 have c1:=fun S=>jM.v hm.b S
 have c2:=fun S=>jL.v hm.value.2 S
 have c3:=fun S=>jE.v m.tx S
 have c4:=fun S=>zI.v hm.b S
 have hc:[mv m].all (jW 16)=true:=all1 (yM hm.b.okl.le)
 have eT:∀ S,wI zi .neq 43 (tv m.tx) (.agg [Value.int .i64 0,.int .i64 0].toArray) S=some (.bool (!decide (m.tx=⟨0,0⟩)),S):=fun S=>Wh m.tx ⟨0,0⟩ S
 have k0:decide (m.kind=0)=false:=decide_eq_false (by omega)
 have k1:decide (m.kind=1)=false:=decide_eq_false (by omega)
 have k2:decide (m.kind=2)=false:=decide_eq_false (by omega)
 have k3:decide (m.kind=3)=false:=decide_eq_false (by omega)
 have k4:decide (m.kind=4)=false:=decide_eq_false (by omega)
 have k5:decide (m.kind=5)=false:=decide_eq_false (by omega)
 have k6:decide (m.kind=6)=true:=decide_eq_true hk
 have ek:ZC m=(((decide (0≤m.index) && decide (m.index≤1000)) && decide (m.view=0)) && nameB m.value):=by simp only [ZC,hk,aaQ,vwB,zn,if_true,if_false,reduceIte,or_true,true_or,or_false,or_self]
 unfold Zd
 rw [ek]
 obtain ⟨c,hc0⟩:∃ b,(decide (m.frm < 0) || decide (6 < m.frm))=b:=⟨_,rfl⟩
 obtain ⟨d,hd⟩:∃ b,Zh m=b:=⟨_,rfl⟩
 have hd2:=hd
 unfold Zh at hd2
 simp only [k0,k1,k2,k3,k4,k5,k6,Bool.not_true,Bool.not_false,Bool.true_and,Bool.false_and,Bool.or_false,Bool.false_or] at hd2
 rw [hc0,hd]
 cases c
 ·
  cases d
  ·
   simp only [Bool.false_eq_true,if_false]
   conv at hr =>
    rhs
    rw [hTe]
    simp only [zx.code,zx.rs,zSs,reduceIte,zk,zn,zo,zq,Zc,zO,je,ji,jk,zY,jm,jl,jd,wS g0,yK g0,yO g0,yX g0,yD g0,qh g0,qm g0,yY g0 hm.b.ne,wF,eT,c1,c2,c3,c4,zB (zO _ _ _),zB (je _ _ _),zB (ji _ _ _),zB (jk _ _ _),zB (zY _ _ _),zB (jm _ _ _),zB (jl _ _ _),zB (jd _ _ _),zB (wS g0),zB (yK g0),zB (yO g0),zB (yX g0),zB (yD g0),zB (qh g0),zB (qm g0),zB (yY g0 hm.b.ne),zB (wF _),zB (eT _),zB (c1 _),zB (c2 _),zB (c3 _),zB (c4 _),gvw,k0,k1,k2,k3,k4,k5,k6,hc0,hd2,Bool.not_true,Bool.not_false,Bool.true_and,Bool.false_and,Bool.or_false,Bool.false_or]
   rw [hTe] at hr
   exact zx.runs hr (.inr rfl) hc rfl
  ·
   simp only [Bool.false_eq_true,if_false,if_true]
   conv at hr =>
    rhs
    rw [hTe]
    simp only [zx.code,zx.rs,zSs,reduceIte,zk,zn,zo,zq,Zc,zO,je,ji,jk,zY,jm,jl,jd,wS g0,yK g0,yO g0,yX g0,yD g0,qh g0,qm g0,yY g0 hm.b.ne,wF,eT,c1,c2,c3,c4,zB (zO _ _ _),zB (je _ _ _),zB (ji _ _ _),zB (jk _ _ _),zB (zY _ _ _),zB (jm _ _ _),zB (jl _ _ _),zB (jd _ _ _),zB (wS g0),zB (yK g0),zB (yO g0),zB (yX g0),zB (yD g0),zB (qh g0),zB (qm g0),zB (yY g0 hm.b.ne),zB (wF _),zB (eT _),zB (c1 _),zB (c2 _),zB (c3 _),zB (c4 _),gvw,k0,k1,k2,k3,k4,k5,k6,hc0,hd2,Bool.not_true,Bool.not_false,Bool.true_and,Bool.false_and,Bool.or_false,Bool.false_or]
   rw [hTe] at hr
   exact zx.runs hr (.inr rfl) hc rfl
 ·
  simp only [if_true]
  conv at hr =>
   rhs
   rw [hTe]
   simp only [zx.code,zx.rs,zSs,reduceIte,zk,zn,zo,zq,Zc,zO,je,ji,jk,zY,jm,jl,jd,wS g0,yK g0,yO g0,yX g0,yD g0,qh g0,qm g0,yY g0 hm.b.ne,wF,eT,c1,c2,c3,c4,zB (zO _ _ _),zB (je _ _ _),zB (ji _ _ _),zB (jk _ _ _),zB (zY _ _ _),zB (jm _ _ _),zB (jl _ _ _),zB (jd _ _ _),zB (wS g0),zB (yK g0),zB (yO g0),zB (yX g0),zB (yD g0),zB (qh g0),zB (qm g0),zB (yY g0 hm.b.ne),zB (wF _),zB (eT _),zB (c1 _),zB (c2 _),zB (c3 _),zB (c4 _),gvw,k0,k1,k2,k3,k4,k5,k6,hc0]
  rw [hTe] at hr
  exact zx.runs hr (.inr rfl) hc rfl
theorem zx.v7 {m:yg} (hm:m.Ok) (hk:m.kind < 0∨6 < m.kind) (S:zy):zZ zi O zx.id [mv m] S=some (.bool (Zd m),S):=by
 obtain ⟨T,hTe⟩:∃ T,T=(mv m::zh::zh::zh::zh::zh::zh::zh::zh::zh::zh::zh::zh::zh::zh::zh::zh::zh::zh::zh::zh::zh::zh::zh::zh::zh::zh::zh::zh::zh::zh::zh::zh::zh::zh::zh::zh::zh::zh::zh::zh::zh::zh::zh::zh::zh::zh::zh::zh::zh::zh::zh::zh::zh::zh::zh::zh::zh::zh::zh::zh::zh::zh::zh::zh::zh::zh::zh::zh::zh::zh::zh::zh::zh::zh::zh::zh::zh::zh::zh::zh::zh::zh::zh::zh::zh::zh::zh::zh::zh::zh::zh::zh::zh::zh::zh::zh::zh::zh::zh::zh::zh::zh::zh::zh::zh::zh::zh::zh::zh::zh::zh::zh::zh::zh::zh::zh::zh::zh::zh::zh::zh::zh::zh::zh::zh::zh::zh::zh::zh::zh::zh::zh::zh::zh::zh::zh::zh::zh::zh::zh::zh::zh::zh::zh::zh::zh::zh::zh::zh::zh::zh::zh::zh::zh::zh::zh::zh::zh::zh::zh::zh::zh::zh::zh::zh::zh::zh::zh::[]):=⟨_,rfl⟩
 have hr:zJ zi O false zx.code T zy.empty=zJ zi O false zx.code T zy.empty:=rfl
 have g0:=xP m
 have c1:=fun S=>jM.v hm.b S
 have c2:=fun S=>jL.v hm.value.2 S
 have c3:=fun S=>jE.v m.tx S
 have c4:=fun S=>zI.v hm.b S
 have hc:[mv m].all (jW 16)=true:=all1 (yM hm.b.okl.le)
 have eT:∀ S,wI zi .neq 43 (tv m.tx) (.agg [Value.int .i64 0,.int .i64 0].toArray) S=some (.bool (!decide (m.tx=⟨0,0⟩)),S):=fun S=>Wh m.tx ⟨0,0⟩ S
 have k0:decide (m.kind=0)=false:=decide_eq_false (by omega)
 have k1:decide (m.kind=1)=false:=decide_eq_false (by omega)
 have k2:decide (m.kind=2)=false:=decide_eq_false (by omega)
 have k3:decide (m.kind=3)=false:=decide_eq_false (by omega)
 have k4:decide (m.kind=4)=false:=decide_eq_false (by omega)
 have k5:decide (m.kind=5)=false:=decide_eq_false (by omega)
 have k6:decide (m.kind=6)=false:=decide_eq_false (by omega)
 have ek:ZC m=false:=by simp only [ZC,if_neg (show ¬ m.kind=0 by omega),if_neg (show ¬ m.kind=1 by omega),if_neg (show ¬ m.kind=2 by omega),if_neg (show ¬ m.kind=3 by omega),if_neg (show ¬ (m.kind=4∨m.kind=5) by omega),if_neg (show ¬ m.kind=6 by omega)]
 unfold Zd
 rw [ek]
 obtain ⟨c,hc0⟩:∃ b,(decide (m.frm < 0) || decide (6 < m.frm))=b:=⟨_,rfl⟩
 obtain ⟨d,hd⟩:∃ b,Zh m=b:=⟨_,rfl⟩
 have hd2:=hd
 unfold Zh at hd2
 simp only [k0,k1,k2,k3,k4,k5,k6,Bool.not_true,Bool.not_false,Bool.true_and,Bool.false_and,Bool.or_false,Bool.false_or] at hd2
 rw [hc0,hd]
 cases c
 ·
  cases d
  ·
   simp only [Bool.false_eq_true,if_false]
   conv at hr =>
    rhs
    rw [hTe]
    simp only [zx.code,zx.rs,zSs,reduceIte,zk,zn,zo,zq,Zc,zO,je,ji,jk,zY,jm,jl,jd,wS g0,yK g0,yO g0,yX g0,yD g0,qh g0,qm g0,yY g0 hm.b.ne,wF,eT,c1,c2,c3,c4,zB (zO _ _ _),zB (je _ _ _),zB (ji _ _ _),zB (jk _ _ _),zB (zY _ _ _),zB (jm _ _ _),zB (jl _ _ _),zB (jd _ _ _),zB (wS g0),zB (yK g0),zB (yO g0),zB (yX g0),zB (yD g0),zB (qh g0),zB (qm g0),zB (yY g0 hm.b.ne),zB (wF _),zB (eT _),zB (c1 _),zB (c2 _),zB (c3 _),zB (c4 _),gvw,k0,k1,k2,k3,k4,k5,k6,hc0,hd2,Bool.not_true,Bool.not_false,Bool.true_and,Bool.false_and,Bool.or_false,Bool.false_or]
   rw [hTe] at hr
   exact zx.runs hr (.inr rfl) hc rfl
  ·
   simp only [Bool.false_eq_true,if_false,if_true]
   conv at hr =>
    rhs
    rw [hTe]
    simp only [zx.code,zx.rs,zSs,reduceIte,zk,zn,zo,zq,Zc,zO,je,ji,jk,zY,jm,jl,jd,wS g0,yK g0,yO g0,yX g0,yD g0,qh g0,qm g0,yY g0 hm.b.ne,wF,eT,c1,c2,c3,c4,zB (zO _ _ _),zB (je _ _ _),zB (ji _ _ _),zB (jk _ _ _),zB (zY _ _ _),zB (jm _ _ _),zB (jl _ _ _),zB (jd _ _ _),zB (wS g0),zB (yK g0),zB (yO g0),zB (yX g0),zB (yD g0),zB (qh g0),zB (qm g0),zB (yY g0 hm.b.ne),zB (wF _),zB (eT _),zB (c1 _),zB (c2 _),zB (c3 _),zB (c4 _),gvw,k0,k1,k2,k3,k4,k5,k6,hc0,hd2,Bool.not_true,Bool.not_false,Bool.true_and,Bool.false_and,Bool.or_false,Bool.false_or]
   rw [hTe] at hr
   exact zx.runs hr (.inr rfl) hc rfl
 ·
  simp only [if_true]
  conv at hr =>
   rhs
   rw [hTe]
   simp only [zx.code,zx.rs,zSs,reduceIte,zk,zn,zo,zq,Zc,zO,je,ji,jk,zY,jm,jl,jd,wS g0,yK g0,yO g0,yX g0,yD g0,qh g0,qm g0,yY g0 hm.b.ne,wF,eT,c1,c2,c3,c4,zB (zO _ _ _),zB (je _ _ _),zB (ji _ _ _),zB (jk _ _ _),zB (zY _ _ _),zB (jm _ _ _),zB (jl _ _ _),zB (jd _ _ _),zB (wS g0),zB (yK g0),zB (yO g0),zB (yX g0),zB (yD g0),zB (qh g0),zB (qm g0),zB (yY g0 hm.b.ne),zB (wF _),zB (eT _),zB (c1 _),zB (c2 _),zB (c3 _),zB (c4 _),gvw,k0,k1,k2,k3,k4,k5,k6,hc0]
  rw [hTe] at hr
  exact zx.runs hr (.inr rfl) hc rfl
theorem zx.v {m:yg} (hm:m.Ok) (S:zy):zZ zi O zx.id [mv m] S=some (.bool (Zd m),S):=by
 have:m.kind=0∨m.kind=1∨m.kind=2∨m.kind=3∨m.kind=4∨m.kind=5∨m.kind=6∨(m.kind < 0∨6 < m.kind):=by omega
 rcases this with h | h | h | h | h | h | h | h
 ·
  exact zx.v0 hm h S
 ·
  exact zx.v1 hm h S
 ·
  exact zx.v2 hm h S
 ·
  exact zx.v3 hm h S
 ·
  exact zx.v4 hm h S
 ·
  exact zx.v5 hm h S
 ·
  exact zx.v6 hm h S
 ·
  exact zx.v7 hm h S
theorem JH (m:yg):okq 3 (mv m)=true:=by
 have h:=J9 (f:=fT) (e:=2) (k:=m.b.k) (l:=m.b.txs) (d:=2)
 simp only [okq,List.toList_toArray,List.all_cons,List.all_nil,h,Bool.and_true]
def y9 (m:yg):Bool :=
 if m.kind < 0∨6 < m.kind then false
 else if (decide (m.frm < 0) || decide (7≤m.frm)) || !ZB m (qj m) then false
 else if m.kind=0 then qF m.tx
 else if m.kind=1 then jX m.b
 else if m.kind=3∧(decide (m.prep < -1) || decide (m.view≤m.prep))=true then false
 else (((decide (0≤m.index) && decide (m.index≤1000)) && decide (0≤m.view)) && decide (m.view≤1000)) && kK m
theorem ajh {m:yg} (hm:m.Ok):(qj m).Ok:=by
 have z:Big 0:=⟨by omega,by omega⟩
 have zt:TxV.Ok ⟨0,0⟩:=⟨z,z⟩
 unfold qj
 split
 ·
  exact ⟨ok0,hm.tx,hm.kind,hm.frm,z,z,z,z⟩
 split
 ·
  exact ⟨hm.b,zt,hm.kind,hm.frm,z,z,z,z⟩
 split
 ·
  exact ⟨ok0,zt,hm.kind,hm.frm,z,z,hm.value,z⟩
 split
 ·
  exact ⟨ok0,zt,hm.kind,hm.frm,hm.index,hm.view,hm.value,hm.prep⟩
 split
 ·
  exact ⟨ok0,zt,hm.kind,hm.frm,hm.index,hm.view,hm.value,z⟩
 split
 ·
  exact ⟨ok0,zt,hm.kind,hm.frm,hm.index,hm.view,hm.value,z⟩
 ·
  exact ⟨ok0,zt,hm.kind,hm.frm,hm.index,z,hm.value,z⟩
theorem jI.v {m:yg} (hm:m.Ok) (S:zy):zZ zi O jI.id [mv m] S=some (.bool (y9 m),S):=by
 obtain ⟨T,hTe⟩:∃ T,T=(mv m::zh::zh::zh::zh::zh::zh::zh::zh::zh::zh::zh::zh::zh::zh::zh::zh::zh::zh::zh::zh::zh::zh::zh::zh::zh::zh::zh::zh::zh::zh::zh::zh::zh::zh::zh::zh::zh::zh::zh::zh::zh::zh::zh::zh::zh::zh::zh::zh::zh::zh::zh::zh::zh::zh::zh::zh::zh::zh::zh::zh::zh::zh::zh::zh::zh::zh::zh::zh::zh::zh::zh::zh::zh::[]):=⟨_,rfl⟩
 have hr:zJ zi O false jI.code T zy.empty=zJ zi O false jI.code T zy.empty:=rfl
 have g0:=xP m
 have c3:=fun S=>qG.v m.tx S
 have c4:=fun S=>jF.v hm.b S
 have c5:=fun S=>wH.v hm S
 have hc:[mv m].all (jW 16)=true:=all1 (yM hm.b.okl.le)
 unfold y9
 by_cases k0:m.kind < 0
 ·
  rw [if_pos (.inl k0)]
  have e0:=decide_eq_true k0
  conv at hr =>
   rhs
   rw [hTe]
   simp only [jI.code,jI.rs,zSs,reduceIte,zk,zn,zo,zq,Zc,zO,je,ji,jk,zY,jm,jl,jd,wS g0,yK g0,yO g0,yX g0,yD g0,qh g0,qm g0,yY g0 hm.b.ne,xI g0 hm.b.ne,zB (zO _ _ _),zB (je _ _ _),zB (ji _ _ _),zB (jk _ _ _),zB (zY _ _ _),zB (jm _ _ _),zB (jl _ _ _),zB (jd _ _ _),zB (wS g0),zB (yK g0),zB (yO g0),zB (yX g0),zB (yD g0),zB (qh g0),zB (qm g0),zB (yY g0 hm.b.ne),zB (xI g0 hm.b.ne),Wi (xI g0 hm.b.ne) (JH m),yP g0,gvw,e0]
  rw [hTe] at hr
  exact jI.runs hr (.inr rfl) hc rfl
 by_cases k6:6 < m.kind
 ·
  rw [if_pos (.inr k6)]
  have e0:=decide_eq_false k0
  have e6:=decide_eq_true k6
  conv at hr =>
   rhs
   rw [hTe]
   simp only [jI.code,jI.rs,zSs,reduceIte,zk,zn,zo,zq,Zc,zO,je,ji,jk,zY,jm,jl,jd,wS g0,yK g0,yO g0,yX g0,yD g0,qh g0,qm g0,yY g0 hm.b.ne,xI g0 hm.b.ne,zB (zO _ _ _),zB (je _ _ _),zB (ji _ _ _),zB (jk _ _ _),zB (zY _ _ _),zB (jm _ _ _),zB (jl _ _ _),zB (jd _ _ _),zB (wS g0),zB (yK g0),zB (yO g0),zB (yX g0),zB (yD g0),zB (qh g0),zB (qm g0),zB (yY g0 hm.b.ne),zB (xI g0 hm.b.ne),Wi (xI g0 hm.b.ne) (JH m),yP g0,gvw,e0,e6]
  rw [hTe] at hr
  exact jI.runs hr (.inr rfl) hc rfl
 rw [if_neg (by omega)]
 have e0:=decide_eq_false k0
 have e6:=decide_eq_false k6
 have c1:=fun S=>jr.v hm (by omega) (by omega) S
 have c2:=fun S=>yc.v hm (ajh hm) S
 obtain ⟨c,hc0⟩:∃ b,((decide (m.frm < 0) || decide (7≤m.frm)) || !ZB m (qj m))=b:=⟨_,rfl⟩
 rw [hc0]
 cases c
 ·
  rw [if_neg (by decide)]
  by_cases z0:m.kind=0
  ·
   rw [if_pos z0]
   conv at hr =>
    rhs
    rw [hTe]
    simp only [jI.code,jI.rs,zSs,reduceIte,zk,zn,zo,zq,Zc,zO,je,ji,jk,zY,jm,jl,jd,wS g0,yK g0,yO g0,yX g0,yD g0,qh g0,qm g0,yY g0 hm.b.ne,xI g0 hm.b.ne,zB (zO _ _ _),zB (je _ _ _),zB (ji _ _ _),zB (jk _ _ _),zB (zY _ _ _),zB (jm _ _ _),zB (jl _ _ _),zB (jd _ _ _),zB (wS g0),zB (yK g0),zB (yO g0),zB (yX g0),zB (yD g0),zB (qh g0),zB (qm g0),zB (yY g0 hm.b.ne),zB (xI g0 hm.b.ne),Wi (xI g0 hm.b.ne) (JH m),yP g0,gvw,e0,e6,c1,c2,zB (c1 _),zB (c2 _),hc0,decide_eq_true z0,c3]
   rw [hTe] at hr
   exact jI.runs hr (.inr rfl) hc rfl
  rw [if_neg z0]
  by_cases z1:m.kind=1
  ·
   rw [if_pos z1]
   conv at hr =>
    rhs
    rw [hTe]
    simp only [jI.code,jI.rs,zSs,reduceIte,zk,zn,zo,zq,Zc,zO,je,ji,jk,zY,jm,jl,jd,wS g0,yK g0,yO g0,yX g0,yD g0,qh g0,qm g0,yY g0 hm.b.ne,xI g0 hm.b.ne,zB (zO _ _ _),zB (je _ _ _),zB (ji _ _ _),zB (jk _ _ _),zB (zY _ _ _),zB (jm _ _ _),zB (jl _ _ _),zB (jd _ _ _),zB (wS g0),zB (yK g0),zB (yO g0),zB (yX g0),zB (yD g0),zB (qh g0),zB (qm g0),zB (yY g0 hm.b.ne),zB (xI g0 hm.b.ne),Wi (xI g0 hm.b.ne) (JH m),yP g0,gvw,e0,e6,c1,c2,zB (c1 _),zB (c2 _),hc0,decide_eq_false z0,decide_eq_true z1,c4]
   rw [hTe] at hr
   exact jI.runs hr (.inr rfl) hc rfl
  rw [if_neg z1]
  by_cases z3:m.kind=3
  ·
   obtain ⟨d,hd0⟩:∃ b,(decide (m.prep < -1) || decide (m.view≤m.prep))=b:=⟨_,rfl⟩
   rw [hd0]
   cases d
   ·
    rw [if_neg (by simp)]
    conv at hr =>
     rhs
     rw [hTe]
     simp only [jI.code,jI.rs,zSs,reduceIte,zk,zn,zo,zq,Zc,zO,je,ji,jk,zY,jm,jl,jd,wS g0,yK g0,yO g0,yX g0,yD g0,qh g0,qm g0,yY g0 hm.b.ne,xI g0 hm.b.ne,zB (zO _ _ _),zB (je _ _ _),zB (ji _ _ _),zB (jk _ _ _),zB (zY _ _ _),zB (jm _ _ _),zB (jl _ _ _),zB (jd _ _ _),zB (wS g0),zB (yK g0),zB (yO g0),zB (yX g0),zB (yD g0),zB (qh g0),zB (qm g0),zB (yY g0 hm.b.ne),zB (xI g0 hm.b.ne),Wi (xI g0 hm.b.ne) (JH m),yP g0,gvw,e0,e6,c1,c2,zB (c1 _),zB (c2 _),hc0,decide_eq_false z0,decide_eq_false z1,decide_eq_true z3,hd0,c5,zB (c5 _)]
    rw [hTe] at hr
    exact jI.runs hr (.inr rfl) hc rfl
   ·
    rw [if_pos ⟨z3,rfl⟩]
    conv at hr =>
     rhs
     rw [hTe]
     simp only [jI.code,jI.rs,zSs,reduceIte,zk,zn,zo,zq,Zc,zO,je,ji,jk,zY,jm,jl,jd,wS g0,yK g0,yO g0,yX g0,yD g0,qh g0,qm g0,yY g0 hm.b.ne,xI g0 hm.b.ne,zB (zO _ _ _),zB (je _ _ _),zB (ji _ _ _),zB (jk _ _ _),zB (zY _ _ _),zB (jm _ _ _),zB (jl _ _ _),zB (jd _ _ _),zB (wS g0),zB (yK g0),zB (yO g0),zB (yX g0),zB (yD g0),zB (qh g0),zB (qm g0),zB (yY g0 hm.b.ne),zB (xI g0 hm.b.ne),Wi (xI g0 hm.b.ne) (JH m),yP g0,gvw,e0,e6,c1,c2,zB (c1 _),zB (c2 _),hc0,decide_eq_false z0,decide_eq_false z1,decide_eq_true z3,hd0]
    rw [hTe] at hr
    exact jI.runs hr (.inr rfl) hc rfl
  rw [if_neg (fun h=>z3 h.1)]
  conv at hr =>
   rhs
   rw [hTe]
   simp only [jI.code,jI.rs,zSs,reduceIte,zk,zn,zo,zq,Zc,zO,je,ji,jk,zY,jm,jl,jd,wS g0,yK g0,yO g0,yX g0,yD g0,qh g0,qm g0,yY g0 hm.b.ne,xI g0 hm.b.ne,zB (zO _ _ _),zB (je _ _ _),zB (ji _ _ _),zB (jk _ _ _),zB (zY _ _ _),zB (jm _ _ _),zB (jl _ _ _),zB (jd _ _ _),zB (wS g0),zB (yK g0),zB (yO g0),zB (yX g0),zB (yD g0),zB (qh g0),zB (qm g0),zB (yY g0 hm.b.ne),zB (xI g0 hm.b.ne),Wi (xI g0 hm.b.ne) (JH m),yP g0,gvw,e0,e6,c1,c2,zB (c1 _),zB (c2 _),hc0,decide_eq_false z0,decide_eq_false z1,decide_eq_false z3,c5,zB (c5 _)]
  rw [hTe] at hr
  exact jI.runs hr (.inr rfl) hc rfl
 ·
  rw [if_pos rfl]
  conv at hr =>
   rhs
   rw [hTe]
   simp only [jI.code,jI.rs,zSs,reduceIte,zk,zn,zo,zq,Zc,zO,je,ji,jk,zY,jm,jl,jd,wS g0,yK g0,yO g0,yX g0,yD g0,qh g0,qm g0,yY g0 hm.b.ne,xI g0 hm.b.ne,zB (zO _ _ _),zB (je _ _ _),zB (ji _ _ _),zB (jk _ _ _),zB (zY _ _ _),zB (jm _ _ _),zB (jl _ _ _),zB (jd _ _ _),zB (wS g0),zB (yK g0),zB (yO g0),zB (yX g0),zB (yD g0),zB (qh g0),zB (qm g0),zB (yY g0 hm.b.ne),zB (xI g0 hm.b.ne),Wi (xI g0 hm.b.ne) (JH m),yP g0,gvw,e0,e6,c1,c2,zB (c1 _),zB (c2 _),hc0]
  rw [hTe] at hr
  exact jI.runs hr (.inr rfl) hc rfl
theorem Zb (b:kS):kN b b=true:=by simp [kN]
theorem right_eq (m:yg):y9 m=Zd m:=by
 unfold y9 Zd Zh
 by_cases hk:m.kind < 0∨6 < m.kind
 ·
  rw [if_pos hk]
  have:ZC m=false:=by simp only [ZC,if_neg (show ¬ m.kind=0 by omega),if_neg (show ¬ m.kind=1 by omega),if_neg (show ¬ m.kind=2 by omega),if_neg (show ¬ m.kind=3 by omega),if_neg (show ¬ (m.kind=4∨m.kind=5) by omega),if_neg (show ¬ m.kind=6 by omega)]
  rw [this]
  simp
 rw [if_neg hk]
 by_cases f0:m.frm < 0
 ·
  simp [f0]
 by_cases f7:6 < m.frm
 ·
  simp [f0,f7,show 7≤m.frm by omega]
 have f8:¬ 7≤m.frm:=by omega
 have hv:decide (0 < YS m.value)=xQ m.value:=ahp m.value
 have:m.kind=0∨m.kind=1∨m.kind=2∨m.kind=3∨m.kind=4∨m.kind=5∨m.kind=6:=by omega
 rcases this with h | h | h | h | h | h | h
 ·
  simp only [ZB,qj,ZC,h,decide_true,decide_false,Bool.true_and,Bool.false_and,Bool.not_true,Bool.not_false,zn,zo,if_true,if_false,reduceIte,aaQ,vwB,kK,Y4,nameB,hv,f0,f7,f8,or_true,true_or,or_false,false_or,or_self,Bool.or_false,Bool.false_or,Zb,false_and,true_and]
  grind
 ·
  simp only [ZB,qj,ZC,h,decide_true,decide_false,Bool.true_and,Bool.false_and,Bool.not_true,Bool.not_false,zn,zo,if_true,if_false,reduceIte,aaQ,vwB,kK,Y4,nameB,hv,f0,f7,f8,or_true,true_or,or_false,false_or,or_self,Bool.or_false,Bool.false_or,Zb,false_and,true_and]
  grind
 ·
  simp only [ZB,qj,ZC,h,decide_true,decide_false,Bool.true_and,Bool.false_and,Bool.not_true,Bool.not_false,zn,zo,if_true,if_false,reduceIte,aaQ,vwB,kK,Y4,nameB,hv,f0,f7,f8,or_true,true_or,or_false,false_or,or_self,Bool.or_false,Bool.false_or,Zb,false_and,true_and]
  grind
 ·
  simp only [ZB,qj,ZC,h,decide_true,decide_false,Bool.true_and,Bool.false_and,Bool.not_true,Bool.not_false,zn,zo,if_true,if_false,reduceIte,aaQ,vwB,kK,Y4,nameB,hv,f0,f7,f8,or_true,true_or,or_false,false_or,or_self,Bool.or_false,Bool.false_or,Zb,false_and,true_and]
  grind
 ·
  simp only [ZB,qj,ZC,h,decide_true,decide_false,Bool.true_and,Bool.false_and,Bool.not_true,Bool.not_false,zn,zo,if_true,if_false,reduceIte,aaQ,vwB,kK,Y4,nameB,hv,f0,f7,f8,or_true,true_or,or_false,false_or,or_self,Bool.or_false,Bool.false_or,Zb,false_and,true_and]
  grind
 ·
  simp only [ZB,qj,ZC,h,decide_true,decide_false,Bool.true_and,Bool.false_and,Bool.not_true,Bool.not_false,zn,zo,if_true,if_false,reduceIte,aaQ,vwB,kK,Y4,nameB,hv,f0,f7,f8,or_true,true_or,or_false,false_or,or_self,Bool.or_false,Bool.false_or,Zb,false_and,true_and]
  grind
 ·
  simp only [ZB,qj,ZC,h,decide_true,decide_false,Bool.true_and,Bool.false_and,Bool.not_true,Bool.not_false,zn,zo,if_true,if_false,reduceIte,aaQ,vwB,kK,Y4,nameB,hv,f0,f7,f8,or_true,true_or,or_false,false_or,or_self,Bool.or_false,Bool.false_or,Zb,false_and,true_and]
  grind
end Go.Proofs.Ytfjogganfjkckaa
namespace Go.Proofs.Ytfjogganfjkckaa
open Go.Abs
theorem adZ {n:Int} (h:nameB n=true):0≤n∧n≤268435455:=by
 unfold nameB at h
 simp only [Bool.or_eq_true,decide_eq_true_eq] at h
 rcases h with h | h
 ·
  omega
 ·
  have:=vP.1 h;omega
structure abb (m:yg):Prop where
 kind:0≤m.kind∧m.kind≤6
 frm:0≤m.frm∧m.frm≤6
 index:0≤m.index∧m.index≤1000
 view:0≤m.view∧m.view≤1000
 value:-1≤m.value∧m.value≤268435455
 prep:-1≤m.prep∧m.prep≤1000
 tx:m.kind=0→qF m.tx=true
 blk:m.kind=1→jX m.b=true
 notx:m.kind≠0→m.tx=⟨0,0⟩
 noblk:m.kind≠1→kN m.b bk0=true
 noprep:m.kind≠3→m.prep=0
theorem Za {m:yg} (h:y9 m=true):abb m:=by
 rw [right_eq] at h
 unfold Zd at h
 split at h
 ·
  cases h
 rename_i hf
 split at h
 ·
  cases h
 rename_i ho
 simp only [Bool.or_eq_true,decide_eq_true_eq,not_or] at hf
 have ho:(m.kind≠0→m.tx=⟨0,0⟩)∧(m.kind≠1→kN m.b bk0=true)∧(m.kind≠3→m.prep=0):=by
  unfold Zh at ho
  simp only [Bool.or_eq_true,Bool.and_eq_true,Bool.not_eq_true',decide_eq_false_iff_not,not_or,not_and,Decidable.not_not,Bool.not_eq_false] at ho
  exact ⟨ho.1.1,ho.1.2,ho.2⟩
 unfold ZC aaQ vwB at h
 have nr:=fun hn=>adZ (n:=m.value) hn
 have k:m.kind=0∨m.kind=1∨m.kind=2∨m.kind=3∨m.kind=4∨m.kind=5∨m.kind=6:=by
  by_cases a:m.kind=0∨m.kind=1∨m.kind=2∨m.kind=3∨m.kind=4∨m.kind=5∨m.kind=6
  ·
   exact a
  ·
   simp only [if_neg (show ¬ m.kind=0 by omega),if_neg (show ¬ m.kind=1 by omega),if_neg (show ¬ m.kind=2 by omega),if_neg (show ¬ m.kind=3 by omega),if_neg (show ¬ (m.kind=4∨m.kind=5) by omega),if_neg (show ¬ m.kind=6 by omega)] at h
   cases h
 rcases k with k | k | k | k | k | k | k
 ·
  simp only [k,zn,if_true,if_false,reduceIte,or_true,true_or,or_false,or_self,Bool.and_eq_true,Bool.or_eq_true,decide_eq_true_eq] at h
  have hp:=ho.2.2
  have hv:-1≤m.value∧m.value≤268435455:=by grind
  refine ⟨by omega,by omega,by omega,by omega,hv,by grind,fun e=>by grind,fun e=>by grind,ho.1,ho.2.1,ho.2.2⟩
 ·
  simp only [k,zn,if_true,if_false,reduceIte,or_true,true_or,or_false,or_self,Bool.and_eq_true,Bool.or_eq_true,decide_eq_true_eq] at h
  have hp:=ho.2.2
  have hv:-1≤m.value∧m.value≤268435455:=by grind
  refine ⟨by omega,by omega,by omega,by omega,hv,by grind,fun e=>by grind,fun e=>by grind,ho.1,ho.2.1,ho.2.2⟩
 ·
  simp only [k,zn,if_true,if_false,reduceIte,or_true,true_or,or_false,or_self,Bool.and_eq_true,Bool.or_eq_true,decide_eq_true_eq] at h
  have hp:=ho.2.2
  have hv:-1≤m.value∧m.value≤268435455:=by grind
  refine ⟨by omega,by omega,by omega,by omega,hv,by grind,fun e=>by grind,fun e=>by grind,ho.1,ho.2.1,ho.2.2⟩
 ·
  simp only [k,zn,if_true,if_false,reduceIte,or_true,true_or,or_false,or_self,Bool.and_eq_true,Bool.or_eq_true,decide_eq_true_eq] at h
  have hp:=ho.2.2
  have hv:-1≤m.value∧m.value≤268435455:=by grind
  refine ⟨by omega,by omega,by omega,by omega,hv,by grind,fun e=>by grind,fun e=>by grind,ho.1,ho.2.1,ho.2.2⟩
 ·
  simp only [k,zn,if_true,if_false,reduceIte,or_true,true_or,or_false,or_self,Bool.and_eq_true,Bool.or_eq_true,decide_eq_true_eq] at h
  have hp:=ho.2.2
  have hv:-1≤m.value∧m.value≤268435455:=by grind
  refine ⟨by omega,by omega,by omega,by omega,hv,by grind,fun e=>by grind,fun e=>by grind,ho.1,ho.2.1,ho.2.2⟩
 ·
  simp only [k,zn,if_true,if_false,reduceIte,or_true,true_or,or_false,or_self,Bool.and_eq_true,Bool.or_eq_true,decide_eq_true_eq] at h
  have hp:=ho.2.2
  have hv:-1≤m.value∧m.value≤268435455:=by grind
  refine ⟨by omega,by omega,by omega,by omega,hv,by grind,fun e=>by grind,fun e=>by grind,ho.1,ho.2.1,ho.2.2⟩
 ·
  simp only [k,zn,if_true,if_false,reduceIte,or_true,true_or,or_false,or_self,Bool.and_eq_true,Bool.or_eq_true,decide_eq_true_eq] at h
  have hp:=ho.2.2
  have hv:-1≤m.value∧m.value≤268435455:=by grind
  refine ⟨by omega,by omega,by omega,by omega,hv,by grind,fun e=>by grind,fun e=>by grind,ho.1,ho.2.1,ho.2.2⟩
def Jc (m:yg):List UInt8:=if m.kind=0 then txB m.tx else if m.kind=1 then XB m.b else []
def Yb (m:yg):List Int:=[m.kind,m.frm,m.index,m.view,m.value,m.prep]
def xE (m:yg):List UInt8:=encs (Yb m)++Jc m
def mkM (m:yg):Nat:=(Ya (XG m.frm) (xE m)).toNat
def Jd (m:yg):List UInt8:=enc (mkM m)++xE m
def acE (m:yg):Value:=if y9 m then .tuple #[by_ 2 (Jd m),.int .i64 0] else .tuple #[.slice none 0 0,.int .i64 121]
theorem adJ (key:Int) (b:List UInt8):0≤Ya key b∧Ya key b < 18446744073709551616:=adD _ _
theorem agC (key:Int) (b:List UInt8):((Ya key b).toNat:Int)=Ya key b:=Int.toNat_of_nonneg (adJ key b).1
theorem ajB (key:Int) (b:List UInt8):(Ya key b).toNat < 2 ^ 64:=by have:=adJ key b;omega
theorem Xx {m:yg} (h:abb m):∀ n ∈ Yb m,-1≤n∧n≤268435455:=by
 intro n hn
 have h1:=h.kind;have h2:=h.frm;have h3:=h.index;have h4:=h.view;have h5:=h.value;have h6:=h.prep
 simp only [Yb,List.mem_cons,List.not_mem_nil,or_false] at hn
 rcases hn with rfl | rfl | rfl | rfl | rfl | rfl <;> omega
theorem aaf {m:yg} (h:abb m):(encs (Yb m)).length≤60:=by
 have h1:=Xx h
 exact Jl (l:=Yb m) (fun n hn=>by have:=h1 n hn;omega)
theorem adt {b:kS} (h:jX b=true):(XB b).length≤140:=by
 have hh:headB b=true∧ZN b.txs=true:=by simpa [jX] using h
 unfold XB
 have:=QW hh.1;have:=QZ hh.2
 rw [List.length_append];omega
theorem ahv {m:yg} (h:abb m):(Jc m).length≤140:=by
 unfold Jc
 split
 ·
  rename_i h0;have:=acp (h.tx h0);omega
 split
 ·
  rename_i h1;exact adt (h.blk h1)
 ·
  simp
theorem V4 {m:yg} (h:abb m):(xE m).length≤200:=by
 unfold xE;have:=aaf h;have:=ahv h;rw [List.length_append];omega
theorem bs6 (a b c d e f:Int) (S:zy):jK zi 24 6 [(0,.int .i64 a),(1,.int .i64 b),(2,.int .i64 c),(3,.int .i64 d),(4,.int .i64 e),(5,.int .i64 f)] S=some (iz 2 [a,b,c,d,e,f],S):=by kernel_rfl
theorem zT.v {m:yg} (hm:m.Ok) (S:zy):zZ zi O zT.id [mv m] S=some (acE m,S):=by
 obtain ⟨T,hTe⟩:∃ T,T=(mv m::zh::zh::zh::zh::zh::zh::zh::zh::zh::zh::zh::zh::zh::zh::zh::zh::zh::zh::zh::zh::zh::zh::zh::zh::zh::zh::zh::zh::zh::zh::zh::zh::zh::zh::zh::zh::zh::zh::zh::zh::zh::zh::zh::zh::zh::zh::zh::zh::zh::zh::zh::zh::zh::zh::zh::zh::zh::zh::zh::zh::zh::[]):=⟨_,rfl⟩
 have hr:zJ zi O false zT.code T zy.empty=zJ zi O false zT.code T zy.empty:=rfl
 have g0:=xP m
 have hc:[mv m].all (jW 16)=true:=all1 (yM hm.b.okl.le)
 have c0:∀ S,zZ zi O 34 [mv m] S=some (.bool (y9 m),S):=fun S=>by rw [right_eq];exact zx.v hm S
 unfold acE
 cases hR:y9 m
 ·
  rw [hR] at c0
  conv at hr =>
   rhs
   rw [hTe]
   simp only [zT.code,zT.rs,zSs,reduceIte,zk,zn,zo,zq,Zc,zO,je,ji,jk,zY,jm,jl,jd,wS g0,yK g0,yO g0,yX g0,yD g0,qh g0,qm g0,yY g0 hm.b.ne,xI g0 hm.b.ne,c0]
  rw [hTe] at hr
  exact zT.runs hr (.inr rfl) rfl rfl hc rfl
 ·
  rw [hR] at c0
  have hf:=Za hR
  have few:=Xx hf
  have c2:∀ S,zZ zi O 35 [iz 1 [m.kind,m.frm,m.index,m.view,m.value,m.prep]] S=some (.tuple #[by_ 2 (encs (Yb m)),.int .i64 0],S):=fun S=>by
   rw [zK.v (l:=[m.kind,m.frm,m.index,m.view,m.value,m.prep]) Okl.read (by decide) (fun n hn=>by have:=few n hn;omega) S,JW (l:=[m.kind,m.frm,m.index,m.view,m.value,m.prep]) (by simp) (fun n hn=>(few n hn).1) (by simp)];rfl
  have ck:∀ S,zZ zi O 40 [.int .i64 m.frm] S=some (.int .u64 (XG m.frm),S):=fun S=>qg.v hf.frm.1 hf.frm.2 S
  have cn:∀ b S,zZ zi O 38 [.int .u64 (Ya (XG m.frm) b)] S=some (by_ 2 (enc (Ya (XG m.frm) b).toNat),S):=fun b S=>by
   have:=jv.v (Ya (XG m.frm) b).toNat (ajB _ _) S
   rw [agC] at this
   exact this
  have a0:∀ S,wR zi 33 33 (by_ 2 (enc (mkM m))) (by_ 1 (xE m)) S=some (by_ 2 (Jd m),S):=fun S=>by
   rw [xG Okl.own (by decide) Okl.read (by have:=V4 hf;have:=JB (ajB (XG m.frm) (xE m));unfold mkM;omega)];rfl
  have em:enc (Ya (XG m.frm) (xE m)).toNat=enc (mkM m):=rfl
  have cof:∀ S,zZ zi O 39 [.int .u64 (XG m.frm),by_ 1 (xE m)] S=some (.int .u64 (Ya (XG m.frm) (xE m)),S):=fun S=>jf.v Okl.read (by decide) (by have:=V4 hf;omega) S
  have hcv:jW 16 (.tuple #[by_ 2 (Jd m),.int .i64 0])=true:=yV (all2 (qH (k:=2) (Nat.le_refl 2)) rfl)
  by_cases k0:m.kind=0
  ·
   have c3:∀ S,zZ zi O 36 [tv m.tx] S=some (.tuple #[by_ 2 (txB m.tx),.int .i64 0],S):=fun S=>by
    rw [jJ.v m.tx S,ajK,if_pos (hf.tx k0)]
   have a1:∀ S,wR zi 33 33 (by_ 2 (encs (Yb m))) (by_ 1 (txB m.tx)) S=some (by_ 2 (xE m),S):=fun S=>by
    rw [xG Okl.own (by decide) Okl.read (by have:=aaf hf;have:=acp (hf.tx k0);omega)]
    rw [if_neg (by omega)];simp only [xE,Jc,if_pos k0]
   conv at hr =>
    rhs
    rw [hTe]
    simp only [zT.code,zT.rs,zSs,reduceIte,zk,zn,zo,zq,Zc,zO,je,ji,jk,zY,jm,jl,jd,wS g0,yK g0,yO g0,yX g0,yD g0,qh g0,qm g0,yY g0 hm.b.ne,xI g0 hm.b.ne,c0,bs6,c2,decide_eq_true k0,decide_eq_false (show ¬ m.kind=1 by omega),c3,a1,ck,Q7,cof,cn,em,a0]
   rw [hTe] at hr
   exact zT.runs hr (.inr rfl) (by simp only [List.getD_cons_succ,List.getD_cons_zero,wJ,wC,jS,jY,wB]) rfl hc hcv
  by_cases k1:m.kind=1
  ·
   have c3:∀ S,zZ zi O 37 [bv m.b] S=some (.tuple #[by_ 2 (XB m.b),.int .i64 0],S):=fun S=>by
    rw [jw.v hm.b S,acr,if_pos (hf.blk k1)]
   have a1:∀ S,wR zi 33 33 (by_ 2 (encs (Yb m))) (by_ 1 (XB m.b)) S=some (by_ 2 (xE m),S):=fun S=>by
    rw [xG Okl.own (by decide) Okl.read (by have:=aaf hf;have:=adt (hf.blk k1);omega)]
    rw [if_neg (by omega)];simp only [xE,Jc,if_neg k0,if_pos k1]
   conv at hr =>
    rhs
    rw [hTe]
    simp only [zT.code,zT.rs,zSs,reduceIte,zk,zn,zo,zq,Zc,zO,je,ji,jk,zY,jm,jl,jd,wS g0,yK g0,yO g0,yX g0,yD g0,qh g0,qm g0,yY g0 hm.b.ne,xI g0 hm.b.ne,c0,bs6,c2,decide_eq_false k0,decide_eq_true k1,c3,a1,ck,Q7,cof,cn,em,a0]
   rw [hTe] at hr
   exact zT.runs hr (.inr rfl) (by simp only [List.getD_cons_succ,List.getD_cons_zero,wJ,wC,jS,jY,wB]) rfl hc hcv
  have eb:encs (Yb m)=xE m:=by simp only [xE,Jc,if_neg k0,if_neg k1,List.append_nil]
  conv at hr =>
   rhs
   rw [hTe]
   simp only [zT.code,zT.rs,zSs,reduceIte,zk,zn,zo,zq,Zc,zO,je,ji,jk,zY,jm,jl,jd,wS g0,yK g0,yO g0,yX g0,yD g0,qh g0,qm g0,yY g0 hm.b.ne,xI g0 hm.b.ne,c0,bs6,c2,decide_eq_false k0,decide_eq_false k1,eb,ck,Q7,cof,cn,em,a0]
  rw [hTe] at hr
  exact zT.runs hr (.inr rfl) (by simp only [List.getD_cons_succ,List.getD_cons_zero,wJ,wC,jS,jY,wB]) rfl hc hcv
end Go.Proofs.Ytfjogganfjkckaa
namespace Go.Proofs.Ytfjogganfjkckaa
open Go.Abs
theorem Zg {a b:kS}:kN a b=true ↔ a.slot=b.slot∧a.miner=b.miner∧a.variant=b.variant∧a.parent=b.parent∧a.txs=b.txs:=by
 simp [kN]
theorem VB {m:yg} {b:kS} (h:kN m.b b=true):y9 { m with b:=b }=y9 m:=by
 rw [right_eq,right_eq]
 obtain ⟨k,f,i,v,w,p,t,c⟩:=m
 obtain ⟨c1,c2,c3,c4,c5,c6⟩:=c
 obtain ⟨b1,b2,b3,b4,b5,b6⟩:=b
 obtain ⟨e1,e2,e3,e4,e5⟩:=Zg.1 h
 dsimp only at e1 e2 e3 e4 e5
 subst e1 e2 e3 e4 e5
 rfl
theorem afl (l:List UInt8):qp 6 l=none∨∃ a b c d e f r,qp 6 l=some ([a,b,c,d,e,f],r)∧r.length≤l.length:=by
 cases h:qp 6 l with
 | none=>exact .inl rfl
 | some ar =>
  obtain ⟨a,r⟩:=ar
  obtain ⟨h1,h2⟩:=WT h
  match a,h1 with
  | [x,y,z,w,u,v],_=>exact .inr ⟨x,y,z,w,u,v,r,rfl,h2⟩
theorem WA {x:yg} (hx:y9 x=true):qp 6 (xE x)=some (Yb x,Jc x):=by
 have f1:=Xx (Za hx)
 exact (y7 _ _ _ _).mpr ⟨rfl,rfl,fun n hn=>by have:=f1 n hn;unfold Few;omega⟩
theorem Wn {l r:List UInt8} {a b c d e f:Int} (h:qp 6 l=some ([a,b,c,d,e,f],r)) {x:yg} (hx:y9 x=true) (hl:l=xE x) :
  x.kind=a∧x.frm=b∧x.index=c∧x.view=d∧x.value=e∧x.prep=f∧Jc x=r:=by
 have:=WA hx
 rw [← hl,h] at this
 simp only [Option.some.injEq,Prod.mk.injEq,Yb,List.cons.injEq,and_true] at this
 obtain ⟨⟨h1,h2,h3,h4,h5,h6⟩,h7⟩:=this
 exact ⟨h1.symm,h2.symm,h3.symm,h4.symm,h5.symm,h6.symm,h7.symm⟩
def Yo (l:List UInt8) (m:yg) (ok:Bool):Prop:=m.Ok∧m.b.txs.length≤3∧((ok=true∧y9 m=true∧l=xE m)∨(ok=false∧∀ x,y9 x=true→l≠xE x))
theorem Qq:m0.Ok:=by
 have z:Big 0:=⟨by omega,by omega⟩
 exact ⟨ok0,⟨z,z⟩,z,z,z,z,z,z⟩
theorem yT {n:Int} (h:Few n):Big n:=by unfold Few at h;unfold Big;omega
theorem ade {t:TxV} (h:qF t=true):t.Ok:=by
 have:=xJ.1 h
 exact ⟨⟨by omega,by omega⟩,⟨by omega,by omega⟩⟩
section
variable {l r:List UInt8} {a b c d e f:Int}
theorem ahO {t:TxV} (h:qp 6 l=some ([a,b,c,d,e,f],r)) (ha:a=0) (ht:afM r=some t):Yo l ⟨a,b,c,d,e,f,t,bk0⟩ (y9 ⟨a,b,c,d,e,f,t,bk0⟩):=by
 obtain ⟨_,g2,few⟩:=(y7 _ _ _ _).mp h
 obtain ⟨t1,t2⟩:=(JV r t).1 ht
 refine ⟨⟨ok0,ade t1,yT (few _ (by simp)),yT (few _ (by simp)),yT (few _ (by simp)),yT (few _ (by simp)),yT (few _ (by simp)),yT (few _ (by simp))⟩,by simp,?_⟩
 cases hR:y9 ⟨a,b,c,d,e,f,t,bk0⟩
 ·
  refine .inr ⟨rfl,fun x hx hl=>?_⟩
  obtain ⟨i1,i2,i3,i4,i5,i6,i7⟩:=Wn h hx hl
  have hf:=Za hx
  have k0:x.kind=0:=by omega
  have h3:=(JV r x.tx).2 ⟨hf.tx k0,by rw [← i7,Jc,if_pos k0]⟩
  rw [ht] at h3
  have:=VB (m:=x) (b:=bk0) (hf.noblk (by omega))
  rw [hx] at this
  have e:({ x with b:=bk0 }:yg)=⟨a,b,c,d,e,f,t,bk0⟩:=mk_eq i1 i2 i3 i4 i5 i6 (by injection h3 with h3;exact h3.symm) rfl
  rw [e,hR] at this
  cases this
 ·
  refine .inl ⟨rfl,rfl,?_⟩
  rw [g2,t2]
  simp only [xE,Yb,Jc,if_pos ha]
theorem agz {t:TxV} (h:qp 6 l=some ([a,b,c,d,e,f],r)) (ha:a=0) (ht:afM r=none):Yo l ⟨a,b,c,d,e,f,⟨0,0⟩,bk0⟩ false:=by
 obtain ⟨_,g2,few⟩:=(y7 _ _ _ _).mp h
 refine ⟨⟨ok0,Qq.tx,yT (few _ (by simp)),yT (few _ (by simp)),yT (few _ (by simp)),yT (few _ (by simp)),yT (few _ (by simp)),yT (few _ (by simp))⟩,by simp,.inr ⟨rfl,fun x hx hl=>?_⟩⟩
 obtain ⟨i1,i2,i3,i4,i5,i6,i7⟩:=Wn h hx hl
 have k0:x.kind=0:=by omega
 have h3:=(JV r x.tx).2 ⟨(Za hx).tx k0,by rw [← i7,Jc,if_pos k0]⟩
 rw [ht] at h3
 cases h3
theorem aic {y:kS} (h:qp 6 l=some ([a,b,c,d,e,f],r)) (ha:a=1) (hy:y.Ok) (hy3:y.txs.length≤3) (hb:ag3 r=some ⟨y.slot,y.miner,y.variant,y.parent,0,y.txs⟩):Yo l ⟨a,b,c,d,e,f,⟨0,0⟩,y⟩ (y9 ⟨a,b,c,d,e,f,⟨0,0⟩,y⟩):=by
 obtain ⟨_,g2,few⟩:=(y7 _ _ _ _).mp h
 obtain ⟨⟨t1,_⟩,t2⟩:=(WY r _).1 hb
 refine ⟨⟨hy,Qq.tx,yT (few _ (by simp)),yT (few _ (by simp)),yT (few _ (by simp)),yT (few _ (by simp)),yT (few _ (by simp)),yT (few _ (by simp))⟩,hy3,?_⟩
 cases hR:y9 ⟨a,b,c,d,e,f,⟨0,0⟩,y⟩
 ·
  refine .inr ⟨rfl,fun x hx hl=>?_⟩
  obtain ⟨i1,i2,i3,i4,i5,i6,i7⟩:=Wn h hx hl
  have hf:=Za hx
  have k1:x.kind=1:=by omega
  have h3:=(WY r ⟨x.b.slot,x.b.miner,x.b.variant,x.b.parent,0,x.b.txs⟩).2 ⟨⟨hf.blk k1,rfl⟩,by rw [← i7,Jc,if_neg (by omega),if_pos k1];rfl⟩
  rw [hb] at h3
  simp only [Option.some.injEq,kS.mk.injEq,true_and] at h3
  have:=VB (m:=x) (b:=y) (Zg.2 ⟨h3.1.symm,h3.2.1.symm,h3.2.2.1.symm,h3.2.2.2.1.symm,h3.2.2.2.2.symm⟩)
  rw [hx] at this
  have e:({ x with b:=y }:yg)=⟨a,b,c,d,e,f,⟨0,0⟩,y⟩:=mk_eq i1 i2 i3 i4 i5 i6 (hf.notx (by omega)) rfl
  rw [e,hR] at this
  cases this
 ·
  refine .inl ⟨rfl,rfl,?_⟩
  rw [g2,t2]
  simp only [xE,Yb,Jc,if_pos ha,if_neg (show ¬ a=0 by omega)]
  rfl
theorem agN (h:qp 6 l=some ([a,b,c,d,e,f],r)) (ha:a=1) (hb:ag3 r=none):Yo l ⟨a,b,c,d,e,f,⟨0,0⟩,bk0⟩ false:=by
 obtain ⟨_,g2,few⟩:=(y7 _ _ _ _).mp h
 refine ⟨⟨ok0,Qq.tx,yT (few _ (by simp)),yT (few _ (by simp)),yT (few _ (by simp)),yT (few _ (by simp)),yT (few _ (by simp)),yT (few _ (by simp))⟩,by simp,.inr ⟨rfl,fun x hx hl=>?_⟩⟩
 obtain ⟨i1,i2,i3,i4,i5,i6,i7⟩:=Wn h hx hl
 have k1:x.kind=1:=by omega
 have h3:=(WY r ⟨x.b.slot,x.b.miner,x.b.variant,x.b.parent,0,x.b.txs⟩).2 ⟨⟨(Za hx).blk k1,rfl⟩,by rw [← i7,Jc,if_neg (by omega),if_pos k1];rfl⟩
 rw [hb] at h3
 cases h3
theorem ahE (h:qp 6 l=some ([a,b,c,d,e,f],r)) (h0:a≠0) (h1:a≠1):Yo l ⟨a,b,c,d,e,f,⟨0,0⟩,bk0⟩ (decide ((r.length:Int)=0) && y9 ⟨a,b,c,d,e,f,⟨0,0⟩,bk0⟩):=by
 obtain ⟨_,g2,few⟩:=(y7 _ _ _ _).mp h
 refine ⟨⟨ok0,Qq.tx,yT (few _ (by simp)),yT (few _ (by simp)),yT (few _ (by simp)),yT (few _ (by simp)),yT (few _ (by simp)),yT (few _ (by simp))⟩,by simp,?_⟩
 cases hR:(decide ((r.length:Int)=0) && y9 ⟨a,b,c,d,e,f,⟨0,0⟩,bk0⟩)
 ·
  refine .inr ⟨rfl,fun x hx hl=>?_⟩
  obtain ⟨i1,i2,i3,i4,i5,i6,i7⟩:=Wn h hx hl
  have hf:=Za hx
  rw [Jc,if_neg (by omega),if_neg (by omega)] at i7
  have:=VB (m:=x) (b:=bk0) (hf.noblk (by omega))
  rw [hx] at this
  have e:({ x with b:=bk0 }:yg)=⟨a,b,c,d,e,f,⟨0,0⟩,bk0⟩:=mk_eq i1 i2 i3 i4 i5 i6 (hf.notx (by omega)) rfl
  rw [e] at this
  rw [this,← i7] at hR
  simp at hR
 ·
  rw [Bool.and_eq_true,decide_eq_true_eq] at hR
  refine .inl ⟨rfl,hR.2,?_⟩
  have hr0:r=[]:=List.length_eq_zero_iff.1 (by omega)
  rw [g2,hr0]
  simp only [xE,Yb,Jc,if_neg h0,if_neg h1]
theorem aeB (h:qp 6 l=none):Yo l m0 false:=⟨Qq,by simp,.inr ⟨rfl,fun x hx hl=>by
 have:=WA hx
 rw [← hl,h] at this
 cases this⟩⟩
end
theorem jA.v {k:Nat} {l:List UInt8} (hk:Okl k l) (k2:k≠2) (hl:l.length≤140737488355328):∃ m ok,Yo l m ok∧∀ S,zZ zi O jA.id [by_ k l] S=some (.tuple #[mv m,.bool ok],S):=by
 have a1:yI zi 48 zy.empty=some (.pointer (some ⟨0,0,none⟩),YN m0):=Xz zy.empty
 have g1:=xP m0
 have ne0:(0:Nat)≠2:=by decide
 have cl:[by_ k l].all (jW 16)=true:=all1 (qH (k:=k) hk.le)
 obtain ⟨T,hTe⟩:∃ T,T=(by_ k l::zh::zh::zh::zh::zh::zh::zh::zh::zh::zh::zh::zh::zh::zh::zh::zh::zh::zh::zh::zh::zh::zh::zh::zh::zh::zh::zh::zh::zh::zh::zh::zh::zh::zh::zh::zh::zh::zh::zh::zh::zh::zh::zh::zh::zh::zh::zh::zh::zh::zh::zh::zh::zh::zh::zh::zh::zh::zh::zh::zh::zh::zh::zh::zh::zh::zh::zh::zh::[]):=⟨_,rfl⟩
 have hr:zJ zi O false jA.code T zy.empty=zJ zi O false jA.code T zy.empty:=rfl
 have c1:=fun S=>zS.v (many:=6) hk k2 hl S
 have r1:∀ k0 k1,Zi k0 k1 6 l=_:=fun k0 k1=>xU (m:=6) (by decide) (by decide)
 rw [r1] at c1
 rcases afl l with h | ⟨a,b,c,d,e,f,r,h,hlr⟩
 ·
  rw [h] at c1
  refine ⟨m0,false,aeB h,fun S=>?_⟩
  have s1:=Qd g1 m0
  conv at hr =>
   rhs
   rw [hTe]
   simp only [jA.code,jA.rs,zSs,reduceIte,zk,zn,zo,zq,if_neg k2,a1,c1,xI g1 (by decide),s1]
  rw [hTe] at hr
  exact jA.runs hr (.inr rfl) (xI (wQ _ 0 m0) (by decide)) rfl rfl cl rfl
 ·
  rw [h] at c1
  have i0:=fun S=>vK (k:=1) (i:=0) (m:=0) (l:=[a,b,c,d,e,f]) Okl.read rfl rfl S
  have i1:=fun S=>vK (k:=1) (i:=1) (m:=1) (l:=[a,b,c,d,e,f]) Okl.read rfl rfl S
  have i2:=fun S=>vK (k:=1) (i:=2) (m:=2) (l:=[a,b,c,d,e,f]) Okl.read rfl rfl S
  have i3:=fun S=>vK (k:=1) (i:=3) (m:=3) (l:=[a,b,c,d,e,f]) Okl.read rfl rfl S
  have i4:=fun S=>vK (k:=1) (i:=4) (m:=4) (l:=[a,b,c,d,e,f]) Okl.read rfl rfl S
  have i5:=fun S=>vK (k:=1) (i:=5) (m:=5) (l:=[a,b,c,d,e,f]) Okl.read rfl rfl S
  have bd:=fun S=>Zw (y0:=.int .i64 a) (y1:=.int .i64 b) (y2:=.int .i64 c) (y3:=.int .i64 d) (y4:=.int .i64 e) (y5:=.int .i64 f) yS yS yS yS yS yS S
  have s1:wU zi 48 (.pointer (some ⟨0,0,none⟩)) (.agg [Value.int .i64 a,.int .i64 b,.int .i64 c,.int .i64 d,.int .i64 e,.int .i64 f,.int .i64 0,.int .i64 0,.int .i64 0,.int .i64 0,.int .i64 0,.int .i64 0,.slice none 0 0].toArray) (YN m0)=some (zh,kG (YN m0) 0 ⟨a,b,c,d,e,f,⟨0,0⟩,bk0⟩):=Qd g1 ⟨a,b,c,d,e,f,⟨0,0⟩,bk0⟩
  have g2:=wQ (YN m0) 0 ⟨a,b,c,d,e,f,⟨0,0⟩,bk0⟩
  generalize kG (YN m0) 0 ⟨a,b,c,d,e,f,⟨0,0⟩,bk0⟩=A2 at s1 g2
  by_cases k0:a=0
  ·
   obtain ⟨t,x,o1,o2⟩:=X6 r
   have c2:=fun S=>y8.v (k:=1) (l:=r) Okl.read (by decide) (by omega) S
   rw [o1] at c2
   have s2:=ajw g2 t
   have g3:=wQ A2 0 ⟨a,b,c,d,e,f,t,bk0⟩
   dsimp only at s2
   generalize kG A2 0 ⟨a,b,c,d,e,f,t,bk0⟩=A3 at s2 g3
   have s3:=Qd g3 ⟨a,b,c,d,e,f,t,bk0⟩
   have fin:=xI (wQ A3 0 ⟨a,b,c,d,e,f,t,bk0⟩) (by show (0:Nat)≠2;decide)
   rcases o2 with ⟨rfl,o2⟩ | ⟨rfl,o2,rfl⟩
   ·
    have hP:=ahO h k0 o2
    have c3:=fun S=>jI.v hP.1 S
    refine ⟨_,_,hP,fun S=>?_⟩
    conv at hr =>
     rhs
     rw [hTe]
     simp only [jA.code,jA.rs,zSs,reduceIte,zk,zn,zo,zq,if_neg k2,a1,c1,i0,i1,i2,i3,i4,i5,qy,bd,s1,zO,wS g2,decide_eq_true k0,c2,jl,s2,xI g3 ne0,kF (JH _),c3,yP g3,s3]
    rw [hTe] at hr
    exact jA.runs hr (.inr rfl) fin rfl rfl cl (yV (all2 (yM hP.1.b.okl.le) rfl))
   ·
    have hP:=agz (t:=⟨0,0⟩) h k0 o2
    refine ⟨_,_,hP,fun S=>?_⟩
    conv at hr =>
     rhs
     rw [hTe]
     simp only [jA.code,jA.rs,zSs,reduceIte,zk,zn,zo,zq,if_neg k2,a1,c1,i0,i1,i2,i3,i4,i5,qy,bd,s1,zO,wS g2,decide_eq_true k0,c2,jl,s2,xI g3 ne0,kF (JH _),yP g3,s3]
    rw [hTe] at hr
    exact jA.runs hr (.inr rfl) fin rfl rfl cl (yV (all2 (yM hP.1.b.okl.le) rfl))
  by_cases k1:a=1
  ·
   obtain ⟨y,x,⟨hy,hy3,o2⟩,c2⟩:=jQ.v (k:=1) (l:=r) Okl.read (by decide) (by omega)
   have s2:=aj3 g2 y
   have g3:=wQ A2 0 ⟨a,b,c,d,e,f,⟨0,0⟩,y⟩
   dsimp only at s2
   generalize kG A2 0 ⟨a,b,c,d,e,f,⟨0,0⟩,y⟩=A3 at s2 g3
   have s3:=Qd g3 ⟨a,b,c,d,e,f,⟨0,0⟩,y⟩
   have fin:=xI (wQ A3 0 ⟨a,b,c,d,e,f,⟨0,0⟩,y⟩) hy.ne
   rcases o2 with ⟨rfl,o2,_⟩ | ⟨rfl,o2,rfl⟩
   ·
    have hP:=aic h k1 hy hy3 o2
    have c3:=fun S=>jI.v hP.1 S
    refine ⟨_,_,hP,fun S=>?_⟩
    conv at hr =>
     rhs
     rw [hTe]
     simp only [jA.code,jA.rs,zSs,reduceIte,zk,zn,zo,zq,if_neg k2,a1,c1,i0,i1,i2,i3,i4,i5,qy,bd,s1,zO,wS g2,decide_eq_false k0,decide_eq_true k1,c2,jd,s2,xI g3 hy.ne,kF (JH _),c3,yP g3,s3]
    rw [hTe] at hr
    exact jA.runs hr (.inr rfl) fin rfl rfl cl (yV (all2 (yM hP.1.b.okl.le) rfl))
   ·
    have hP:=agN h k1 o2
    refine ⟨_,_,hP,fun S=>?_⟩
    conv at hr =>
     rhs
     rw [hTe]
     simp only [jA.code,jA.rs,zSs,reduceIte,zk,zn,zo,zq,if_neg k2,a1,c1,i0,i1,i2,i3,i4,i5,qy,bd,s1,zO,wS g2,decide_eq_false k0,decide_eq_true k1,c2,jd,s2,xI g3 ne0,kF (JH _),yP g3,s3]
    rw [hTe] at hr
    exact jA.runs hr (.inr rfl) fin rfl rfl cl (yV (all2 (yM hP.1.b.okl.le) rfl))
  have hP:=ahE h k0 k1
  have c3:=fun S=>jI.v hP.1 S
  have ln:∀ S,Zu zi 33 (by_ 1 r) S=some (.int .i64 r.length,S):=fun S=>ZP Okl.read
  have s3:=Qd g2 ⟨a,b,c,d,e,f,⟨0,0⟩,bk0⟩
  have fin:=xI (wQ A2 0 ⟨a,b,c,d,e,f,⟨0,0⟩,bk0⟩) (by show (0:Nat)≠2;decide)
  refine ⟨_,_,hP,fun S=>?_⟩
  conv at hr =>
   rhs
   rw [hTe]
   simp only [jA.code,jA.rs,zSs,reduceIte,zk,zn,zo,zq,if_neg k2,a1,c1,i0,i1,i2,i3,i4,i5,qy,bd,s1,zO,wS g2,decide_eq_false k0,decide_eq_false k1,ln,xI g2 ne0,zB (xI g2 ne0),zB (c3 _),gvw,kF (JH _),yP g2,s3]
  rw [hTe] at hr
  exact jA.runs hr (.inr rfl) fin rfl rfl cl (yV (all2 (yM hP.1.b.okl.le) rfl))
end Go.Proofs.Ytfjogganfjkckaa
namespace Go.Proofs.Ytfjogganfjkckaa
open Go.Abs
theorem kU {x y:yg}:ZB x y=true ↔ x.kind=y.kind∧x.frm=y.frm∧x.index=y.index∧x.view=y.view∧x.value=y.value∧x.prep=y.prep∧x.tx=y.tx∧kN x.b y.b=true:=by
 simp [ZB]
theorem Qe {a b:kS} (h:kN a b=true):kN b a=true:=by
 rw [Zg] at h ⊢;exact ⟨h.1.symm,h.2.1.symm,h.2.2.1.symm,h.2.2.2.1.symm,h.2.2.2.2.symm⟩
theorem Kv {a b c:kS} (h:kN a b=true) (k:kN b c=true):kN a c=true:=by
 rw [Zg] at h k ⊢;exact ⟨h.1.trans k.1,h.2.1.trans k.2.1,h.2.2.1.trans k.2.2.1,h.2.2.2.1.trans k.2.2.2.1,h.2.2.2.2.trans k.2.2.2.2⟩
theorem adY (m:yg):ZB m m=true:=kU.2 ⟨rfl,rfl,rfl,rfl,rfl,rfl,rfl,Zb _⟩
theorem XU {x y:yg} (h:ZB x y=true):ZB y x=true:=by
 rw [kU] at h ⊢
 obtain ⟨h1,h2,h3,h4,h5,h6,h7,h8⟩:=h
 exact ⟨h1.symm,h2.symm,h3.symm,h4.symm,h5.symm,h6.symm,h7.symm,Qe h8⟩
theorem like {x y:yg} (h:ZB x y=true):y9 y=y9 x∧xE y=xE x∧Jd y=Jd x:=by
 obtain ⟨h1,h2,h3,h4,h5,h6,h7,h8⟩:=kU.1 h
 have e:y={ x with b:=y.b }:=mk_eq h1.symm h2.symm h3.symm h4.symm h5.symm h6.symm h7.symm rfl
 have hb:xE y=xE x:=by
  obtain ⟨s1,s2,s3,s4,s5⟩:=Zg.1 h8
  simp only [xE,Yb,Jc,XB,← h1,← h2,← h3,← h4,← h5,← h6,← h7,← s1,← s2,← s3,← s4,← s5]
 refine ⟨?_,hb,?_⟩
 ·
  rw [e];exact VB h8
 ·
  simp only [Jd,mkM,hb,← h2]
theorem adw {x y:yg} (hx:y9 x=true) (hy:y9 y=true) (h:xE x=xE y):ZB x y=true:=by
 have e:=WA hx
 rw [h,WA hy] at e
 simp only [Option.some.injEq,Prod.mk.injEq,Yb,List.cons.injEq,and_true] at e
 obtain ⟨⟨h1,h2,h3,h4,h5,h6⟩,h7⟩:=e
 have fx:=Za hx;have fy:=Za hy
 refine kU.2 ⟨h1.symm,h2.symm,h3.symm,h4.symm,h5.symm,h6.symm,?_,?_⟩
 ·
  by_cases k:x.kind=0
  ·
   have ky:y.kind=0:=by omega
   rw [Jc,Jc,if_pos k,if_pos ky] at h7
   exact (ae7 (r:=[]) (s:=[]) (fx.tx k) (fy.tx ky) (by rw [List.append_nil,List.append_nil,h7])).1
  ·
   rw [fx.notx k,fy.notx (by omega)]
 ·
  by_cases k:x.kind=1
  ·
   have ky:y.kind=1:=by omega
   rw [Jc,Jc,if_neg (show ¬ y.kind=0 by omega),if_neg (show ¬ x.kind=0 by omega),if_pos ky,if_pos k] at h7
   exact Zg.2 (VK (r:=[]) (s:=[]) (fx.blk k) (fy.blk ky) (by rw [List.append_nil,List.append_nil,h7])).1
  ·
   exact Kv (fx.noblk k) (Qe (fy.noblk (by omega)))
theorem aaT (m:yg):mkM m < 2 ^ 64:=ajB _ _
theorem aan {x y:yg} (hx:y9 x=true) (hy:y9 y=true) (h:Jd x=Jd y):ZB x y=true :=
 adw hx hy (ai8 (aaT x) (aaT y) h).2
def Qb (l:List UInt8) (m:yg) (e:Int):Prop:=m.Ok∧m.b.txs.length≤3∧((e=0∧y9 m=true∧l=Jd m)∨(e=121∧m=m0∧∀ x,y9 x=true→l≠Jd x))
theorem Xy {l:List UInt8} (h:scan 0 0 l=none):Qb l m0 121:=⟨Qq,by simp,.inr ⟨rfl,rfl,fun x hx hl=>by
 have:=YI (aaT x) (xE x)
 rw [show enc (mkM x)++xE x=l from hl.symm,h] at this
 cases this⟩⟩
theorem QX {l r:List UInt8} {n:Nat} (h:scan 0 0 l=some (n,r)) {x:yg} (hl:l=Jd x):n=mkM x∧r=xE x:=by
 have:=YI (aaT x) (xE x)
 rw [show enc (mkM x)++xE x=l from hl.symm,h] at this
 simpa using this
theorem wV.v {k:Nat} {l:List UInt8} (hk:Okl k l) (k2:k≠2) (hl:l.length≤140737488355328):∃ m e,Qb l m e∧∀ S,zZ zi O wV.id [by_ k l] S=some (.tuple #[mv m,.int .i64 e],S):=by
 have a1:yI zi 48 zy.empty=some (.pointer (some ⟨0,0,none⟩),YN m0):=Xz zy.empty
 have g1:=xP m0
 have ne0:(0:Nat)≠2:=by decide
 have cl:[by_ k l].all (jW 16)=true:=all1 (qH (k:=k) hk.le)
 obtain ⟨T,hTe⟩:∃ T,T=(by_ k l::zh::zh::zh::zh::zh::zh::zh::zh::zh::zh::zh::zh::zh::zh::zh::zh::zh::zh::zh::zh::zh::zh::zh::zh::zh::zh::zh::zh::zh::zh::zh::zh::zh::zh::zh::[]):=⟨_,rfl⟩
 have hr:zJ zi O false wV.code T zy.empty=zJ zi O false wV.code T zy.empty:=rfl
 have c1:=fun S=>jC.v hk k2 hl S
 unfold XL at c1
 have z0:∀ S,yA zi 48 [] S=some (mv m0,S):=fun S=>Vk S
 cases h:scan 0 0 l with
 | none =>
  rw [h] at c1
  have s1:=Qd g1 m0
  refine ⟨m0,121,Xy h,fun S=>?_⟩
  conv at hr =>
   rhs
   rw [hTe]
   simp only [wV.code,wV.rs,zSs,reduceIte,zk,zn,zo,zq,if_neg k2,a1,c1,z0,s1]
  rw [hTe] at hr
  exact wV.runs hr (.inr rfl) (xI (wQ _ 0 m0) ne0) rfl rfl cl rfl
 | some nr =>
  obtain ⟨n,r⟩:=nr
  rw [h] at c1
  obtain ⟨hn,hlr⟩:=Xn l 0 0 (by decide) (by decide) n r h
  obtain ⟨m,ok,⟨mo,m3,hP⟩,c2⟩:=jA.v (k:=1) (l:=r) Okl.read (by decide) (by omega)
  have a2:yI zi 48 (YN m0)=some (.pointer (some ⟨1,0,none⟩),Ql m0 m0):=Xz (YN m0)
  have s1:=Qd (acI m0 m0) m
  have g2:=wQ (Ql m0 m0) 1 m
  have g3:(kG (Ql m0 m0) 1 m).get 0=some (.cells (fM m0) (.own []) 0):=(yG (by decide)).trans (acQ m0 m0)
  generalize kG (Ql m0 m0) 1 m=A2 at s1 g2 g3
  have s2:=Qd g3 m0
  have f2:=xI (wQ A2 0 m0) ne0
  have s3:=Qd g3 m
  have f3:=xI (wQ A2 0 m) mo.b.ne
  rcases hP with ⟨rfl,hR,hb⟩ | ⟨rfl,hP⟩
  ·
   have ck:=fun S=>kY.v m.frm S
   have ct:=fun S=>qB.v (k:=1) (l:=r) Okl.read rfl (by omega) (key:=XG m.frm) (mark:=n) S
   have em:Ya (XG m.frm) r=(mkM m:Nat):=by rw [hb];exact (agC _ _).symm
   by_cases hq:Ya (XG m.frm) r=n
   ·
    refine ⟨m,0,⟨mo,m3,.inl ⟨rfl,hR,?_⟩⟩,fun S=>?_⟩
    ·
     rw [(abq h).1,Jd,← hb]
     congr 2
     omega
    rw [decide_eq_true hq] at ct
    conv at hr =>
     rhs
     rw [hTe]
     simp only [wV.code,wV.rs,zSs,reduceIte,zk,zn,zo,zq,if_neg k2,a1,c1,c2,a2,s1,je,yK g2,ck,ct,xI g2 mo.b.ne,s3]
    rw [hTe] at hr
    exact wV.runs hr (.inr rfl) f3 rfl rfl cl (yV (all2 (yM mo.b.okl.le) rfl))
   ·
    refine ⟨m0,121,⟨Qq,by simp,.inr ⟨rfl,rfl,fun x hx hl=>?_⟩⟩,fun S=>?_⟩
    ·
     obtain ⟨i1,i2⟩:=QX h hl
     have hs:=adw hx hR (by rw [← i2,hb])
     refine hq ?_
     rw [em,i1]
     simp only [mkM,(like hs).2.1,(kU.1 hs).2.1]
    rw [decide_eq_false hq] at ct
    conv at hr =>
     rhs
     rw [hTe]
     simp only [wV.code,wV.rs,zSs,reduceIte,zk,zn,zo,zq,if_neg k2,a1,c1,c2,a2,s1,je,yK g2,ck,ct,z0,s2]
    rw [hTe] at hr
    exact wV.runs hr (.inr rfl) f2 rfl rfl cl rfl
  ·
   refine ⟨m0,121,⟨Qq,by simp,.inr ⟨rfl,rfl,fun x hx hl=>hP x hx (QX h hl).2⟩⟩,fun S=>?_⟩
   conv at hr =>
    rhs
    rw [hTe]
    simp only [wV.code,wV.rs,zSs,reduceIte,zk,zn,zo,zq,if_neg k2,a1,c1,c2,a2,s1,z0,s2]
   rw [hTe] at hr
   exact wV.runs hr (.inr rfl) f2 rfl rfl cl rfl
theorem aaA {l r:List UInt8} {n:Nat} (h:scan 0 0 l=some (n,r)) {m:yg} (hm:m.Ok) (h3:m.b.txs.length≤3) (hP:∀ x,y9 x=true→r=xE x→ZB x m=true) :
  Qb l (if y9 m=true∧Jd m=l then m else m0) (if y9 m=true∧Jd m=l then 0 else 121):=by
 by_cases hq:y9 m=true∧Jd m=l
 ·
  rw [if_pos hq,if_pos hq]
  exact ⟨hm,h3,.inl ⟨rfl,hq.1,hq.2.symm⟩⟩
 ·
  rw [if_neg hq,if_neg hq]
  refine ⟨Qq,by simp,.inr ⟨rfl,rfl,fun x hx hl=>hq ?_⟩⟩
  have hs:=like (hP x hx (QX h hl).2)
  exact ⟨hs.1.trans hx,hs.2.2.trans hl.symm⟩
theorem zG.v {k:Nat} {l:List UInt8} (hk:Okl k l) (k2:k≠2) (hl:l.length≤140737488355328):∃ m e,Qb l m e∧∀ S,zZ zi O zG.id [by_ k l] S=some (.tuple #[mv m,.int .i64 e],S):=by
 have a1:yI zi 48 zy.empty=some (.pointer (some ⟨0,0,none⟩),YN m0):=Xz zy.empty
 have g1:=xP m0
 have ne0:(0:Nat)≠2:=by decide
 have cl:[by_ k l].all (jW 16)=true:=all1 (qH (k:=k) hk.le)
 obtain ⟨T,hTe⟩:∃ T,T=(by_ k l::zh::zh::zh::zh::zh::zh::zh::zh::zh::zh::zh::zh::zh::zh::zh::zh::zh::zh::zh::zh::zh::zh::zh::zh::zh::zh::zh::zh::zh::zh::zh::zh::zh::zh::zh::zh::zh::zh::zh::zh::zh::zh::zh::zh::zh::zh::zh::zh::zh::zh::zh::zh::zh::zh::zh::zh::zh::zh::zh::zh::zh::zh::zh::zh::zh::zh::zh::zh::zh::zh::zh::zh::zh::zh::zh::zh::zh::zh::zh::zh::zh::zh::zh::[]):=⟨_,rfl⟩
 have hr:zJ zi O false zG.code T zy.empty=zJ zi O false zG.code T zy.empty:=rfl
 have c1:=fun S=>zH.v hk k2 hl S
 unfold XL at c1
 have z0:∀ S,yA zi 48 [] S=some (mv m0,S):=fun S=>Vk S
 cases h:scan 0 0 l with
 | none =>
  rw [h] at c1
  have s1:=Qd g1 m0
  refine ⟨m0,121,Xy h,fun S=>?_⟩
  conv at hr =>
   rhs
   rw [hTe]
   simp only [zG.code,zG.rs,zSs,reduceIte,zk,zn,zo,zq,if_neg k2,a1,c1,z0,s1]
  rw [hTe] at hr
  exact zG.runs hr (.inr rfl) (xI (wQ _ 0 m0) ne0) rfl rfl cl rfl
 | some nr =>
  obtain ⟨n,r0⟩:=nr
  rw [h] at c1
  obtain ⟨hn,hlr⟩:=Xn l 0 0 (by decide) (by decide) n r0 h
  have c2:=fun S=>zD.v (k:=1) (l:=r0) (many:=6) Okl.read (by decide) (by omega) S
  have r1:∀ k0 k1,Zi k0 k1 6 r0=_:=fun k0 k1=>xU (m:=6) (by decide) (by decide)
  rw [r1] at c2
  rcases afl r0 with h6 | ⟨a,b,c,d,e,f,r,h6,hlr6⟩
  ·
   rw [h6] at c2
   have s1:=Qd g1 m0
   refine ⟨m0,121,⟨Qq,by simp,.inr ⟨rfl,rfl,fun x hx hl=>?_⟩⟩,fun S=>?_⟩
   ·
    have:=WA hx
    rw [← (QX h hl).2,h6] at this
    cases this
   conv at hr =>
    rhs
    rw [hTe]
    simp only [zG.code,zG.rs,zSs,reduceIte,zk,zn,zo,zq,if_neg k2,a1,c1,c2,z0,s1]
   rw [hTe] at hr
   exact zG.runs hr (.inr rfl) (xI (wQ _ 0 m0) ne0) rfl rfl cl rfl
  ·
   rw [h6] at c2
   have few:=((y7 _ _ _ _).mp h6).2.2
   have i0:=fun S=>vK (k:=1) (i:=0) (m:=0) (l:=[a,b,c,d,e,f]) Okl.read rfl rfl S
   have i1:=fun S=>vK (k:=1) (i:=1) (m:=1) (l:=[a,b,c,d,e,f]) Okl.read rfl rfl S
   have i2:=fun S=>vK (k:=1) (i:=2) (m:=2) (l:=[a,b,c,d,e,f]) Okl.read rfl rfl S
   have i3:=fun S=>vK (k:=1) (i:=3) (m:=3) (l:=[a,b,c,d,e,f]) Okl.read rfl rfl S
   have i4:=fun S=>vK (k:=1) (i:=4) (m:=4) (l:=[a,b,c,d,e,f]) Okl.read rfl rfl S
   have i5:=fun S=>vK (k:=1) (i:=5) (m:=5) (l:=[a,b,c,d,e,f]) Okl.read rfl rfl S
   have bd:=fun S=>Zw (y0:=.int .i64 a) (y1:=.int .i64 b) (y2:=.int .i64 c) (y3:=.int .i64 d) (y4:=.int .i64 e) (y5:=.int .i64 f) yS yS yS yS yS yS S
   have a2:yI zi 48 (YN m0)=some (.pointer (some ⟨1,0,none⟩),Ql m0 m0):=Xz (YN m0)
   have s1:wU zi 48 (.pointer (some ⟨1,0,none⟩)) (.agg [Value.int .i64 a,.int .i64 b,.int .i64 c,.int .i64 d,.int .i64 e,.int .i64 f,.int .i64 0,.int .i64 0,.int .i64 0,.int .i64 0,.int .i64 0,.int .i64 0,.slice none 0 0].toArray) (Ql m0 m0)=some (zh,kG (Ql m0 m0) 1 ⟨a,b,c,d,e,f,⟨0,0⟩,bk0⟩):=Qd (acI m0 m0) ⟨a,b,c,d,e,f,⟨0,0⟩,bk0⟩
   have g2:=wQ (Ql m0 m0) 1 ⟨a,b,c,d,e,f,⟨0,0⟩,bk0⟩
   have g3:(kG (Ql m0 m0) 1 ⟨a,b,c,d,e,f,⟨0,0⟩,bk0⟩).get 0=some (.cells (fM m0) (.own []) 0):=(yG (by decide)).trans (acQ m0 m0)
   generalize kG (Ql m0 m0) 1 ⟨a,b,c,d,e,f,⟨0,0⟩,bk0⟩=A2 at s1 g2 g3
   have okA:okq 3 (.agg [Value.int .i64 a,.int .i64 b,.int .i64 c,.int .i64 d,.int .i64 e,.int .i64 f,.int .i64 0,.int .i64 0,.int .i64 0,.int .i64 0,.int .i64 0,.int .i64 0,.slice none 0 0].toArray)=true:=rfl
   have fin:∀ (m:yg) (A:zy),A.get 1=some (.cells (fM m) (.own []) 0)→A.get 0=some (.cells (fM m0) (.own []) 0)→m.Ok→∀ S,
     wU zi 48 (.pointer (some ⟨0,0,none⟩)) (mv m) A=some (zh,kG A 0 m)∧wU zi 48 (.pointer (some ⟨0,0,none⟩)) (mv m0) A=some (zh,kG A 0 m0)∧zZ zi O 19 [mv m] S=some (acE m,S) :=
    fun m A h1 h0 hm S=>⟨Qd h0 m,Qd h0 m0,zT.v hm S⟩
   have cs1:∀ S,Jt zi 33 9 (by_ k l) S=some (.string ⟨l.toArray⟩,S):=fun S=>Xi hk
   have cs2:∀ (x:List UInt8) S,Jt zi 33 9 (by_ 1 x) S=some (.string ⟨x.toArray⟩,S):=fun x S=>Xi Okl.read
   have tb:∀ t:TxV,t.Ok→yg.Ok ⟨a,b,c,d,e,f,t,bk0⟩:=fun t ht=>⟨ok0,ht,yT (few _ (by simp)),yT (few _ (by simp)),yT (few _ (by simp)),yT (few _ (by simp)),yT (few _ (by simp)),yT (few _ (by simp))⟩
   by_cases k0:a=0
   ·
    obtain ⟨t,x,o1,o2⟩:=X6 r
    have c3:=fun S=>zX.v (k:=1) (l:=r) Okl.read (by decide) (by omega) S
    rw [o1] at c3
    have s2:=ajw g2 t
    have q1:=wQ A2 1 ⟨a,b,c,d,e,f,t,bk0⟩
    have q0:(kG A2 1 ⟨a,b,c,d,e,f,t,bk0⟩).get 0=some (.cells (fM m0) (.own []) 0):=(yG (by decide)).trans g3
    dsimp only at s2
    generalize kG A2 1 ⟨a,b,c,d,e,f,t,bk0⟩=A3 at s2 q1 q0
    have ht:t.Ok:=by
     rcases o2 with ⟨_,o2⟩ | ⟨_,_,rfl⟩
     ·
      exact ade ((JV r t).1 o2).1
     ·
      exact Qq.tx
    have hm:=tb t ht
    have hP:∀ x,y9 x=true→r0=xE x→ZB x ⟨a,b,c,d,e,f,t,bk0⟩=true:=fun x hx hl=>by
     obtain ⟨i1,i2,i3,i4,i5,i6,i7⟩:=Wn h6 hx hl
     have hf:=Za hx
     have k0:x.kind=0:=by omega
     have h3:=(JV r x.tx).2 ⟨hf.tx k0,by rw [← i7,Jc,if_pos k0]⟩
     refine kU.2 ⟨i1,i2,i3,i4,i5,i6,?_,hf.noblk (by omega)⟩
     rcases o2 with ⟨_,o2⟩ | ⟨_,o2,_⟩
     ·
      rw [o2] at h3;injection h3 with h3;exact h3.symm
     ·
      rw [o2] at h3;cases h3
    have hR:=aaA h hm (by simp) hP
    obtain ⟨w0,w1,_⟩:=fin _ A3 q1 q0 hm zy.empty
    have w2:=fun S=>(fin _ A3 q1 q0 hm S).2.2
    have kk:=decide_eq_true k0
    have kl:decide (a=1)=false:=decide_eq_false (by omega)
    have hcm:=yM (d:=9) hm.b.okl.le
    refine ⟨_,_,hR,fun S=>?_⟩
    unfold acE at w2
    by_cases hb:y9 (⟨a,b,c,d,e,f,t,bk0⟩:yg)=true
    ·
     simp only [if_pos hb] at w2
     by_cases hq:Jd (⟨a,b,c,d,e,f,t,bk0⟩:yg)=l
     ·
      rw [if_pos ⟨hb,hq⟩,if_pos ⟨hb,hq⟩]
      have dq:=decide_eq_true hq
      conv at hr =>
       rhs
       rw [hTe]
       simp only [zG.code,zG.rs,zSs,reduceIte,zk,zn,zo,zq,if_neg k2,a1,c1,c2,i0,i1,i2,i3,i4,i5,qy,kF (J9 (d:=3)),kF okA,bd,a2,s1,xW,zO,wS g2,kk,c3,jl,s2,kl,wS q1,xI q1 ne0,w2,cs1,cs2,vH,dq,w0]
      rw [hTe] at hr
      exact zG.runs hr (.inr rfl) (xI (wQ A3 0 (⟨a,b,c,d,e,f,t,bk0⟩:yg)) ne0) rfl rfl cl (yV (all2 hcm rfl))
     ·
      rw [if_neg (fun h=>hq h.2),if_neg (fun h=>hq h.2)]
      have dq:=decide_eq_false hq
      conv at hr =>
       rhs
       rw [hTe]
       simp only [zG.code,zG.rs,zSs,reduceIte,zk,zn,zo,zq,if_neg k2,a1,c1,c2,i0,i1,i2,i3,i4,i5,qy,kF (J9 (d:=3)),kF okA,bd,a2,s1,xW,zO,wS g2,kk,c3,jl,s2,kl,wS q1,xI q1 ne0,w2,cs1,cs2,vH,dq,z0,w1]
      rw [hTe] at hr
      exact zG.runs hr (.inr rfl) (xI (wQ A3 0 m0) ne0) rfl rfl cl rfl
    ·
     simp only [if_neg hb] at w2
     rw [if_neg (fun h=>hb h.1),if_neg (fun h=>hb h.1)]
     conv at hr =>
      rhs
      rw [hTe]
      simp only [zG.code,zG.rs,zSs,reduceIte,zk,zn,zo,zq,if_neg k2,a1,c1,c2,i0,i1,i2,i3,i4,i5,qy,kF (J9 (d:=3)),kF okA,bd,a2,s1,xW,zO,wS g2,kk,c3,jl,s2,kl,wS q1,xI q1 ne0,w2,cs1,cs2,vH,z0,w1]
     rw [hTe] at hr
     exact zG.runs hr (.inr rfl) (xI (wQ A3 0 m0) ne0) rfl rfl cl rfl
   by_cases k1:a=1
   ·
    obtain ⟨y,x,⟨hy,hy3,o2⟩,c3⟩:=zU.v (k:=1) (l:=r) Okl.read (by decide) (by omega)
    have s2:=aj3 g2 y
    have q1:=wQ A2 1 ⟨a,b,c,d,e,f,⟨0,0⟩,y⟩
    have q0:(kG A2 1 ⟨a,b,c,d,e,f,⟨0,0⟩,y⟩).get 0=some (.cells (fM m0) (.own []) 0):=(yG (by decide)).trans g3
    dsimp only at s2
    generalize kG A2 1 ⟨a,b,c,d,e,f,⟨0,0⟩,y⟩=A3 at s2 q1 q0
    have hm:yg.Ok ⟨a,b,c,d,e,f,⟨0,0⟩,y⟩:=⟨hy,Qq.tx,yT (few _ (by simp)),yT (few _ (by simp)),yT (few _ (by simp)),yT (few _ (by simp)),yT (few _ (by simp)),yT (few _ (by simp))⟩
    have hP:∀ x,y9 x=true→r0=xE x→ZB x ⟨a,b,c,d,e,f,⟨0,0⟩,y⟩=true:=fun x hx hl=>by
     obtain ⟨i1,i2,i3,i4,i5,i6,i7⟩:=Wn h6 hx hl
     have hf:=Za hx
     have k1:x.kind=1:=by omega
     have h3:=(WY r ⟨x.b.slot,x.b.miner,x.b.variant,x.b.parent,0,x.b.txs⟩).2 ⟨⟨hf.blk k1,rfl⟩,by rw [← i7,Jc,if_neg (by omega),if_pos k1];rfl⟩
     refine kU.2 ⟨i1,i2,i3,i4,i5,i6,hf.notx (by omega),?_⟩
     rcases o2 with ⟨_,o2,_⟩ | ⟨_,o2,_⟩
     ·
      rw [o2] at h3
      simp only [Option.some.injEq,kS.mk.injEq,true_and] at h3
      exact Zg.2 ⟨h3.1.symm,h3.2.1.symm,h3.2.2.1.symm,h3.2.2.2.1.symm,h3.2.2.2.2.symm⟩
     ·
      rw [o2] at h3;cases h3
    have hR:=aaA h hm hy3 hP
    obtain ⟨w0,w1,_⟩:=fin _ A3 q1 q0 hm zy.empty
    have w2:=fun S=>(fin _ A3 q1 q0 hm S).2.2
    have kk:=decide_eq_true k1
    have kl:decide (a=0)=false:=decide_eq_false k0
    have hcm:=yM (d:=9) hm.b.okl.le
    refine ⟨_,_,hR,fun S=>?_⟩
    unfold acE at w2
    by_cases hb:y9 (⟨a,b,c,d,e,f,⟨0,0⟩,y⟩:yg)=true
    ·
     simp only [if_pos hb] at w2
     by_cases hq:Jd (⟨a,b,c,d,e,f,⟨0,0⟩,y⟩:yg)=l
     ·
      rw [if_pos ⟨hb,hq⟩,if_pos ⟨hb,hq⟩]
      have dq:=decide_eq_true hq
      conv at hr =>
       rhs
       rw [hTe]
       simp only [zG.code,zG.rs,zSs,reduceIte,zk,zn,zo,zq,if_neg k2,a1,c1,c2,i0,i1,i2,i3,i4,i5,qy,kF (J9 (d:=3)),kF okA,bd,a2,s1,xW,zO,wS g2,kk,c3,jd,s2,kl,wS q1,xI q1 hy.ne,w2,cs1,cs2,vH,dq,w0]
      rw [hTe] at hr
      exact zG.runs hr (.inr rfl) (xI (wQ A3 0 (⟨a,b,c,d,e,f,⟨0,0⟩,y⟩:yg)) hy.ne) rfl rfl cl (yV (all2 hcm rfl))
     ·
      rw [if_neg (fun h=>hq h.2),if_neg (fun h=>hq h.2)]
      have dq:=decide_eq_false hq
      conv at hr =>
       rhs
       rw [hTe]
       simp only [zG.code,zG.rs,zSs,reduceIte,zk,zn,zo,zq,if_neg k2,a1,c1,c2,i0,i1,i2,i3,i4,i5,qy,kF (J9 (d:=3)),kF okA,bd,a2,s1,xW,zO,wS g2,kk,c3,jd,s2,kl,wS q1,xI q1 hy.ne,w2,cs1,cs2,vH,dq,z0,w1]
      rw [hTe] at hr
      exact zG.runs hr (.inr rfl) (xI (wQ A3 0 m0) ne0) rfl rfl cl rfl
    ·
     simp only [if_neg hb] at w2
     rw [if_neg (fun h=>hb h.1),if_neg (fun h=>hb h.1)]
     conv at hr =>
      rhs
      rw [hTe]
      simp only [zG.code,zG.rs,zSs,reduceIte,zk,zn,zo,zq,if_neg k2,a1,c1,c2,i0,i1,i2,i3,i4,i5,qy,kF (J9 (d:=3)),kF okA,bd,a2,s1,xW,zO,wS g2,kk,c3,jd,s2,kl,wS q1,xI q1 hy.ne,w2,cs1,cs2,vH,z0,w1]
     rw [hTe] at hr
     exact zG.runs hr (.inr rfl) (xI (wQ A3 0 m0) ne0) rfl rfl cl rfl
   have hm:=tb ⟨0,0⟩ Qq.tx
   have hP:∀ x,y9 x=true→r0=xE x→ZB x ⟨a,b,c,d,e,f,⟨0,0⟩,bk0⟩=true:=fun x hx hl=>by
    obtain ⟨i1,i2,i3,i4,i5,i6,i7⟩:=Wn h6 hx hl
    have hf:=Za hx
    exact kU.2 ⟨i1,i2,i3,i4,i5,i6,hf.notx (by omega),hf.noblk (by omega)⟩
   have hR:=aaA h hm (by simp) hP
   obtain ⟨w0,w1,_⟩:=fin _ A2 g2 g3 hm zy.empty
   have w2:=fun S=>(fin _ A2 g2 g3 hm S).2.2
   have kk:=decide_eq_false k0
   have kl:=decide_eq_false k1
   have hcm:=yM (d:=9) hm.b.okl.le
   refine ⟨_,_,hR,fun S=>?_⟩
   unfold acE at w2
   by_cases hb:y9 (⟨a,b,c,d,e,f,⟨0,0⟩,bk0⟩:yg)=true
   ·
    simp only [if_pos hb] at w2
    by_cases hq:Jd (⟨a,b,c,d,e,f,⟨0,0⟩,bk0⟩:yg)=l
    ·
     rw [if_pos ⟨hb,hq⟩,if_pos ⟨hb,hq⟩]
     have dq:=decide_eq_true hq
     conv at hr =>
      rhs
      rw [hTe]
      simp only [zG.code,zG.rs,zSs,reduceIte,zk,zn,zo,zq,if_neg k2,a1,c1,c2,i0,i1,i2,i3,i4,i5,qy,kF (J9 (d:=3)),kF okA,bd,a2,s1,xW,zO,wS g2,kk,kl,xI g2 ne0,w2,cs1,cs2,vH,dq,w0]
     rw [hTe] at hr
     exact zG.runs hr (.inr rfl) (xI (wQ A2 0 (⟨a,b,c,d,e,f,⟨0,0⟩,bk0⟩:yg)) ne0) rfl rfl cl (yV (all2 hcm rfl))
    ·
     rw [if_neg (fun h=>hq h.2),if_neg (fun h=>hq h.2)]
     have dq:=decide_eq_false hq
     conv at hr =>
      rhs
      rw [hTe]
      simp only [zG.code,zG.rs,zSs,reduceIte,zk,zn,zo,zq,if_neg k2,a1,c1,c2,i0,i1,i2,i3,i4,i5,qy,kF (J9 (d:=3)),kF okA,bd,a2,s1,xW,zO,wS g2,kk,kl,xI g2 ne0,w2,cs1,cs2,vH,dq,z0,w1]
     rw [hTe] at hr
     exact zG.runs hr (.inr rfl) (xI (wQ A2 0 m0) ne0) rfl rfl cl rfl
   ·
    simp only [if_neg hb] at w2
    rw [if_neg (fun h=>hb h.1),if_neg (fun h=>hb h.1)]
    conv at hr =>
     rhs
     rw [hTe]
     simp only [zG.code,zG.rs,zSs,reduceIte,zk,zn,zo,zq,if_neg k2,a1,c1,c2,i0,i1,i2,i3,i4,i5,qy,kF (J9 (d:=3)),kF okA,bd,a2,s1,xW,zO,wS g2,kk,kl,xI g2 ne0,w2,cs1,cs2,vH,z0,w1]
    rw [hTe] at hr
    exact zG.runs hr (.inr rfl) (xI (wQ A2 0 m0) ne0) rfl rfl cl rfl
end Go.Proofs.Ytfjogganfjkckaa
namespace Go.Proofs.Ytfjogganfjkckaa
open Go.Abs
theorem abU (m:yg) (S:zy):∃ S2,wU zi 48 (.pointer (some ⟨S.next,0,none⟩)) (mv m) (S.push (.cells (fM m0) (.own []) 0))=some (zh,S2)∧S2.get S.next=some (.cells (fM m) (.own []) 0)∧Ext S S2∧S.next < S2.next :=
 YT S (by rw [qL];rfl) Xf rfl (aki m)
theorem Vo {l:List UInt8} {x y:yg} {e f:Int} (h:Qb l x e) (g:Qb l y f):ZB x y=true∧e=f:=by
 obtain ⟨_,_,⟨rfl,h1,h2⟩ | ⟨rfl,rfl,h2⟩⟩:=h <;> obtain ⟨_,_,⟨rfl,g1,g2⟩ | ⟨rfl,rfl,g2⟩⟩:=g
 ·
  exact ⟨aan h1 g1 (h2.symm.trans g2),rfl⟩
 ·
  exact absurd h2 (g2 _ h1)
 ·
  exact absurd g2 (h2 _ g1)
 ·
  exact ⟨adY _,rfl⟩
theorem adb {m:yg} (h:y9 m=true):(Jd m).length≤210:=by
 unfold Jd
 have:=V4 (Za h);have:=JB (aaT m)
 rw [List.length_append];omega
end Go.Proofs.Ytfjogganfjkckaa
namespace Go.Proofs.Ytfjogganfjkckaa
open Go.Abs
abbrev encS (s:List UInt8):Value:=.string ⟨s.toArray⟩
abbrev encI (n:Int):Value:=.int .i64 n
theorem afi:adS encS .string:=⟨fun _=>rfl,fun a b=>by
 show some (a.toArray == b.toArray)=_
 congr 1
 by_cases h:a=b
 ·
  subst h;simp
 ·
  rw [decide_eq_false h]
  refine beq_eq_false_iff_ne.2 fun h2=>h ?_
  have:=congrArg Array.toList h2
  exact this⟩
abbrev abN (l:List (List UInt8)):List (List UInt8×Value):=l.map fun s=>(s,.bool true)
abbrev QB (l:List (Int×List UInt8)):List (Int×Value):=l.map fun p=>(p.1,encS p.2)
theorem ahJ (l:List (List UInt8)) (s:List UInt8):(X0 (abN l) s).getD (.bool false)=.bool (decide (s ∈ l)):=by
 induction l with
 | nil=>rfl
 | cons a l ih =>
  simp only [List.map_cons,X0]
  by_cases h:a=s
  ·
   simp [h]
  ·
   rw [if_neg h,ih]
   have:s≠a:=fun h2=>h h2.symm
   simp [this]
theorem ahA (l:List (List UInt8)) (s:List UInt8):ahz (abN l) s (.bool true)=abN (if s ∈ l then l else l++[s]):=by
 induction l with
 | nil=>rfl
 | cons a l ih =>
  simp only [List.map_cons,ahz]
  by_cases h:a=s
  ·
   simp [h]
  ·
   rw [if_neg h,ih]
   have:s≠a:=fun h2=>h h2.symm
   by_cases h2:s ∈ l <;> simp [h2,this]
def Zf:List (Int×List UInt8)→Int→Option (List UInt8)
 | [],_=>none
 | (a,t)::l,n=>if a=n then some t else Zf l n
theorem KA (l:List (Int×List UInt8)) (n:Int):X0 (QB l) n=(Zf l n).map encS:=by
 induction l with
 | nil=>rfl
 | cons a l ih =>
  simp only [List.map_cons,X0,Zf]
  by_cases h:a.1=n
  ·
   rw [if_pos h,if_pos h];rfl
  ·
   rw [if_neg h,if_neg h,ih]
theorem aeM {l:List (Int×List UInt8)} {n:Int} (h:Zf l n=none) (t:List UInt8):ahz (QB l) n (encS t)=QB (l++[(n,t)]):=by
 rw [aap (by rw [KA,h];rfl)]
 simp
structure Gt (S:zy) (q:Nat) (bad:List Int) (said:List (List UInt8)) (known:List (Int×List UInt8)):Prop where
 lt:q < S.next
 cell:∃ k a b,Okl k bad∧k≠2∧bad.length≤17592186044416∧a < S.next∧b < S.next∧a≠b∧S.get q=some (.cells [iz k bad,.map (some a),.map (some b)] (.own []) 0)∧MapAt encS S a (abN said)∧MapAt encI S b (QB known)
theorem Gt.ext {S S1:zy} {q:Nat} {bad:List Int} {said:List (List UInt8)} {known:List (Int×List UInt8)} (h:Gt S q bad said known) (k:Ext S S1):Gt S1 q bad said known:=by
 obtain ⟨k0,a,b,h1,h2,h3,h4,h5,h6,h7,h8,h9⟩:=h.cell
 exact ⟨Nat.lt_of_lt_of_le h.lt k.1,k0,a,b,h1,h2,h3,Nat.lt_of_lt_of_le h4 k.1,Nat.lt_of_lt_of_le h5 k.1,h6,by rw [k.2 q h.lt];exact h7,h8.keep (k.2 a h4),h9.keep (k.2 b h5)⟩
section
variable {S:zy} {q:Nat} {bad:List Int} {said:List (List UInt8)} {known:List (Int×List UInt8)}
theorem wO.v (h:Gt S q bad said known) (n:Int):zZ zi O wO.id [.pointer (some ⟨q,0,none⟩),.int .i64 n] S=some (.bool (bad.any fun x=>decide (n=x)),S):=by
 obtain ⟨T,hTe⟩:∃ T,T=(.pointer (some ⟨q,0,none⟩)::.int .i64 n::zh::zh::zh::zh::zh::zh::zh::zh::zh::[]):=⟨_,rfl⟩
 have hr:zJ zi O false wO.code T S=zJ zi O false wO.code T S:=rfl
 obtain ⟨k0,a,b,h1,h2,h3,h4,h5,h6,h7,h8,h9⟩:=h.cell
 have l1:jh zi false 24 (.pointer (some ⟨q,0+0,none⟩)) S=some (iz k0 bad,S):=by
  have:=YW (t:=24) (o:=0+0) h7 ajt rfl (by intro l;unfold iz vs sv;split <;> (intro hh;cases hh))
  rwa [KC,if_neg h2] at this
 have c1:=fun S=>slices_Contains.v h1 h2 h3 (v:=n) S
 conv at hr =>
  rhs
  rw [hTe]
  simp only [wO.code,wO.rs,zSs,reduceIte,zk,zn,zo,zq,qZ,XH,l1,if_neg h2,c1]
 rw [hTe] at hr
 exact wO.runs hr (.inr rfl)
end
def vF (b:kS):List UInt8:=if jX b then XB b else []
theorem qc.v {b:kS} (hb:b.Ok) (S:zy):zZ zi O qc.id [bv b] S=some (encS (vF b),S):=by
 obtain ⟨T,hTe⟩:∃ T,T=(bv b::zh::zh::zh::zh::zh::zh::zh::zh::zh::zh::zh::[]):=⟨_,rfl⟩
 have hr:zJ zi O false qc.code T zy.empty=zJ zi O false qc.code T zy.empty:=rfl
 obtain ⟨k,x,e,h1,_,h3,h4⟩:=aeD b
 have c1:=fun S=>wM.v hb S
 rw [h3] at c1
 have hx:vF b=x:=by
  unfold vF
  rcases h4 with ⟨_,g1,g2,_⟩ | ⟨_,g1,g2,_⟩
  ·
   rw [if_pos g1,g2]
  ·
   rw [g1,g2];rfl
 have s1:∀ S,Jt zi 33 9 (by_ (if k=2 then 1 else k) x) S=some (.string ⟨x.toArray⟩,S):=fun S=>Xi h1.dem
 have lb:=QF (yZ b) hb.ne
 rw [hx]
 conv at hr =>
  rhs
  rw [hTe]
  simp only [qc.code,qc.rs,zSs,reduceIte,zk,zn,zo,zq,JJ,lb,c1,KC,s1]
 rw [hTe] at hr
 exact qc.runs hr (.inr rfl) (all1 (yN hb.okl.le)) rfl
theorem wL.v {k:Nat} {l:List Int} (hk:Okl k l) (k2:k≠2) (hl:l.length≤17592186044416) (S:zy):zZ zi O wL.id [iz k l] S=some (iz (if k=0 then 0 else 2) l,S):=by
 obtain ⟨T,hTe⟩:∃ T,T=(iz k l::zh::zh::zh::zh::zh::zh::zh::[]):=⟨_,rfl⟩
 have hr:zJ zi O false wL.code T S=zJ zi O false wL.code T S:=rfl
 by_cases h0:k=0
 ·
  subst h0
  have:=hk.nil rfl
  subst this
  conv at hr =>
   rhs
   rw [hTe]
   simp only [wL.code,wL.rs,zSs,reduceIte,zk,zn,zo,zq,iz]
  rw [hTe] at hr
  exact wL.runs hr (.inr rfl)
 ·
  have cp:∀ S,wR zi 24 24 (iz 2 []) (iz k l) S=some (iz 2 l,S):=fun S=>by
   rw [YE Okl.own (by decide) hk (by simp;omega),if_neg (fun h=>by have:=h.1;omega),List.nil_append]
  have iz0:∀ S,jK zi 24 0 [] S=some (iz 2 [],S):=fun S=>by rw [Qj];rfl
  rw [if_neg h0]
  conv at hr =>
   rhs
   rw [hTe]
   simp only [wL.code,wL.rs,zSs,reduceIte,zk,zn,zo,zq,if_neg k2,aht hk,decide_eq_false h0,cp,iz0]
  rw [hTe] at hr
  exact wL.runs hr (.inr rfl)
theorem qQ.v {k:Nat} {l:List Int} (hk:Okl k l) (k2:k≠2) (hl:l.length≤17592186044416) (S:zy):∃ q S1,zZ zi O qQ.id [iz k l] S=some (.pointer (some ⟨q,0,none⟩),S1)∧Gt S1 q l [] []∧Ext S S1∧S.next≤q:=by
 obtain ⟨T,hTe⟩:∃ T,T=(iz k l::zh::zh::zh::zh::zh::zh::zh::zh::[]):=⟨_,rfl⟩
 have hr:zJ zi O false qQ.code T S=zJ zi O false qQ.code T S:=rfl
 have c1:=fun S=>wL.v hk k2 hl S
 have hk0:Okl (if k=0 then 0 else 2) l:=⟨by split <;> omega,fun h=>by split at h <;> first | (exact hk.nil ‹_›) | omega⟩
 generalize (if k=0 then 0 else 2)=k0 at c1 hk0
 obtain ⟨S2,m1,m2,m3,m4,m5⟩:=abZ (P:=zi) (t:=59) encS S
 obtain ⟨S3,n1,n2,n3,n4,n5⟩:=abZ (P:=zi) (t:=60) encI S2
 have bd:=fun S=>Jm (y0:=iz (if k0=2 then 1 else k0) l) (y1:=.map (some S.next)) (y2:=.map (some S2.next)) YU rfl rfl S
 have bd:∀ S5,yA zi 62 [(0,iz (if k0=2 then 1 else k0) l),(1,.map (some S.next)),(2,.map (some S2.next))] S5=some (.agg [iz (if k0=2 then 1 else k0) l,.map (some S.next),.map (some S2.next)].toArray,S5):=fun S5=>Jm YU rfl rfl S5
 obtain ⟨S4,b1,b2,b3,b4⟩:=aiW (.agg [iz (if k0=2 then 1 else k0) l,.map (some S.next),.map (some S2.next)].toArray) S3
 have dm:dem (iz k0 l)=iz (if k0=2 then 1 else k0) l:=KC
 refine ⟨S3.next,S4,?_,⟨b4,_,S.next,S2.next,hk0.dem,Ws _,hl,by omega,by omega,by omega,b2,?_,?_⟩,m5.trans (n5.trans b3),by omega⟩
 ·
  conv at hr =>
   rhs
   rw [hTe]
   simp only [qQ.code,qQ.rs,zSs,reduceIte,zk,zn,zo,zq,if_neg k2,c1,dm,m1,n1,bd,b1]
  rw [hTe] at hr
  exact qQ.runs hr (.inr rfl)
 ·
  exact (m2.keep (n4 _ (by omega))).keep (b3.2 _ (by omega))
 ·
  exact n2.keep (b3.2 _ (by omega))
end Go.Proofs.Ytfjogganfjkckaa
