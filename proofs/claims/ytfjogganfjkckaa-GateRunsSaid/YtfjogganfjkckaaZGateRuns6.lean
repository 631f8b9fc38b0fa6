/-
The law GateRuns returns true for every input, and leaves it as it was; no condition. Part 6 of 7 of the texts (put together by a program: own names are short, what isn't needed is left out).
-/
import Derived.Test.YtfjogganfjkckaaZGateRuns5

set_option linter.unusedVariables false
set_option linter.unusedSimpArgs false
set_option maxRecDepth 100000
open Go renaming undef → zh
open Go.Proofs.Try renaming prog → zi
open Nat renaming reduceEqDiff → zk
open Int renaming reduceEq → zn
open Int renaming reduceLT → zo
open Int renaming reduceLE → zq
open Go renaming Value → zu
open List renaming toList_toArray → zD
open Bool renaming false_eq_true → zF
open Bool renaming and_eq_true → zG
namespace Go.Proofs.Ytfjogganfjkckaa
open Go.Abs
abbrev tl (k:Nat) (l:List jG):zu:=vs fT 2 k l
theorem gW (t:jG):(fT t).length=2:=rfl
theorem Na (t:jG):(fT t).all (·.oneCell')=true:=rfl
theorem J5 {k:Nat}{l:List jG}{S:zS}(h:je k l):yK zi 44 (tl k l) S=some (.int .i64 l.length,S):=XM VX h
theorem Q5 {k:Nat}{l pre suf:List jG}{t:jG}{S:zS}(h:je k l) (hl:l=pre++t::suf):jZ zi 44 (tl k l) (.int .i64 pre.length) S=some (EP [.int .i64 t.id,.int .i64 t.fee],S):=by
 have h1:(pre.length:Int)<(l.length:Int):=by rw[hl];simp;omega
 rw[XL VX Qh gW h (by omega) h1,Qu hl];rfl
theorem UW {k:Nat}{l:List jG}{S:zS}{lo hi:Option zu}{i j:Int}(h:je k l) (hlo:vW 0 lo=some i) (hhi:vW l.length hi=some j) (h0:0≤i) (hij:i≤j) (hj:j≤l.length):JI zi 44 (tl k l) lo hi S=some (tl (if k=2 then 1 else k) ((l.drop i.toNat).take (j.toNat-i.toNat)),S):=GH VX Qh gW h hlo hhi h0 hij hj
theorem Fa {k:Nat}{l:List jG}{t:jG}{S:zS}(h:je k l) (hk:k≠1) (hl:l.length≤8796093022000):yF zi 44 44 (tl k l) (tl 2 [t]) S=some (tl 2 (l++[t]),S):=by
 rw[V6 VX Qh PU rfl Ir (by omega) VX gW Na h hk je.own (by simp;omega) (by simp;omega),zM (fun h=>by have:=h.2;simp at this)]
theorem CQ {α:Type}(g:α→Int) (v:zu) (l:List α) (k:Int):ZU (l.map fun t=>(g t,v)) k=if k∈l.map g then some v else none:=by
 induction l with
 |nil=>rfl
 |cons t l ih=>
  simp only[List.map_cons,ZU,ih,List.mem_cons];by_cases h:g t=k
  ·simp[h]
  ·have h':¬k=g t:=fun e=>h e.symm
   simp[h,h']
abbrev kI :Int→zu:=fun n=>.int .i64 n
def Ko (l:List jG):Bool:=decide ((l.map jG.id).Nodup)&&decide (l.length≤3)
theorem wZ.round {k:Nat}{l:List jG}(hk:je k l) (hl:l.length≤8796093022208) {q:Nat}:∀(suf pre:List jG) {T:List zu}{S:zS}{r:St},yj (zX zi O false wZ.jg) T S=r→T.length=24 →
  T.getD 0 zh=tl k l→T.getD 3 zh=.map (some q)→T.getD 7 zh=tl k l→T.getD 8 zh=.int .i64 l.length→T.getD 9 zh=.int .i64 pre.length→l=pre++suf →
  MapAt kI S q (pre.map fun t=>(t.id,.bool true))→q<S.next→(pre.map jG.id).Nodup →
  ∃e T' S',r=some (e,T',S')∧if(l.map jG.id).Nodup then e=.exit 0∧T'.length=24∧T'.getD 0 zh=tl k l else e=.ret∧T'.getD 2 zh=.bool false:=by
 intro suf;induction suf with
 |nil=>
  intro pre T S r hL hT h0 h3 h7 h8 h9 hpre hm hq hn;have hTe:=wZ.eta hT;rw[h0,h3,h7,h8,h9]at hTe;have hr:=Eq.refl (zX zi O false wZ.jg T S);have d1:¬(pre.length:Int)<(l.length:Int):=by rw[hpre];simp
  conv at hr=>
   rhs;rw[hTe];simp only[wZ.jg,wZ.code,wZ.rs,jc,reduceIte,zk,zn,zo,zq,d1]
  refine⟨_,_,_,hL.symm.trans (yX hr (by simp)),?_⟩
  rw[zN (by rw[hpre,List.append_nil];exact hn)]
  exact⟨rfl,rfl,rfl⟩
 |cons t suf ih=>
  intro pre T S r hL hT h0 h3 h7 h8 h9 hpre hm hq hn;have hTe:=wZ.eta hT;rw[h0,h3,h7,h8,h9]at hTe;have hr:=Eq.refl (zX zi O false wZ.jg T S);have d1:(pre.length:Int)<(l.length:Int):=by rw[hpre];simp;omega
  have e1:=fun S=>Q5 (S:=S) hk hpre
  have wi:IntKind.i64.wrap ((pre.length:Int)+1)=((pre++[t]).length:Int):=by rw[wrap_i64 (by omega) (by omega)];simp
  obtain⟨S2,p1,p2,p3,p4⟩:=YS S t;have hm2:MapAt kI S2 q (pre.map fun t=>(t.id,.bool true)):=hm.keep (p3.get q hq)
  have m1:JH zi false 126 (.map (some q)) (.int .i64 t.id) false S2=_:=CG Vm hm2 FD Q9 Dh rfl t.id;rw[CQ]at m1;by_cases ht:t.id∈pre.map jG.id
  ·rw[zN ht]at m1;conv at hr=>
    rhs;rw[hTe];simp only[wZ.jg,wZ.code,wZ.rs,jc,reduceIte,zk,zn,zo,zq,d1,e1,WS,Z4,p1,Y5,KJ p2,m1,Option.getD_some]
   refine⟨_,_,_,hL.symm.trans (yX hr (by simp)),?_⟩
   rw[zM (by rw[hpre];simp only[List.map_append,List.map_cons,List.nodup_append];intro h;exact h.2.2 _ ht _ (by simp) rfl)]
   exact⟨rfl,rfl⟩
  ·rw[zM ht]at m1;obtain⟨S3,u1,u2,u3,u4,u5⟩:=lC Vm hm2 FD Q9 t.id (.bool true);have u1':ZQ zi 126 (.map (some q)) (.int .i64 t.id) (.bool true) S2=some (zh,S3):=u1;rw[lK (by rw[CQ,zM ht])]at u2
   conv at hr=>
    rhs;rw[hTe];simp only[wZ.jg,wZ.code,wZ.rs,jc,reduceIte,zk,zn,zo,zq,d1,e1,WS,Z4,p1,Y5,KJ p2,m1,Option.getD_none,u1',wi]
   refine ih (pre++[t]) ((xk hr).symm.trans hL) rfl rfl rfl rfl rfl rfl (by simp[hpre]) (by simpa using u2) (by omega) ?_
   simp only[List.map_append,List.map_cons,List.map_nil,List.nodup_append];exact⟨hn,by simp,fun a ha b hb=>by simp at hb;subst hb;exact fun h=>ht (h▸ha)⟩
theorem wZ.v {k:Nat}{l:List jG}(hk:je k l) (k2:k≠2) (hl:l.length≤8796093022208) (S:zS):zU zi O wZ.id [tl k l] S=some (.bool (Ko l),S):=by
 obtain⟨T,hTe⟩:∃T,T=(tl k l::[zh,zh,zh,zh,zh,zh,zh,zh,zh,zh,zh,zh,zh,zh,zh,zh,zh,zh,zh,zh,zh,zh,zh]):=⟨_,rfl⟩;have hr:=Eq.refl (zX zi O false wZ.code T zS.empty);obtain⟨S1,m1,m2,m3,m4,m5⟩:=lu (P:=zi) (t:=126) kI zS.empty;conv at hr=>
  rhs;rw[hTe];simp only[wZ.code,wZ.rs,jc,reduceIte,zk,zn,zo,zq,m1,zM k2,J5 hk]
 generalize hL:yj (zX zi O false wZ.jg) _ _=r at hr;obtain⟨e,T',S',rfl,g⟩:=wZ.round hk hl l [] hL rfl rfl rfl rfl rfl rfl rfl m2 (by omega) List.nodup_nil
 unfold Ko;by_cases h:(l.map jG.id).Nodup
 ·rw[zN h]at g;obtain⟨rfl,g2,g3⟩:=g;have hTe':=wZ.eta g2;rw[g3]at hTe';have d3:decide ((l.length:Int)≤3)=decide (l.length≤3):=decide_eq_decide.mpr (by omega)
  conv at hr=>
   rhs;rw[hTe'];simp only[wZ.code,wZ.rs,jc,reduceIte,zk,zn,zo,zq,zM k2,J5 hk,d3]
  rw[hTe]at hr;rw[zL h,Bool.true_and];exact wZ.runs hr (.inr rfl) (all1 (WO hk.le fun _ _=>rfl)) rfl
 ·rw[zM h]at g;obtain⟨rfl,g2⟩:=g;conv at hr=>
   rhs;simp only[jc,reduceIte,zk,zn,zo,zq]
  rw[hTe]at hr;rw[zK h,Bool.false_and];have hrun:=wZ.runs (S:=S) hr (.inr rfl) (all1 (WO hk.le fun _ _=>rfl)) (by rw[g2];rfl)
  rw[g2]at hrun;exact hrun
def Za (l:List jG):Bool:=Ko l&&l.all qG
def flat (l:List jG):List Int:=l.flatMap fun t=>[t.id,t.fee]
def Z9 (l:List jG):List UInt8:=encs ((l.length:Int)::flat l)
def Qo (l:List jG):zu:=if Za l then .tuple #[jk 2 (Z9 l),.int .i64 0]else .tuple #[.slice none 0 0,.int .i64 61]
theorem iD (a b:List jG):flat (a++b)=flat a++flat b:=by simp[flat]
theorem KG (l:List jG):(flat l).length=2*l.length:=by
 induction l with
 |nil=>rfl
 |cons t l ih=>rw[show flat (t::l)=[t.id,t.fee]++flat l from rfl,List.length_append,ih];simp;omega
theorem iE {l:List jG}(h:∀t∈l,qG t=true):∀n∈flat l,0≤n∧n≤1000000:=by
 intro n hn;simp only[flat,List.mem_flatMap]at hn;obtain⟨t,h1,h2⟩:=hn;obtain⟨b1,b2,b3,b4⟩:=YR.mp (h t h1);simp at h2;omega
theorem KW (l:List jG):Z9 l=encs [(l.length:Int)]++encs (flat l):=Xo [(l.length:Int)] (flat l)
theorem sF {l:List jG}(h:∀t∈l,qG t=true):(encs (flat l)).length≤20*l.length:=by
 have h1:=Qz (l:=flat l) (fun n hn=>by have:=iE h n hn;omega)
 rw[KG]at h1;omega
theorem wE.round {k:Nat}{l:List jG}(hk:je k l) (hl:l.length≤3) {A:List UInt8} (hA:A.length≤100):∀(suf pre:List jG) {T:List zu}{S:zS}{r:St},yj (zX zi O false wE.jg) T S=r→T.length=39 →
  T.getD 4 zh=jk 2 (A++encs (flat pre))→T.getD 20 zh=tl k l→T.getD 21 zh=.int .i64 l.length→T.getD 22 zh=.int .i64 pre.length→l=pre++suf→(∀t∈pre,qG t=true) →
  ∃e T' S',r=some (e,T',S')∧if l.all qG=true then e=.exit 0∧T'.length=39∧T'.getD 4 zh=jk 2 (A++encs (flat l))else e=.ret∧T'.getD 2 zh=.slice none 0 0∧T'.getD 3 zh=.int .i64 61:=by
 intro suf;induction suf with
 |nil=>
  intro pre T S r hL hT h4 h20 h21 h22 hpre hp;have hTe:=wE.eta hT;rw[h4,h20,h21,h22]at hTe;have hr:=Eq.refl (zX zi O false wE.jg T S);have d1:¬(pre.length:Int)<(l.length:Int):=by rw[hpre];simp
  conv at hr=>
   rhs;rw[hTe];simp only[wE.jg,wE.code,wE.rs,jc,reduceIte,zk,zn,zo,zq,d1]
  refine⟨_,_,_,hL.symm.trans (yX hr (by simp)),?_⟩
  rw[List.append_nil]at hpre;rw[hpre,zN (List.all_eq_true.mpr hp)];exact⟨rfl,rfl,rfl⟩
 |cons t suf ih=>
  intro pre T S r hL hT h4 h20 h21 h22 hpre hp;have hTe:=wE.eta hT;rw[h4,h20,h21,h22]at hTe;have hr:=Eq.refl (zX zi O false wE.jg T S);have d1:(pre.length:Int)<(l.length:Int):=by rw[hpre];simp;omega
  have e1:=fun S=>Q5 (S:=S) hk hpre
  have wi:IntKind.i64.wrap ((pre.length:Int)+1)=((pre++[t]).length:Int):=by rw[wrap_i64 (by omega) (by omega)];simp
  obtain⟨S2,p1,p2,p3,p4⟩:=YS S t;have c1:∀S,zU zi O 71 [.agg [Value.int .i64 t.id,.int .i64 t.fee].toArray] S=some (KT t,S):=fun S=>xu.v t S
  unfold KT at c1;by_cases ht:qG t=true
  ·rw[zN ht]at c1;have hb:=ny ht;have hf:=sF hp;have hpl:pre.length≤3:=by omega
   have ap:∀S,yF zi 33 33 (jk 2 (A++encs (flat pre))) (jk 1 (Yp t)) S=some (jk 2 (A++encs (flat (pre++[t]))),S):=fun S=>by
    rw[Wj je.own (by decide) je.read (by simp;omega),iD,Xo,←List.append_assoc];rfl
   conv at hr=>
    rhs;rw[hTe];simp only[wE.jg,wE.code,wE.rs,jc,reduceIte,zk,zn,zo,zq,d1,e1,WS,Z4,p1,Jr p2,c1,ap,wi]
   exact ih (pre++[t]) ((xk hr).symm.trans hL) rfl rfl rfl rfl rfl (by simp[hpre]) (fun x hx=>by rcases List.mem_append.1 hx with h |h;{ exact hp x h };{ simp at h;rw[h];exact ht })
  ·rw[zM ht]at c1;conv at hr=>
    rhs;rw[hTe];simp only[wE.jg,wE.code,wE.rs,jc,reduceIte,zk,zn,zo,zq,d1,e1,WS,Z4,p1,Jr p2,c1]
   refine⟨_,_,_,hL.symm.trans (yX hr (by simp)),?_⟩
   rw[zM (by rw[hpre];simp[ht])]
   exact⟨rfl,rfl,rfl⟩
theorem wE.v {k:Nat}{l:List jG}(hk:je k l) (k2:k≠2) (hl:l.length≤8796093022208) (S:zS):zU zi O wE.id [tl k l] S=some (Qo l,S):=by
 obtain⟨T,hTe⟩:∃T,T=(tl k l::[zh,zh,zh,zh,zh,zh,zh,zh,zh,zh,zh,zh,zh,zh,zh,zh,zh,zh,zh,zh,zh,zh,zh,zh,zh,zh,zh,zh,zh,zh,zh,zh,zh,zh,zh,zh,zh,zh]):=⟨_,rfl⟩;have hr:=Eq.refl (zX zi O false wE.code T zS.empty);have c1:=fun S=>wZ.v hk k2 hl S
 have cl:jw 16 (tl k l)=true:=WO hk.le fun _ _=>rfl
 unfold Qo Za;by_cases hu:Ko l=true
 ·have h3:l.length≤3:=by unfold Ko at hu;simp at hu;exact hu.2
  have c2:=fun S=>wJ.v (l:=[(l.length:Int)]) je.read (by decide) (by simp;omega) S
  have hA:(encs [(l.length:Int)]).length≤100:=by
   have:=Qz (l:=[(l.length:Int)]) (by simp;omega)
   simp at this;omega
  conv at hr=>
   rhs;rw[hTe];simp only[wE.code,wE.rs,jc,reduceIte,zk,zn,zo,zq,zM k2,c1,hu,J5 hk,au,aY,c2,KO (l:=[(l.length:Int)]) (by simp) (by intro n hn;simp at hn;omega) (by simp)]
  generalize hL:yj (zX zi O false wE.jg) _ _=r at hr;obtain⟨e,T',S',rfl,g⟩:=wE.round hk h3 hA l [] hL rfl (by rw[show flat []=[] from rfl,show encs []=[] from rfl,List.append_nil];rfl) rfl rfl rfl rfl (fun t h=>by cases h)
  by_cases ha:l.all qG=true
  ·rw[zN ha]at g;obtain⟨rfl,g2,g3⟩:=g;have hTe':=wE.eta g2;rw[g3]at hTe';conv at hr=>
    rhs;rw[hTe'];simp only[wE.code,wE.rs,jc,reduceIte,zk,zn,zo,zq]
   rw[hTe]at hr;rw[zN (by rw[hu,ha];rfl),KW]
   exact wE.runs hr (.inr rfl) (by simp only[List.getD_cons_succ,List.getD_cons_zero,qQ,kH,kJ,kG,kF]) rfl (all1 cl) (Zx (all2 (vU (k:=2) (Nat.le_refl 2)) rfl))
  ·rw[zM ha]at g;obtain⟨rfl,g2,g3⟩:=g;conv at hr=>
    rhs;simp only[jc,reduceIte,zk,zn,zo,zq]
   rw[hTe]at hr;rw[zM (by rw[hu,Bool.true_and];exact ha)]
   have hrun:=wE.runs (S:=S) hr (.inr rfl) (by rw[g2];rfl) (by rw[g3];rfl) (all1 cl) (by rw[g2,g3];rfl)
   rw[g2,g3]at hrun;exact hrun
 ·rw[Bool.not_eq_true]at hu;conv at hr=>
   rhs;rw[hTe];simp only[wE.code,wE.rs,jc,reduceIte,zk,zn,zo,zq,zM k2,c1,hu]
  rw[hTe]at hr;rw[zM (by rw[hu];simp)]
  exact wE.runs hr (.inr rfl) rfl rfl (all1 cl) rfl
def good (l:List jG):Prop:=(l.map jG.id).Nodup∧∀t∈l,qG t=true
theorem Yr {l:List jG}:Za l=true↔good l∧l.length≤3:=by
 unfold Za Ko good;simp[and_assoc,and_comm,and_left_comm]
theorem jD.inner {k:Nat}{l:List jG}(hk:je k l) (hl:l.length≤3) {t:jG}{q:Nat} :
  ∀(suf pre:List jG) {T:List zu}{S:zS}{r:St},yj (zX zi O false jD.jg) T S=r→T.length=51→T.getD 6 zh=.pointer (some ⟨q,0,none⟩)→T.getD 27 zh=tl k l→T.getD 28 zh=.int .i64 l.length→T.getD 29 zh=.int .i64 pre.length→l=pre++suf →
  S.get q=some (.cells (fT t) (.own []) 0)→q<S.next →
  ∃e T' S',r=some (e,T',S')∧Ext S S'∧if t.id∈suf.map jG.id then e=.ret∧T'.getD 2 zh=.slice none 0 0∧T'.getD 3 zh=.int .i64 61 else e=.exit 2∧T'.length=51 ∧
   T'.getD 0 zh=T.getD 0 zh∧T'.getD 4 zh=T.getD 4 zh∧T'.getD 6 zh=T.getD 6 zh∧T'.getD 15 zh=T.getD 15 zh∧T'.getD 16 zh=T.getD 16 zh∧T'.getD 17 zh=T.getD 17 zh:=by
 intro suf;induction suf with
 |nil=>
  intro pre T S r hL hT h6 h27 h28 h29 hpre hg hq;have hTe:=jD.eta hT;rw[h27,h28,h29]at hTe;have hr:=Eq.refl (zX zi O false jD.jg T S);have d1:¬(pre.length:Int)<(l.length:Int):=by rw[hpre];simp
  conv at hr=>
   rhs;rw[hTe];simp only[jD.jg,jD.code,jD.rs,jc,reduceIte,zk,zn,zo,zq,d1]
  refine⟨_,_,_,hL.symm.trans (yX hr (by simp)),Ext.refl _,?_⟩
  rw[zM (by simp)]
  exact⟨rfl,rfl,rfl,rfl,rfl,rfl,rfl,rfl⟩
 |cons u suf ih=>
  intro pre T S r hL hT h6 h27 h28 h29 hpre hg hq;have hTe:=jD.eta hT;rw[h6,h27,h28,h29]at hTe;have hr:=Eq.refl (zX zi O false jD.jg T S);have d1:(pre.length:Int)<(l.length:Int):=by rw[hpre];simp;omega
  have e1:=fun S=>Q5 (S:=S) hk hpre
  have wi:IntKind.i64.wrap ((pre.length:Int)+1)=((pre++[u]).length:Int):=by rw[wrap_i64 (by omega) (by omega)];simp
  obtain⟨S2,p1,p2,p3,p4⟩:=YS S u;have g2:S2.get q=some (.cells (fT t) (.own []) 0):=(p3.get q hq).trans hg;by_cases ht:u.id=t.id
  ·conv at hr=>
    rhs;rw[hTe];simp only[jD.jg,jD.code,jD.rs,jc,reduceIte,zk,zn,zo,zq,d1,e1,WS,Z4,p1,Y5,KJ p2,KJ g2,zL ht]
   refine⟨_,_,_,hL.symm.trans (yX hr (by simp)),p3,?_⟩
   rw[zN (by simp[ht])]
   exact⟨rfl,rfl,rfl⟩
  ·conv at hr=>
    rhs;rw[hTe];simp only[jD.jg,jD.code,jD.rs,jc,reduceIte,zk,zn,zo,zq,d1,e1,WS,Z4,p1,Y5,KJ p2,KJ g2,zK ht,wi]
   obtain⟨e,T',S',i1,i2,i3⟩:=ih (pre++[u]) ((xk hr).symm.trans hL) rfl rfl rfl rfl rfl (by simp[hpre]) g2 (by omega)
   refine⟨e,T',S',i1,p3.trans i2,?_⟩;have hm:t.id∈(u::suf).map jG.id↔t.id∈suf.map jG.id:=by
    simp only[List.map_cons,List.mem_cons];exact⟨fun h=>h.resolve_left (fun e=>ht e.symm),.inr⟩
   by_cases hc:t.id∈suf.map jG.id
   ·rw[zN hc]at i3;rw[zN (hm.mpr hc)];exact i3
   ·rw[zM hc]at i3;rw[zM (fun h=>hc (hm.mp h))]
    obtain⟨j1,j2,j3,j4,j5,j6,j7,j8⟩:=i3;exact⟨j1,j2,j3,j4,j5.trans h6.symm,j6,j7,j8⟩
theorem jD.round {k:Nat}{l:List jG}(hk:je k l) (k2:k≠2) (hl:l.length≤3) {n:Int}:∀(suf pre:List jG) {T:List zu}{S:zS}{r:St},yj (zX zi O false jD.qE) T S=r→T.length=51 →
  T.getD 0 zh=tl k l→T.getD 4 zh=iz 2 (n::flat pre)→T.getD 15 zh=tl k l→T.getD 16 zh=.int .i64 l.length→T.getD 17 zh=.int .i64 pre.length→l=pre++suf→good pre →
  ∃e T' S',r=some (e,T',S')∧((good l∧e=.exit 0∧T'.length=51∧T'.getD 4 zh=iz 2 (n::flat l))∨(¬good l∧e=.ret∧T'.getD 2 zh=.slice none 0 0∧T'.getD 3 zh=.int .i64 61)):=by
 intro suf;induction suf with
 |nil=>
  intro pre T S r hL hT h0 h4 h15 h16 h17 hpre hp;have hTe:=jD.eta hT;rw[h0,h4,h15,h16,h17]at hTe;have hr:=Eq.refl (zX zi O false jD.qE T S);have d1:¬(pre.length:Int)<(l.length:Int):=by rw[hpre];simp
  conv at hr=>
   rhs;rw[hTe];simp only[jD.qE,jD.code,jD.rs,jc,reduceIte,zk,zn,zo,zq,d1]
  refine⟨_,_,_,hL.symm.trans (yX hr (by simp)),.inl ?_⟩
  rw[List.append_nil]at hpre;rw[hpre];exact⟨hp,rfl,rfl,rfl⟩
 |cons t suf ih=>
  intro pre T S r hL hT h0 h4 h15 h16 h17 hpre hp;have hTe:=jD.eta hT;rw[h0,h4,h15,h16,h17]at hTe;have hr:=Eq.refl (zX zi O false jD.qE T S);have d1:(pre.length:Int)<(l.length:Int):=by rw[hpre];simp;omega
  have e1:=fun S=>Q5 (S:=S) hk hpre
  have wi:IntKind.i64.wrap ((pre.length:Int)+1)=((pre++[t]).length:Int):=by rw[wrap_i64 (by omega) (by omega)];simp
  obtain⟨S2,p1,p2,p3,p4⟩:=YS S t;have c1:∀S,zU zi O 48 [.agg [Value.int .i64 t.id,.int .i64 t.fee].toArray] S=some (.bool (qG t),S):=fun S=>xE.v t S
  by_cases ht:qG t=true
  ·have sl:∀S,JI zi 44 (tl k l) none (some (.int .i64 pre.length)) S=some (tl k pre,S):=fun S=>by
    rw[UW hk rfl rfl (by omega) (by omega) (by omega),zM k2,hpre]
    simp
   have hkp:je k pre:=⟨hk.le,fun h=>by have:=hk.nil h;rw[hpre]at this;simp at this⟩
   conv at hr=>
    rhs;rw[hTe];simp only[jD.qE,jD.code,jD.rs,jc,reduceIte,zk,zn,zo,zq,d1,e1,WS,Z4,p1,Jr p2,c1,ht,zM k2,sl,J5 hkp]
   generalize hL2:yj (zX zi O false jD.jg) _ _=r2 at hr;obtain⟨e,T',S',rfl,g1,g⟩:=jD.inner (t:=t) hkp (by rw[hpre]at hl;simp at hl;omega) pre [] hL2 rfl rfl rfl rfl rfl rfl p2 p4
   by_cases hin:t.id∈pre.map jG.id
   ·rw[zN hin]at g;obtain⟨rfl,g2,g3⟩:=g;conv at hr=>
     rhs;simp only[jc,reduceIte,zk,zn,zo,zq]
    refine⟨_,_,_,hL.symm.trans (yX hr (by simp)),.inr ⟨?_,rfl,g2,g3⟩⟩
    intro hgd;have:=hgd.1;rw[hpre]at this;simp only[List.map_append,List.map_cons,List.nodup_append]at this;exact this.2.2 _ hin _ (by simp) rfl
   ·rw[zM hin]at g;obtain⟨rfl,g2,f0,f4,f6,f15,f16,f17⟩:=g;have hTe':=jD.eta g2;rw[f0,f4,f6,f15,f16,f17]at hTe';simp only[List.getD_cons_succ,List.getD_cons_zero]at hTe';have g3:S'.get S.next=some (.cells (fT t) (.own []) 0):=(g1.get _ p4).trans p2;have ap:∀S,yF zi 24 24 (iz 2 (n::flat pre)) (iz 2 [t.id,t.fee]) S=some (iz 2 (n::flat (pre++[t])),S):=fun S=>by
     rw[iV je.own (by decide) je.own (by simp[KG];omega),iD];rfl
    conv at hr=>
     rhs;rw[hTe'];simp only[jD.code,jD.rs,jc,reduceIte,zk,zn,zo,zq,Y5,Vb,KJ g3,OO g3,fP,iU,ap,wi]
    refine ih (pre++[t]) ((xk hr).symm.trans hL) rfl rfl rfl rfl rfl rfl (by simp[hpre]) ?_
    refine⟨?_,fun x hx=>by rcases List.mem_append.1 hx with h |h;{ exact hp.2 x h };{ simp at h;rw[h];exact ht }⟩
    simp only[List.map_append,List.map_cons,List.map_nil,List.nodup_append];exact⟨hp.1,by simp,fun a ha b hb=>by simp at hb;subst hb;exact fun h=>hin (h▸ha)⟩
  ·have ht':=ht;rw[Bool.not_eq_true]at ht';conv at hr=>
    rhs;rw[hTe];simp only[jD.qE,jD.code,jD.rs,jc,reduceIte,zk,zn,zo,zq,d1,e1,WS,Z4,p1,Jr p2,c1,ht']
   refine⟨_,_,_,hL.symm.trans (yX hr (by simp)),.inr ⟨?_,rfl,rfl,rfl⟩⟩
   intro hgd;exact ht (hgd.2 t (by rw[hpre];simp))
theorem jD.v {k:Nat}{l:List jG}(hk:je k l) (k2:k≠2) (hl:l.length≤8796093022208) (S:zS):zU zi O jD.id [tl k l] S=some (Qo l,S):=by
 obtain⟨T,hTe⟩:∃T,T=(tl k l::[zh,zh,zh,zh,zh,zh,zh,zh,zh,zh,zh,zh,zh,zh,zh,zh,zh,zh,zh,zh,zh,zh,zh,zh,zh,zh,zh,zh,zh,zh,zh,zh,zh,zh,zh,zh,zh,zh,zh,zh,zh,zh,zh,zh,zh,zh,zh,zh,zh,zh]):=⟨_,rfl⟩;have hr:=Eq.refl (zX zi O false jD.code T zS.empty);have cl:jw 16 (tl k l)=true:=WO hk.le fun _ _=>rfl
 unfold Qo;by_cases h3:l.length≤3
 ·have d3:¬(3:Int)<(l.length:Int):=by omega
  conv at hr=>
   rhs;rw[hTe];simp only[jD.code,jD.rs,jc,reduceIte,zk,zn,zo,zq,zM k2,J5 hk,d3,au,aY]
  generalize hL:yj (zX zi O false jD.qE) _ _=r at hr;obtain⟨e,T',S',rfl,⟨g0,rfl,g2,g3⟩ |⟨g0,rfl,g2,g3⟩⟩:=jD.round hk k2 h3 l [] hL rfl rfl rfl rfl rfl rfl rfl ⟨List.nodup_nil,fun t h=>by cases h⟩
  ·have hTe':=jD.eta g2;rw[g3]at hTe';have few:=iE g0.2;have c2:=fun S=>wF.v (l:=(l.length:Int)::flat l) je.read (by decide) (by intro n hn;rcases List.mem_cons.1 hn with rfl |hn;{ omega };{ have:=few n hn;omega }) S
   have n2:=KO (k:=2) (l:=(l.length:Int)::flat l) (by simp[KG];omega) (by intro n hn;rcases List.mem_cons.1 hn with rfl |hn;{ omega };{ have:=few n hn;omega }) (by simp)
   conv at hr=>
    rhs;rw[hTe'];simp only[jD.code,jD.rs,jc,reduceIte,zk,zn,zo,zq,c2,n2]
   rw[hTe]at hr;rw[zN (Yr.mpr ⟨g0,h3⟩)];exact jD.runs hr (.inr rfl) (by simp only[List.getD_cons_succ,List.getD_cons_zero,qQ,kH,kJ,kG,kF]) rfl (all1 cl) (Zx (all2 (vU (k:=2) (Nat.le_refl 2)) rfl))
  ·conv at hr=>
    rhs;simp only[jc,reduceIte,zk,zn,zo,zq]
   rw[hTe]at hr;rw[zM (fun h=>g0 (Yr.mp h).1)]
   have hrun:=jD.runs (S:=S) hr (.inr rfl) (by rw[g2];rfl) (by rw[g3];rfl) (all1 cl) (by rw[g2,g3];rfl)
   rw[g2,g3]at hrun;exact hrun
 ·have d3:(3:Int)<(l.length:Int):=by omega
  conv at hr=>
   rhs;rw[hTe];simp only[jD.code,jD.rs,jc,reduceIte,zk,zn,zo,zq,zM k2,J5 hk,d3]
  rw[hTe]at hr;rw[zM (fun h=>h3 (Yr.mp h).2)]
  exact jD.runs hr (.inr rfl) rfl rfl (all1 cl) rfl
end Go.Proofs.Ytfjogganfjkckaa
namespace Go.Abs
section
variable {P:Program}{t:TypeId}{xs ys:Array zu}{d:Nat}
theorem lY (P:Program):vZ P program=some P:=rfl
def dR (P:Program) (d:Nat) (xs ys:Array zu):List Field→List Bool→Prop
 | [],[]=>True
 |f::fs,b::bs=>(f.name≠ "_"∧∃v w,vZ P (part f.type xs f.offset)=some v∧vZ P (part f.type ys f.offset)=some w∧vZ P (Op.equalIn d f.type v w)=some b)∧dR P d xs ys fs bs
 | _,_=>False
theorem MS {fs:List Field}(hu:P.underlying t=some (.struct fs.toArray)) (hs:P.stoodInHeld t=false) {bs:List Bool}(h:dR P d xs ys fs bs):vZ P (Op.equalIn (d+1) t (.agg xs) (.agg ys))=some (bs.all id):=by
 rw[Op.equalIn];simp only[Yk,mg hu,Option.bind_some,lY,hs,zF,if_false,List.forIn_toArray];clear hu hs;induction fs generalizing bs with
 |nil=>
  cases bs with
  |nil=>rfl
  |cons b bs=>exact absurd h id
 |cons f fs ih=>
  cases bs with
  |nil=>exact absurd h id
  |cons b bs=>
   obtain⟨⟨h1,v,w,h2,h3,h4⟩,h5⟩:=h;rw[List.forIn_cons];simp only[Yk,zN h1,h2,h3,h4,Option.bind_some];cases b with
   |true=>
    simp only[Bool.not_true,zF,if_false,ZK,Option.bind_some,List.all_cons,id,Bool.true_and];exact ih h5
   |false=>
    simp only[Bool.not_false,if_true,ZK,Option.bind_some,List.all_cons,id,Bool.false_and]
theorem MV {fs:List Field}{S:zS}(hu:P.underlying t=some (.struct fs.toArray)) (hs:P.stoodInHeld t=false) (hg:P.eqGuardType P.depth t=false) {bs:List Bool}(h:dR P 9999 xs ys fs bs)
  (gx:ground (.agg xs)=true) (gy:ground (.agg ys)=true):jd P .eql t (.agg xs) (.agg ys) S=some (.bool (bs.all id),S)∧jd P .neq t (.agg xs) (.agg ys) S=some (.bool (!bs.all id),S):=by
 rw[FK,FK];have e:vZ P (Op.equal t (.agg xs) (.agg ys))=some (bs.all id):=MS hu hs h;have g:vZ P (eqGuard .eql t (.tmp 0) (.tmp 0) (.agg xs) (.agg ys))=some ():=by
  unfold eqGuard;simp only[Bool.not_true,zF,if_false,Yk,lY,Option.bind_some,hg,Bool.not_false,if_true];rfl
 have g':vZ P (eqGuard .neq t (.tmp 0) (.tmp 0) (.agg xs) (.agg ys))=some ():=by
  unfold eqGuard;simp only[Bool.not_true,zF,if_false,Yk,lY,Option.bind_some,hg,Bool.not_false,if_true];rfl
 have ha:[Value.agg xs,.agg ys].all ground=true:=by simp[gx,gy]
 constructor
 ·unfold qW JB;simp only[hu];show vH P [Value.agg xs,.agg ys] _ S=_;refine ZP ha ?_ rfl;simp only[Yk,g,Option.bind_some];unfold binOp;simp only[Yk,e,Option.bind_some,ZK]
 ·unfold qW JB;simp only[hu];show vH P [Value.agg xs,.agg ys] _ S=_;refine ZP ha ?_ rfl;simp only[Yk,g',Option.bind_some];unfold binOp;simp only[Yk,e,Option.bind_some,ZK]
end
end Go.Abs
namespace Go.Proofs.Ytfjogganfjkckaa
open Go.Abs
theorem jG.ext_iff' {t u:jG}:t=u↔t.id=u.id∧t.fee=u.fee:=by cases t;cases u;simp
theorem aP (t u:jG) (S:zS):jd zi .eql 43 (tv t) (tv u) S=some (.bool (decide (t=u)),S)∧jd zi .neq 43 (tv t) (tv u) S=some (.bool (!decide (t=u)),S):=by
 have h:=MV (S:=S) (xs:=#[Value.int .i64 t.id,.int .i64 t.fee]) (ys:=#[Value.int .i64 u.id,.int .i64 u.fee]) (bs:=[t.id==u.id,t.fee==u.fee]) U7 (by kernel_rfl) (by kernel_rfl)
  ⟨⟨by decide,.int .i64 t.id,.int .i64 u.id,by kernel_rfl,by kernel_rfl,by kernel_rfl⟩,⟨by decide,.int .i64 t.fee,.int .i64 u.fee,by kernel_rfl,by kernel_rfl,by kernel_rfl⟩,trivial⟩ rfl rfl
 have e:[t.id==u.id,t.fee==u.fee].all id=decide (t=u):=by
  rw[Bool.eq_iff_iff];simp[jG.ext_iff']
 rw[e]at h;exact h
theorem wI.round {k j:Nat}{a b:List jG}(hk:je k a) (hj:je j b) (k2:k≠2) (j2:j≠2) (hab:a.length=b.length) (hlen:a.length≤17592186044416) {S:zS}:∀(sa sb pa pb:List jG) {T:List zu}{r:St},yj (zX zi O false wI.jg) T S=r→T.length=26 →
  T.getD 0 zh=tl k a→T.getD 1 zh=tl j b→T.getD 12 zh=.int .i64 a.length→T.getD 13 zh=.int .i64 pa.length→a=pa++sa→b=pb++sb→pa.length=pb.length→pa=pb →
  ∃e T',r=some (e,T',S)∧if a=b then e=.exit 0∧T'.length=26 else e=.ret∧T'.getD 4 zh=.bool false:=by
 intro sa;induction sa with
 |nil=>
  intro sb pa pb T r hL hT h0 h1 h12 h13 ha hb hp hpp;have hTe:=wI.eta hT;rw[h0,h1,h12,h13]at hTe;have hr:=Eq.refl (zX zi O false wI.jg T S);have hd:¬(pa.length:Int)<(a.length:Int):=by rw[ha];simp
  conv at hr=>
   rhs;rw[hTe];simp only[wI.jg,wI.code,wI.rs,jc,reduceIte,zk,zn,zo,zq,hd]
  have hsb:sb=[]:=by rw[ha,hb]at hab;simp[hp]at hab;exact hab
  refine⟨_,_,hL.symm.trans (yX hr (by simp)),?_⟩
  rw[zN (by rw[ha,hb,hsb,hpp])]
  exact⟨rfl,rfl⟩
 |cons x sa ih=>
  intro sb pa pb T r hL hT h0 h1 h12 h13 ha hb hp hpp;have hTe:=wI.eta hT;rw[h0,h1,h12,h13]at hTe;have hr:=Eq.refl (zX zi O false wI.jg T S);have hd:(pa.length:Int)<(a.length:Int):=by rw[ha];simp;omega
  cases sb with
  |nil=>rw[ha,hb]at hab;simp[hp]at hab
  |cons y sb=>
   have e1:=fun S=>Q5 (S:=S) hk ha
   have e2:∀S,jZ zi 44 (tl j b) (.int .i64 pa.length) S=some (EP [.int .i64 y.id,.int .i64 y.fee],S):=fun S=>by rw[hp];exact Q5 hj hb
   have wi:IntKind.i64.wrap ((pa.length:Int)+1)=((pa++[x]).length:Int):=by rw[wrap_i64 (by omega) (by omega)];simp
   have q:∀S,jd zi .neq 43 (.agg [Value.int .i64 x.id,.int .i64 x.fee].toArray) (.agg [Value.int .i64 y.id,.int .i64 y.fee].toArray) S=some (.bool (!decide (x=y)),S):=fun S=>(aP x y S).2
   by_cases hxy:x=y
   ·conv at hr=>
     rhs;rw[hTe];simp only[wI.jg,wI.code,wI.rs,jc,reduceIte,zk,zn,zo,zq,hd,zM k2,zM j2,e1,e2,WS,q,zL hxy,wi]
    subst hxy;exact ih sb (pa++[x]) (pb++[x]) ((xk hr).symm.trans hL) rfl rfl rfl rfl rfl (by simp[ha]) (by simp[hb]) (by simp[hp]) (by rw[hpp])
   ·conv at hr=>
     rhs;rw[hTe];simp only[wI.jg,wI.code,wI.rs,jc,reduceIte,zk,zn,zo,zq,hd,zM k2,zM j2,e1,e2,WS,q,zK hxy]
    refine⟨_,_,hL.symm.trans (yX hr (by simp)),?_⟩
    rw[zM (by rw[ha,hb,hpp];simp[hxy])]
    exact⟨rfl,rfl⟩
theorem wI.v {k j:Nat}{a b:List jG}(hk:je k a) (hj:je j b) (k2:k≠2) (j2:j≠2) (hlen:a.length≤17592186044416) (S:zS):zU zi O wI.id [tl k a,tl j b] S=some (.bool (decide (a=b)),S):=by
 obtain⟨T,hTe⟩:∃T,T=(tl k a::tl j b::[zh,zh,zh,zh,zh,zh,zh,zh,zh,zh,zh,zh,zh,zh,zh,zh,zh,zh,zh,zh,zh,zh,zh,zh]):=⟨_,rfl⟩;have hr:=Eq.refl (zX zi O false wI.code T S);by_cases hab:a.length=b.length
 ·have d1:¬(a.length:Int)≠(b.length:Int):=by omega
  conv at hr=>
   rhs;rw[hTe];simp only[wI.code,wI.rs,jc,reduceIte,zk,zn,zo,zq,zM k2,zM j2,J5 hk,J5 hj,hab]
  rw[←hab]at hr;generalize hL:yj (zX zi O false wI.jg) _ _=r at hr;obtain⟨e,T',rfl,g⟩:=wI.round hk hj k2 j2 hab hlen a b [] [] hL rfl rfl rfl rfl rfl rfl rfl rfl rfl;by_cases h:a=b
  ·rw[zN h]at g;obtain⟨rfl,g2⟩:=g;have hTe':=wI.eta g2;conv at hr=>
    rhs;rw[hTe'];simp only[wI.code,wI.rs,jc,reduceIte,zk,zn,zo,zq]
   rw[hTe]at hr;rw[zL h];exact wI.runs hr (.inr rfl)
  ·rw[zM h]at g;obtain⟨rfl,g2⟩:=g;conv at hr=>
    rhs;simp only[jc,reduceIte,zk,zn,zo,zq]
   rw[hTe]at hr;have hrun:=wI.runs hr (.inr rfl);rw[g2]at hrun;rw[zK h];exact hrun
 ·have d1:¬(a.length:Int)=(b.length:Int):=by omega
  conv at hr=>
   rhs;rw[hTe];simp only[wI.code,wI.rs,jc,reduceIte,zk,zn,zo,zq,zM k2,zM j2,J5 hk,J5 hj,d1]
  rw[hTe]at hr;rw[zK (fun h:a=b=>hab (by rw[h]))]
  exact wI.runs hr (.inr rfl)
theorem slices_Equal.round {k j:Nat}{a b:List jG}(hk:je k a) (hj:je j b) (k2:k≠2) (j2:j≠2) (hab:a.length=b.length) (hlen:a.length≤17592186044416) {S:zS}:∀(sa sb pa pb:List jG) {T:List zu}{r:St},yj (zX zi O false slices_Equal.jg) T S=r→T.length=26 →
  T.getD 0 zh=tl k a→T.getD 1 zh=tl j b→T.getD 12 zh=.int .i64 a.length→T.getD 13 zh=.int .i64 pa.length→a=pa++sa→b=pb++sb→pa.length=pb.length→pa=pb →
  ∃e T',r=some (e,T',S)∧if a=b then e=.exit 0∧T'.length=26 else e=.ret∧T'.getD 4 zh=.bool false:=by
 intro sa;induction sa with
 |nil=>
  intro sb pa pb T r hL hT h0 h1 h12 h13 ha hb hp hpp;have hTe:=slices_Equal.eta hT;rw[h0,h1,h12,h13]at hTe;have hr:=Eq.refl (zX zi O false slices_Equal.jg T S);have hd:¬(pa.length:Int)<(a.length:Int):=by rw[ha];simp
  conv at hr=>
   rhs;rw[hTe];simp only[slices_Equal.jg,slices_Equal.code,slices_Equal.rs,jc,reduceIte,zk,zn,zo,zq,hd]
  have hsb:sb=[]:=by rw[ha,hb]at hab;simp[hp]at hab;exact hab
  refine⟨_,_,hL.symm.trans (yX hr (by simp)),?_⟩
  rw[zN (by rw[ha,hb,hsb,hpp])]
  exact⟨rfl,rfl⟩
 |cons x sa ih=>
  intro sb pa pb T r hL hT h0 h1 h12 h13 ha hb hp hpp;have hTe:=slices_Equal.eta hT;rw[h0,h1,h12,h13]at hTe;have hr:=Eq.refl (zX zi O false slices_Equal.jg T S);have hd:(pa.length:Int)<(a.length:Int):=by rw[ha];simp;omega
  cases sb with
  |nil=>rw[ha,hb]at hab;simp[hp]at hab
  |cons y sb=>
   have e1:=fun S=>Q5 (S:=S) hk ha
   have e2:∀S,jZ zi 44 (tl j b) (.int .i64 pa.length) S=some (EP [.int .i64 y.id,.int .i64 y.fee],S):=fun S=>by rw[hp];exact Q5 hj hb
   have wi:IntKind.i64.wrap ((pa.length:Int)+1)=((pa++[x]).length:Int):=by rw[wrap_i64 (by omega) (by omega)];simp
   have q:∀S,jd zi .neq 43 (.agg [Value.int .i64 x.id,.int .i64 x.fee].toArray) (.agg [Value.int .i64 y.id,.int .i64 y.fee].toArray) S=some (.bool (!decide (x=y)),S):=fun S=>(aP x y S).2
   by_cases hxy:x=y
   ·conv at hr=>
     rhs;rw[hTe];simp only[slices_Equal.jg,slices_Equal.code,slices_Equal.rs,jc,reduceIte,zk,zn,zo,zq,hd,zM k2,zM j2,e1,e2,WS,q,zL hxy,wi]
    subst hxy;exact ih sb (pa++[x]) (pb++[x]) ((xk hr).symm.trans hL) rfl rfl rfl rfl rfl (by simp[ha]) (by simp[hb]) (by simp[hp]) (by rw[hpp])
   ·conv at hr=>
     rhs;rw[hTe];simp only[slices_Equal.jg,slices_Equal.code,slices_Equal.rs,jc,reduceIte,zk,zn,zo,zq,hd,zM k2,zM j2,e1,e2,WS,q,zK hxy]
    refine⟨_,_,hL.symm.trans (yX hr (by simp)),?_⟩
    rw[zM (by rw[ha,hb,hpp];simp[hxy])]
    exact⟨rfl,rfl⟩
theorem slices_Equal.v {k j:Nat}{a b:List jG}(hk:je k a) (hj:je j b) (k2:k≠2) (j2:j≠2) (hlen:a.length≤17592186044416) (S:zS):zU zi O slices_Equal.id [tl k a,tl j b] S=some (.bool (decide (a=b)),S):=by
 obtain⟨T,hTe⟩:∃T,T=(tl k a::tl j b::[zh,zh,zh,zh,zh,zh,zh,zh,zh,zh,zh,zh,zh,zh,zh,zh,zh,zh,zh,zh,zh,zh,zh,zh]):=⟨_,rfl⟩;have hr:=Eq.refl (zX zi O false slices_Equal.code T S);by_cases hab:a.length=b.length
 ·have d1:¬(a.length:Int)≠(b.length:Int):=by omega
  conv at hr=>
   rhs;rw[hTe];simp only[slices_Equal.code,slices_Equal.rs,jc,reduceIte,zk,zn,zo,zq,zM k2,zM j2,J5 hk,J5 hj,hab]
  rw[←hab]at hr;generalize hL:yj (zX zi O false slices_Equal.jg) _ _=r at hr;obtain⟨e,T',rfl,g⟩:=slices_Equal.round hk hj k2 j2 hab hlen a b [] [] hL rfl rfl rfl rfl rfl rfl rfl rfl rfl;by_cases h:a=b
  ·rw[zN h]at g;obtain⟨rfl,g2⟩:=g;have hTe':=slices_Equal.eta g2;conv at hr=>
    rhs;rw[hTe'];simp only[slices_Equal.code,slices_Equal.rs,jc,reduceIte,zk,zn,zo,zq]
   rw[hTe]at hr;rw[zL h];exact slices_Equal.runs hr (.inr rfl)
  ·rw[zM h]at g;obtain⟨rfl,g2⟩:=g;conv at hr=>
    rhs;simp only[jc,reduceIte,zk,zn,zo,zq]
   rw[hTe]at hr;have hrun:=slices_Equal.runs hr (.inr rfl);rw[g2]at hrun;rw[zK h];exact hrun
 ·have d1:¬(a.length:Int)=(b.length:Int):=by omega
  conv at hr=>
   rhs;rw[hTe];simp only[slices_Equal.code,slices_Equal.rs,jc,reduceIte,zk,zn,zo,zq,zM k2,zM j2,J5 hk,J5 hj,d1]
  rw[hTe]at hr;rw[zK (fun h:a=b=>hab (by rw[h]))]
  exact slices_Equal.runs hr (.inr rfl)
theorem iF :∀{a b:List jG},flat a=flat b→a=b:=by
 intro a;induction a with
 |nil=>intro b h;cases b with
  |nil=>rfl
  |cons u b=>simp[flat]at h
 |cons t a ih=>
  intro b h;cases b with
  |nil=>simp[flat]at h
  |cons u b=>
   have h':[t.id,t.fee]++flat a=[u.id,u.fee]++flat b:=h;simp at h';rw[ih h'.2.2,jG.ext_iff'.mpr ⟨h'.1,h'.2.1⟩]
theorem gX {l:List jG}(h:∀t∈l,qG t=true):∀n∈flat l,Zk n:=fun n hn=>by have:=iE h n hn;unfold Zk;omega
theorem U4 {a b:List jG}{r s:List UInt8} (la:a.length≤1000) (lb:b.length≤1000) (ha:∀t∈a,qG t=true) (hb:∀t∈b,qG t=true) (h:Z9 a++r=Z9 b++s):a=b∧r=s:=by
 rw[KW,KW,List.append_assoc,List.append_assoc]at h;obtain⟨h1,h2⟩:=Xp (a:=[(a.length:Int)]) (c:=[(b.length:Int)]) rfl (by simp[Zk];omega) (by simp[Zk];omega) h
 simp at h1;obtain⟨h3,h4⟩:=Xp (by rw[KG,KG];omega) (gX ha) (gX hb) h2
 exact⟨iF h3,h4⟩
theorem Fz {a b:List jG}{r s:List UInt8} (ha:Za a=true) (hb:Za b=true) (h:Z9 a++r=Z9 b++s):a=b∧r=s:=by
 obtain⟨h1,h2⟩:=Yr.mp ha;obtain⟨h3,h4⟩:=Yr.mp hb;exact U4 (by omega) (by omega) h1.2 h3.2 h
noncomputable def vT (l:List UInt8):Option (List jG):=rd (fun t=>Za t=true) Z9 l
theorem Yt (l:List UInt8) (t:List jG):vT l=some t↔Za t=true∧l=Z9 t :=
 mD (fun x y hx hy h=>(Fz (r:=[]) (s:=[]) hx hy (by simpa using h)).1) l t
theorem U2 {l:List UInt8} (h:∀t,¬(Za t=true∧l=Z9 t)):vT l=none:=by
 cases hr:vT l with
 |none=>rfl
 |some t=>exact absurd ((Yt l t).mp hr) (h t)
noncomputable def XI (k:Nat) (l:List UInt8):zu:=match vT l with
 |some t=>.tuple #[tl (if t=[]then k else 2) t,.int .i64 0]
 |none=>.tuple #[.slice none 0 0,.int .i64 61]
def YO :Nat→List UInt8→Option (List jG×List UInt8)
 | 0,l=>some ([],l)
 |m+1,l=>match qh 2 l with
  |some ([a,b],r)=>if qG ⟨a,b⟩then(match YO m r with
   |some (x,y)=>some (⟨a,b⟩::x,y)
   |none=>none)else none
  | _=>none
theorem Ei :∀(m:Nat) (l:List UInt8) (a:List jG) (b:List UInt8),YO m l=some (a,b)↔a.length=m∧(∀t∈a,qG t=true)∧l=encs (flat a)++b:=by
 intro m;induction m with
 |zero=>
  intro l a b;constructor
  ·intro h;cases h;exact⟨rfl,(fun t h=>by cases h),rfl⟩
  ·rintro⟨h1,h2,h3⟩;have:a=[]:=List.length_eq_zero_iff.mp h1;subst this;rw[h3];rfl
 |succ m ih=>
  intro l a b;rw[YO];constructor
  ·intro h;rcases VE l with hn |⟨x,y,r,hn,hlr⟩
   ·rw[hn]at h;cases h
   ·rw[hn]at h;dsimp only at h;split at h
    ·rename_i hok;cases hr:YO m r with
     |none=>rw[hr]at h;cases h
     |some ab=>
      obtain⟨a',b'⟩:=ab;rw[hr]at h;obtain⟨h1,h2,h3⟩:=(ih r a' b').mp hr;cases h;obtain⟨f1,f2,f3⟩:=(ZF _ _ _ _).mp hn;refine⟨by simp[h1],fun t ht=>?_,?_⟩
      ·rcases List.mem_cons.1 ht with rfl |ht
       ·exact hok
       ·exact h2 t ht
      ·rw[f2,h3,show flat (⟨x,y⟩::a')=[x,y]++flat a' from rfl,Xo,List.append_assoc]
    ·cases h
  ·rintro⟨h1,h2,h3⟩;cases a with
   |nil=>simp at h1
   |cons t a=>
    have ht:=h2 t (by simp)
    obtain⟨b1,b2,b3,b4⟩:=YR.mp ht;have hn:=(ZF 2 l [t.id,t.fee] (encs (flat a)++b)).mpr ⟨rfl,by rw[h3,show flat (t::a)=[t.id,t.fee]++flat a from rfl,Xo,List.append_assoc],by simp[Zk];omega⟩
    rw[hn];dsimp only;rw[zN ht,(ih (encs (flat a)++b) a b).mpr ⟨by simpa using h1,fun u hu=>h2 u (by simp[hu]),rfl⟩]
theorem Sz (l:List UInt8):qh 1 l=none∨∃a r,qh 1 l=some ([a],r)∧r.length≤l.length:=by
 cases h:qh 1 l with
 |none=>exact .inl rfl
 |some ar=>
  obtain⟨a,r⟩:=ar;obtain⟨h1,h2⟩:=bW h
  match a,h1 with
  | [x],_=>exact .inr ⟨x,r,rfl,h2⟩
theorem XJ {l r:List UInt8} {n:Int}(h:qh 1 l=some ([n],r)) (t:List jG):vT l=some t↔0≤n∧n≤3∧YO n.toNat r=some (t,[])∧Ko t=true:=by
 obtain⟨_,h2,h3⟩:=(ZF _ _ _ _).mp h;rw[Yt,Ei];constructor
 ·rintro⟨g1,g2⟩;obtain⟨h5,h6⟩:=Yr.mp g1;rw[KW,h2]at g2;obtain⟨h7,h8⟩:=Xp (a:=[n]) (c:=[(t.length:Int)]) rfl h3 (by simp[Zk];omega) g2
  simp at h7;refine⟨by omega,by omega,⟨by omega,h5.2,by simpa using h8⟩,?_⟩
  unfold Za at g1;simp at g1;exact g1.1
 ·rintro⟨g1,g2,⟨g3,g4,g5⟩,g6⟩;refine⟨?_,?_⟩
  ·unfold Za;rw[g6,Bool.true_and,List.all_eq_true];exact g4
  ·have:n=(t.length:Int):=by omega
   rw[h2,g5,List.append_nil,KW,this]
theorem U3 {l:List UInt8} (h:qh 1 l=none):vT l=none:=by
 refine U2 fun t ht=>?_
 obtain⟨h5,h6⟩:=Yr.mp ht.1;have:=(ZF 1 l [(t.length:Int)] (encs (flat t))).mpr ⟨rfl,by rw[ht.2,KW],by simp[Zk];omega⟩
 rw[h]at this;cases this
theorem fQ (t:jG) (S:zS):yO zi 44 1 [(0,tv t)] S=some (tl 2 [t],S):=by kernel_rfl
theorem OD (k:Nat) (hk:k≤2) (a:Int) (h:k≠0) (S:zS):jZ zi 24 (iz k [a]) (.int .i64 0) S=some (EP [.int .i64 a],S):=QG ⟨hk,fun h0=>absurd h0 h⟩ (by decide) (by simp)
theorem lT {k:Nat}(hk:k≤2) (l:List jG):je (if l=[]then k else 2) l:=⟨by split<;>omega,fun h=>by split at h<;>first |assumption |omega⟩
theorem jL.round {n:Int}(hn:n≤3):∀(m:Nat) (i:Int) (rest:List UInt8) (out:List jG) {T:List zu}{S:zS}{r:St},yj (zX zi O false jL.jg) T S=r→T.length=59 →
  T.getD 5 zh=jk 2 rest→T.getD 7 zh=tl (if out=[]then 0 else 2) out→T.getD 33 zh=.int .i64 n→T.getD 34 zh=.int .i64 i→0≤i→n=i+m→out.length≤3-m→rest.length≤140737488355328 →
  ∃e T' S',r=some (e,T',S')∧match YO m rest with
   |some (ts,r')=>e=.exit 0∧T'.length=59∧T'.getD 5 zh=jk 2 r'∧T'.getD 7 zh=tl (if out++ts=[]then 0 else 2) (out++ts)
   |none=>e=.ret∧T'.getD 2 zh=.slice none 0 0∧T'.getD 3 zh=.int .i64 61:=by
 intro m;induction m with
 |zero=>
  intro i rest out T S r hL hT h5 h7 h33 h34 hi hm ho hl;have hTe:=jL.eta hT;rw[h5,h7,h33,h34]at hTe;have hr:=Eq.refl (zX zi O false jL.jg T S);have d1:¬i<n:=by omega
  conv at hr=>
   rhs;rw[hTe];simp only[jL.jg,jL.code,jL.rs,jc,reduceIte,zk,zn,zo,zq,d1]
  refine⟨_,_,_,hL.symm.trans (yX hr (by simp)),?_⟩
  rw[YO];exact⟨rfl,rfl,rfl,by rw[List.append_nil];rfl⟩
 |succ m ih=>
  intro i rest out T S r hL hT h5 h7 h33 h34 hi hm ho hl;have hTe:=jL.eta hT;rw[h5,h7,h33,h34]at hTe;have hr:=Eq.refl (zX zi O false jL.jg T S);have d1:i<n:=by omega
  have c1:=fun S=>yZ.v (k:=1) (l:=rest) je.read (by decide) hl S
  unfold bQ at c1;rw[YO];rcases VE rest with h |⟨a,b,q,h,hlr⟩
  ·rw[h]at c1;rw[h];obtain⟨S2,p1,p2,p3,p4⟩:=YS S ⟨0,0⟩;conv at hr=>
    rhs;rw[hTe];simp only[jL.jg,jL.code,jL.rs,jc,reduceIte,zk,zn,zo,zq,d1,c1,Z4,p1]
   exact⟨_,_,_,hL.symm.trans (yX hr (by simp)),rfl,rfl,rfl⟩
  ·rw[h]at c1;rw[h];obtain⟨S2,p1,p2,p3,p4⟩:=YS S ⟨a,b⟩;by_cases hok:qG ⟨a,b⟩=true
   ·have wi:IntKind.i64.wrap (i+1)=i+1:=wrap_i64 (by omega) (by omega)
    have ap:∀S,yF zi 44 44 (tl (if out=[]then 0 else 2) out) (tl 2 [⟨a,b⟩]) S=some (tl 2 (out++[⟨a,b⟩]),S):=fun S=>Fa ⟨by split<;>omega,fun h=>by split at h<;>first |assumption |omega⟩ (by split<;>omega) (by omega)
    have c2:∀S,yO zi 44 1 [(0,.agg [Value.int .i64 a,.int .i64 b].toArray)] S=some (tl 2 [⟨a,b⟩],S):=fun S=>fQ ⟨a,b⟩ S
    have c3:zZ zi false 43 (.pointer (some ⟨S.next,0,none⟩)) S2=some (.agg [Value.int .i64 a,.int .i64 b].toArray,S2):=Jr p2;conv at hr=>
     rhs;rw[hTe];simp only[jL.jg,jL.code,jL.rs,jc,reduceIte,zk,zn,zo,zq,d1,c1,Z4,p1,hok,c3,c2,ap,wi]
    obtain⟨e,T',S',j1,j2⟩:=ih (i+1) q (out++[⟨a,b⟩]) ((xk hr).symm.trans hL) rfl rfl (by rw[show(if out++[jG.mk a b]=[]then 0 else 2)=2 from zM (by simp)];rfl) rfl rfl (by omega) (by omega) (by simp;omega) (by omega)
    refine⟨e,T',S',j1,?_⟩;dsimp only;rw[zN hok];cases hq:YO m q with
    |none=>rw[hq]at j2;exact j2
    |some tr=>
     obtain⟨ts,r'⟩:=tr;rw[hq]at j2;dsimp only at j2 ⊢;rw[List.append_assoc]at j2;exact j2
   ·dsimp only;rw[zM hok];rw[Bool.not_eq_true]at hok;conv at hr=>
     rhs;rw[hTe];simp only[jL.jg,jL.code,jL.rs,jc,reduceIte,zk,zn,zo,zq,d1,c1,Z4,p1,hok]
    exact⟨_,_,_,hL.symm.trans (yX hr (by simp)),rfl,rfl,rfl⟩
theorem jL.v {k:Nat}{l:List UInt8} (hk:je k l) (k2:k≠2) (hl:l.length≤140737488355328) (S:zS):zU zi O jL.id [jk k l] S=some (XI 0 l,S):=by
 obtain⟨T,hTe⟩:∃T,T=(jk k l::[zh,zh,zh,zh,zh,zh,zh,zh,zh,zh,zh,zh,zh,zh,zh,zh,zh,zh,zh,zh,zh,zh,zh,zh,zh,zh,zh,zh,zh,zh,zh,zh,zh,zh,zh,zh,zh,zh,zh,zh,zh,zh,zh,zh,zh,zh,zh,zh,zh,zh,zh,zh,zh,zh,zh,zh,zh,zh]):=⟨_,rfl⟩;have hr:=Eq.refl (zX zi O false jL.code T zS.empty);have c1:=fun S=>jT.v (many:=1) hk k2 hl S
 have r1:JY 0 (if k=0 then 0 else 2) 1 l=_:=QU (m:=1) (by decide) (by decide)
 rw[r1]at c1;have cl:[jk k l].all (jw 16)=true:=all1 (vU (k:=k) hk.le);unfold XI;rcases Sz l with h |⟨n,rest,h,hlr⟩
 ·rw[h]at c1;rw[U3 h];conv at hr=>
   rhs;rw[hTe];simp only[jL.code,jL.rs,jc,reduceIte,zk,zn,zo,zq,zM k2,c1]
  rw[hTe]at hr;exact jL.runs hr (.inr rfl) rfl rfl cl rfl
 ·rw[h]at c1;have e0:=OD 1 (by decide) n (by decide)
  by_cases h0:n<0
  ·have hno:vT l=none:=by
    cases hx:vT l with
    |none=>rfl
    |some t=>have:=(XJ h t).mp hx;omega
   rw[hno];conv at hr=>
    rhs;rw[hTe];simp only[jL.code,jL.rs,jc,reduceIte,zk,zn,zo,zq,zM k2,c1,e0,kS,h0]
   rw[hTe]at hr;exact jL.runs hr (.inr rfl) rfl rfl cl rfl
  ·by_cases h3:3<n
   ·have hno:vT l=none:=by
     cases hx:vT l with
     |none=>rfl
     |some t=>have:=(XJ h t).mp hx;omega
    rw[hno];conv at hr=>
     rhs;rw[hTe];simp only[jL.code,jL.rs,jc,reduceIte,zk,zn,zo,zq,zM k2,c1,e0,kS,h0,h3]
    rw[hTe]at hr;exact jL.runs hr (.inr rfl) rfl rfl cl rfl
   ·conv at hr=>
     rhs;rw[hTe];simp only[jL.code,jL.rs,jc,reduceIte,zk,zn,zo,zq,zM k2,c1,e0,kS,h0,h3]
    generalize hL:yj (zX zi O false jL.jg) _ _=r at hr;obtain⟨e,T',S',rfl,g⟩:=jL.round (n:=n) (by omega) n.toNat 0 rest [] hL rfl rfl rfl rfl rfl (by omega) (by omega) (by simp) (by omega)
    cases hts:YO n.toNat rest with
    |none=>
     rw[hts]at g;obtain⟨rfl,g2,g3⟩:=g;have hno:vT l=none:=by
      cases hx:vT l with
      |none=>rfl
      |some t=>have:=(XJ h t).mp hx;rw[hts]at this;simp at this
     rw[hno];conv at hr=>
      rhs;simp only[jc,reduceIte,zk,zn,zo,zq]
     rw[hTe]at hr;have hrun:=jL.runs (S:=S) hr (.inr rfl) (by rw[g2];rfl) (by rw[g3];rfl) cl (by rw[g2,g3];rfl)
     rw[g2,g3]at hrun;exact hrun
    |some tr=>
     obtain⟨ts,r'⟩:=tr;rw[hts]at g;obtain⟨rfl,g2,g3,g4⟩:=g;rw[List.nil_append]at g4;have hTe':=jL.eta g2;rw[g3,g4]at hTe';by_cases hr0:r'=[]
     ·subst hr0;have hts3:ts.length≤3:=by have:=(Ei _ _ _ _).mp hts;omega
      have c3:=fun S=>wZ.v (lT (by decide) ts).zQ (Qy (if ts=[]then 0 else 2)) (by omega) S
      by_cases hu:Ko ts=true
      ·have hyes:vT l=some ts:=(XJ h ts).mpr ⟨by omega,by omega,hts,hu⟩
       rw[hyes];conv at hr=>
        rhs;rw[hTe'];simp only[jL.code,jL.rs,jc,reduceIte,zk,zn,zo,zq,Jm je.read,goInt,List.length_nil,Int.natCast_zero,Int.lt_irrefl,JM,c3,hu]
       rw[hTe]at hr;exact jL.runs hr (.inr rfl) (by simp only[List.getD_cons_succ,List.getD_cons_zero,qQ,kH,kJ,kG,kF]) rfl cl (Zx (all2 (WO (lT (by decide) ts).le fun _ _=>rfl) rfl))
      ·have hno:vT l=none:=by
        cases hx:vT l with
        |none=>rfl
        |some t=>have:=(XJ h t).mp hx;rw[hts]at this;simp at this;rw[this.2.2.1]at hu;exact absurd this.2.2.2 hu
       rw[hno];rw[Bool.not_eq_true]at hu;conv at hr=>
        rhs;rw[hTe'];simp only[jL.code,jL.rs,jc,reduceIte,zk,zn,zo,zq,Jm je.read,goInt,List.length_nil,Int.natCast_zero,Int.lt_irrefl,JM,c3,hu]
       rw[hTe]at hr;exact jL.runs hr (.inr rfl) rfl rfl cl rfl
     ·have hp:(0:Int)<(r'.length:Int):=by have:=List.length_pos_iff.mpr hr0;omega
      have hno:vT l=none:=by
       cases hx:vT l with
       |none=>rfl
       |some t=>have:=(XJ h t).mp hx;rw[hts]at this;simp at this;exact absurd this.2.2.1.2 hr0
      rw[hno];conv at hr=>
       rhs;rw[hTe'];simp only[jL.code,jL.rs,jc,reduceIte,zk,zn,zo,zq,Jm je.read,goInt,zL hp]
      rw[hTe]at hr;exact jL.runs hr (.inr rfl) rfl rfl cl rfl
theorem NC :∀(m:Nat) (l:List Int),l.length=2*m→∃ts:List jG,l=flat ts∧ts.length=m:=by
 intro m;induction m with
 |zero=>intro l h;exact⟨[],List.length_eq_zero_iff.mp (by omega),rfl⟩
 |succ m ih=>
  intro l h
  match l,h with
  |a::b::l,h=>
   obtain⟨ts,h1,h2⟩:=ih l (by simp at h;omega)
   exact⟨⟨a,b⟩::ts,by rw[h1];rfl,by simp[h2]⟩
theorem Nz {n0:Int}{pre suf:List jG}{t:jG}{l:List Int}(hl:l=n0::flat (pre++t::suf)):l[1+2*pre.length]?=some t.id∧l[2+2*pre.length]?=some t.fee:=by
 have e:l=(n0::flat pre)++(t.id::t.fee::flat suf):=by rw[hl,iD];rfl
 have hlen:(n0::flat pre).length=1+2*pre.length:=by rw[List.length_cons,KG];omega
 constructor
 ·rw[e,List.getElem?_append_right (by omega),hlen,Nat.sub_self];rfl
 ·rw[e,List.getElem?_append_right (by omega),hlen,show 2+2*pre.length-(1+2*pre.length)=1 by omega];rfl
theorem ZC {k:Nat}{l:List Int}{i:Int}{x:Int}{m:Nat}(h:je k l) (hi:i=(m:Int)) (hx:l[m]?=some x) (S:zS):jZ zi 24 (iz k l) (.int .i64 i) S=some (EP [.int .i64 x],S):=by
 obtain⟨h1,h2⟩:=List.getElem?_eq_some_iff.mp hx;subst hi;rw[QG h (by omega) (by omega)]
 simp[←h2]
theorem jF.inner {ns:List Int}{n0:Int}{ts:List jG}(hns:ns=n0::flat ts) (hts:ts.length≤3):∀(suf pre:List jG) {T:List zu}{S:zS}{r:St},yj (zX zi O false jF.jg) T S=r→T.length=69 →
  T.getD 4 zh=.int .i64 ts.length→T.getD 5 zh=iz 2 ns→T.getD 8 zh=tl 2 pre→T.getD 9 zh=.int .i64 pre.length→ts=pre++suf →
  ∃T',r=some (.exit 2,T',S)∧T'.length=69∧T'.getD 8 zh=tl 2 ts∧T'.getD 4 zh=.int .i64 ts.length∧T'.getD 0 zh=T.getD 0 zh:=by
 intro suf;induction suf with
 |nil=>
  intro pre T S r hL hT h4 h5 h8 h9 hpre;have hTe:=jF.eta hT;rw[h4,h5,h8,h9]at hTe;have hr:=Eq.refl (zX zi O false jF.jg T S);have d1:¬(pre.length:Int)<(ts.length:Int):=by rw[hpre];simp
  conv at hr=>
   rhs;rw[hTe];simp only[jF.jg,jF.code,jF.rs,jc,reduceIte,zk,zn,zo,zq,d1]
  rw[List.append_nil]at hpre;exact⟨_,hL.symm.trans (yX hr (by simp)),rfl,by rw[hpre];rfl,rfl,rfl⟩
 |cons t suf ih=>
  intro pre T S r hL hT h4 h5 h8 h9 hpre;have hTe:=jF.eta hT;rw[h4,h5,h8,h9]at hTe;have hr:=Eq.refl (zX zi O false jF.jg T S);have d1:(pre.length:Int)<(ts.length:Int):=by rw[hpre];simp;omega
  obtain⟨f1,f2⟩:=Nz (by rw[hns,hpre]:ns=n0::flat (pre++t::suf))
  have w1:IntKind.i64.wrap (2*(pre.length:Int))=2*(pre.length:Int):=wrap_i64 (by omega) (by omega)
  have w2:IntKind.i64.wrap (1+2*(pre.length:Int))=1+2*(pre.length:Int):=wrap_i64 (by omega) (by omega)
  have w3:IntKind.i64.wrap (2+2*(pre.length:Int))=2+2*(pre.length:Int):=wrap_i64 (by omega) (by omega)
  have wi:IntKind.i64.wrap ((pre.length:Int)+1)=((pre++[t]).length:Int):=by rw[wrap_i64 (by omega) (by omega)];simp
  have i1:=fun S=>ZC (k:=1) (i:=1+2*(pre.length:Int)) je.read (by omega) f1 S
  have i2:=fun S=>ZC (k:=1) (i:=2+2*(pre.length:Int)) je.read (by omega) f2 S
  have ap:∀S,yF zi 44 44 (tl 2 pre) (tl 2 [t]) S=some (tl 2 (pre++[t]),S):=fun S=>Fa je.own (by decide) (by omega)
  have c2:∀S,yO zi 44 1 [(0,.agg [Value.int .i64 t.id,.int .i64 t.fee].toArray)] S=some (tl 2 [t],S):=fun S=>fQ t S
  conv at hr=>
   rhs;rw[hTe];simp only[jF.jg,jF.code,jF.rs,jc,reduceIte,zk,zn,zo,zq,d1,w1,w2,w3,i1,i2,kS,ah vJ vJ,c2,ap,wi]
  obtain⟨T',j1,j2,j3,j4,j5⟩:=ih (pre++[t]) ((xk hr).symm.trans hL) rfl rfl rfl rfl rfl (by simp[hpre])
  exact⟨T',j1,j2,j3,j4,j5⟩
theorem jF.round {k:Nat}{l:List UInt8} (hk:je k l) (k2:k≠2) (hl:l.length≤140737488355328):∀(m:Nat) (n:Nat) {T:List zu}{S:zS}{r:St},yj (zX zi O false jF.qE) T S=r→T.length=69 →
  T.getD 0 zh=jk k l→T.getD 4 zh=.int .i64 n→n+m=4→(∀ts,vT l=some ts→n≤ts.length) →
  ∃e T',r=some (e,T',S)∧match vT l with
   |some ts=>e=.ret∧T'.getD 2 zh=tl 2 ts∧T'.getD 3 zh=.int .i64 0
   |none=>e=.exit 0∧T'.length=69:=by
 intro m;induction m with
 |zero=>
  intro n T S r hL hT h0 h4 hn hno;have hTe:=jF.eta hT;rw[h0,h4]at hTe;have hr:=Eq.refl (zX zi O false jF.qE T S);have d1:¬(n:Int)≤3:=by omega
  conv at hr=>
   rhs;rw[hTe];simp only[jF.qE,jF.code,jF.rs,jc,reduceIte,zk,zn,zo,zq,d1]
  refine⟨_,_,hL.symm.trans (yX hr (by simp)),?_⟩
  have hx:vT l=none:=by
   cases hx:vT l with
   |none=>rfl
   |some ts=>have h1:=hno ts hx;have h2:=(Yr.mp ((Yt l ts).mp hx).1).2;omega
  rw[hx];exact⟨rfl,rfl⟩
 |succ m ih=>
  intro n T S r hL hT h0 h4 hn hno;have hTe:=jF.eta hT;rw[h0,h4]at hTe;have hr:=Eq.refl (zX zi O false jF.qE T S);have d1:(n:Int)≤3:=by omega
  have w1:IntKind.i64.wrap (2*(n:Int))=2*(n:Int):=wrap_i64 (by omega) (by omega)
  have w2:IntKind.i64.wrap (1+2*(n:Int))=((1+2*n:Nat):Int):=by rw[wrap_i64 (by omega) (by omega)];omega
  have wi:IntKind.i64.wrap ((n:Int)+1)=((n+1:Nat):Int):=by rw[wrap_i64 (by omega) (by omega)];omega
  have c1:=fun S=>jS.v (many:=((1+2*n:Nat):Int)) hk k2 hl S
  have r1:JY 2 2 ((1+2*n:Nat):Int) l=_:=QU (by omega) (by omega)
  rw[r1]at c1;have key:∀ts,vT l=some ts→ts.length=n→qh (1+2*n) l=some ((ts.length:Int)::flat ts,[]):=by
   intro ts hx hlen;obtain⟨g1,g2⟩:=(Yt l ts).mp hx;obtain⟨h5,h6⟩:=Yr.mp g1;refine(ZF _ _ _ _).mpr ⟨by simp[KG];omega,by rw[g2,List.append_nil];rfl,?_⟩
   intro x hx;rcases List.mem_cons.1 hx with rfl |hx
   ·unfold Zk;omega
   ·exact gX h5.2 x hx
  cases hns:qh (1+2*n) l with
  |none=>
   rw[hns]at c1;conv at hr=>
    rhs;rw[hTe];simp only[jF.qE,jF.code,jF.rs,jc,reduceIte,zk,zn,zo,zq,d1,w1,w2,zM k2,c1,wi]
   refine ih (n+1) ((xk hr).symm.trans hL) rfl rfl rfl (by omega) ?_
   intro ts hx;have h1:=hno ts hx;by_cases h2:ts.length=n
   ·rw[key ts hx h2]at hns;cases hns
   ·omega
  |some nr=>
   obtain⟨ns,rest⟩:=nr;rw[hns]at c1;by_cases hr0:rest=[]
   ·subst hr0;obtain⟨f1,f2,f3⟩:=(ZF _ _ _ _).mp hns;obtain⟨n0,nl,rfl⟩:∃n0 nl,ns=n0::nl:=by
     cases ns with
     |nil=>simp at f1;omega
     |cons a b=>exact⟨a,b,rfl⟩
    obtain⟨ts,t1,t2⟩:=NC n nl (by simp at f1;omega)
    subst t1;conv at hr=>
     rhs;rw[hTe];simp only[jF.qE,jF.code,jF.rs,jc,reduceIte,zk,zn,zo,zq,d1,w1,w2,zM k2,c1,Jm je.read,goInt,List.length_nil,Int.natCast_zero,Int.lt_irrefl,IZ]
    generalize hL2:yj (zX zi O false jF.jg) _ _=r2 at hr;obtain⟨T',rfl,g1,g2,g3,g4⟩:=jF.inner (n0:=n0) (ts:=ts) rfl (by omega) ts [] hL2 rfl (by rw[t2];rfl) rfl rfl rfl rfl
    have hTe':=jF.eta g1;rw[g2,g3,g4,t2]at hTe';simp only[List.getD_cons_zero]at hTe';have c3:=fun S=>jD.v (k:=1) (l:=ts) je.read (by decide) (by omega) S
    unfold Qo at c3;have s1:∀S,Ja zi 33 9 (jk k l) S=some (.string ⟨l.toArray⟩,S):=fun S=>Y2 hk
    have s2:∀S,Ja zi 33 9 (jk 1 (Z9 ts)) S=some (.string ⟨(Z9 ts).toArray⟩,S):=fun S=>Y2 je.read
    by_cases hok:Za ts=true
    ·rw[zN hok]at c3;by_cases hb:Z9 ts=l
     ·conv at hr=>
       rhs;rw[hTe'];simp only[jF.code,jF.rs,jc,reduceIte,zk,zn,zo,zq,zM k2,c3,s1,s2,dJ,zL hb]
      refine⟨_,_,hL.symm.trans (yX hr (by simp)),?_⟩
      rw[(Yt l ts).mpr ⟨hok,hb.symm⟩];exact⟨rfl,rfl,rfl⟩
     ·conv at hr=>
       rhs;rw[hTe'];simp only[jF.code,jF.rs,jc,reduceIte,zk,zn,zo,zq,zM k2,c3,s1,s2,dJ,zK hb,wi]
      refine ih (n+1) ((xk hr).symm.trans hL) rfl rfl rfl (by omega) ?_
      intro us hx;have h1:=hno us hx;by_cases h2:us.length=n
      ·have:=key us hx h2;rw[hns]at this;simp at this;have e:=iF this.2;subst e;exact absurd ((Yt _ _).mp hx).2.symm hb
      ·omega
    ·rw[zM hok]at c3;conv at hr=>
      rhs;rw[hTe'];simp only[jF.code,jF.rs,jc,reduceIte,zk,zn,zo,zq,c3,wi]
     refine ih (n+1) ((xk hr).symm.trans hL) rfl rfl rfl (by omega) ?_
     intro us hx;have h1:=hno us hx;by_cases h2:us.length=n
     ·have:=key us hx h2;rw[hns]at this;simp at this;have e:=iF this.2;subst e;exact absurd ((Yt _ _).mp hx).1 hok
     ·omega
   ·have hp:(0:Int)<(rest.length:Int):=by have:=List.length_pos_iff.mpr hr0;omega
    conv at hr=>
     rhs;rw[hTe];simp only[jF.qE,jF.code,jF.rs,jc,reduceIte,zk,zn,zo,zq,d1,w1,w2,zM k2,c1,Jm je.read,goInt,zL hp,wi]
    refine ih (n+1) ((xk hr).symm.trans hL) rfl rfl rfl (by omega) ?_
    intro ts hx;have h1:=hno ts hx;by_cases h2:ts.length=n
    ·rw[key ts hx h2]at hns;simp at hns;exact absurd hns.2 hr0
    ·omega
theorem jF.v {k:Nat}{l:List UInt8} (hk:je k l) (k2:k≠2) (hl:l.length≤140737488355328) (S:zS):zU zi O jF.id [jk k l] S=some (XI 2 l,S):=by
 obtain⟨T,hTe⟩:∃T,T=(jk k l::zh::zh::zh::zh::zh::zh::zh::zh::[zh,zh,zh,zh,zh,zh,zh,zh,zh,zh,zh,zh,zh,zh,zh,zh,zh,zh,zh,zh,zh,zh,zh,zh,zh,zh,zh,zh,zh,zh,zh,zh,zh,zh,zh,zh,zh,zh,zh,zh,zh,zh,zh,zh,zh,zh,zh,zh,zh,zh,zh,zh,zh,zh,zh,zh,zh,zh,zh,zh]):=⟨_,rfl⟩;have hr:=Eq.refl (zX zi O false jF.code T S);conv at hr=>
  rhs;rw[hTe];simp only[jF.code,jF.rs,jc,reduceIte,zk,zn,zo,zq]
 generalize hL:yj (zX zi O false jF.qE) _ _=r at hr;obtain⟨e,T',rfl,g⟩:=jF.round hk k2 hl 4 0 hL rfl rfl rfl rfl (fun ts h=>Nat.zero_le _)
 unfold XI;cases hx:vT l with
 |none=>
  rw[hx]at g;obtain⟨rfl,g2⟩:=g;have hTe':=jF.eta g2;conv at hr=>
   rhs;rw[hTe'];simp only[jF.code,jF.rs,jc,reduceIte,zk,zn,zo,zq]
  rw[hTe]at hr;exact jF.runs hr (.inr rfl) rfl rfl
 |some ts=>
  rw[hx]at g;obtain⟨rfl,g2,g3⟩:=g;conv at hr=>
   rhs;simp only[jc,reduceIte,zk,zn,zo,zq]
  rw[hTe]at hr;have hrun:=jF.runs (S:=S) hr (.inr rfl) (by rw[g2];exact qQ) (by rw[g3];rfl)
  rw[g2,g3]at hrun;dsimp only;rw[ite_self];exact hrun
theorem dK {l:List jG}(h:Za l=true):(Z9 l).length≤100:=by
 obtain⟨h1,h2⟩:=Yr.mp h;have h3:=sF h1.2;have h4:=Qz (l:=[(l.length:Int)]) (by simp;omega)
 rw[KW,List.length_append];simp at h4;omega
theorem Fj (l:List UInt8):∃t e,XH l=.tuple #[tv t,.int .i64 e]∧((e=0∧Yq l=some t)∨(e=61∧Yq l=none∧t=⟨0,0⟩)):=by
 unfold XH;cases h:Yq l with
 |none=>exact⟨⟨0,0⟩,61,rfl,.inr ⟨rfl,rfl,rfl⟩⟩
 |some t=>exact⟨t,0,rfl,.inl ⟨rfl,rfl⟩⟩
theorem FB {j:Nat}(hj:j≤2) (l:List UInt8):∃k t e,je k t∧List.length t≤3∧XI j l=.tuple #[tl k t,.int .i64 e]∧((e=0∧vT l=some t)∨(e=61∧vT l=none∧t=[])):=by
 unfold XI;cases h:vT l with
 |none=>exact⟨0,[],61,je.none,by simp,rfl,.inr ⟨rfl,rfl,rfl⟩⟩
 |some t=>exact⟨_,t,0,lT hj t,(Yr.mp ((Yt l t).mp h).1).2,rfl,.inl ⟨rfl,rfl⟩⟩
structure jR where
 slot:Int
 miner:Int
 variant:Int
 parent:Int
 k:Nat
 txs:List jG
def yP (b:jR):List zu:=[.int .i64 b.slot,.int .i64 b.miner,.int .i64 b.variant,.int .i64 b.parent,tl b.k b.txs]
abbrev bv (b:jR):zu:=.agg [Value.int .i64 b.slot,.int .i64 b.miner,.int .i64 b.variant,.int .i64 b.parent,tl b.k b.txs].toArray
structure jR.Ok (b:jR):Prop where
 okl:je b.k b.txs
 ne:b.k≠2
 len:b.txs.length*16≤140737488351232
 par:b.parent<9223372036854775808
def headB (b:jR):Bool:=Wi b.slot 1 4095&&Wi b.miner 0 6&&Wi b.variant 0 255&&(decide (b.parent=0) ||(Zq b.parent&&decide (b.parent / 65536<b.slot)))
def jP (b:jR):Bool:=headB b&&Za b.txs
def nameOf (b:jR):Int:=if jP b=true then b.slot*65536+b.miner*256+b.variant else 0
theorem Y8 {b:jR}:headB b=true↔(1≤b.slot∧b.slot≤4095)∧(0≤b.miner∧b.miner≤6)∧(0≤b.variant∧b.variant≤255)∧(b.parent=0∨(Zq b.parent=true∧b.parent / 65536<b.slot)):=by
 simp[headB,XZ,and_assoc]
theorem qR {b:jR}{d:Nat}(h:b.k≤2):jw (d+6) (bv b)=true:=by
 have h1:jw (d+5) (tl b.k b.txs)=true:=WO (d:=d+1) h fun _ _=>rfl
 refine gu ?_;simp only[List.all_cons,List.all_nil,h1,Bool.and_true];rfl
abbrev bG (b:jR):zS:=zS.empty.push (.cells (yP b) (.own []) 0)
theorem qM (b:jR):qm (bv b) zS.empty=some (.pointer (some ⟨0,0,none⟩),bG b):=rfl
theorem xC (b:jR):(bG b).get 0=some (.cells (yP b) (.own []) 0):=rfl
theorem YE {S:zS}{q:Nat}{b:jR}(h:S.get q=some (.cells (yP b) (.own []) 0)):zZ zi false 3 (.pointer (some ⟨q,0+0,none⟩)) S=some (.int .i64 b.slot,S):=Zp (t:=3) (o:=0+0) h Zo rfl
theorem YF {S:zS}{q:Nat}{b:jR}(h:S.get q=some (.cells (yP b) (.own []) 0)):zZ zi false 3 (.pointer (some ⟨q,0+1,none⟩)) S=some (.int .i64 b.miner,S):=Zp (t:=3) (o:=0+1) h Zo rfl
theorem YG {S:zS}{q:Nat}{b:jR}(h:S.get q=some (.cells (yP b) (.own []) 0)):zZ zi false 3 (.pointer (some ⟨q,0+2,none⟩)) S=some (.int .i64 b.variant,S):=Zp (t:=3) (o:=0+2) h Zo rfl
theorem QI {S:zS}{q:Nat}{b:jR}(h:S.get q=some (.cells (yP b) (.own []) 0)):zZ zi false 3 (.pointer (some ⟨q,0+3,none⟩)) S=some (.int .i64 b.parent,S):=Zp (t:=3) (o:=0+3) h Zo rfl
theorem QJ {S:zS}{q:Nat}{b:jR}(h:S.get q=some (.cells (yP b) (.own []) 0)) (hk:b.k≠2):zZ zi false 44 (.pointer (some ⟨q,0+4,none⟩)) S=some (tl b.k b.txs,S):=by
 rw[QK (o:=0+4) (v:=tl b.k b.txs) h NU rfl (fun l h=>by unfold tl vs sv at h;split at h<;>cases h),WQ,zM hk]
theorem vM {S:zS}{q:Nat}{b:jR}(h:S.get q=some (.cells (yP b) (.own []) 0)) (hk:b.k≠2):zZ zi false 46 (.pointer (some ⟨q,0,none⟩)) S=some (bv b,S):=by
 rw[OW h,Yc,Yc,Yc,Yc,aK,zM hk]
theorem yC.v {b:jR}(hb:b.Ok) (S:zS):zU zi O yC.id [bv b] S=some (.bool (jP b),S):=by
 obtain⟨T,hTe⟩:∃T,T=(bv b::[zh,zh,zh,zh,zh,zh,zh,zh,zh,zh,zh,zh,zh,zh,zh,zh,zh,zh,zh,zh,zh,zh,zh,zh,zh,zh,zh,zh,zh,zh,zh,zh,zh,zh,zh,zh,zh,zh,zh,zh,zh,zh,zh,zh,zh]):=⟨_,rfl⟩;have hr:=Eq.refl (zX zi O false yC.code T zS.empty);have l0:=YE (xC b);have l1:=YF (xC b);have l2:=YG (xC b);have l3:=QI (xC b);have l4:=QJ (xC b) hb.ne;have c1:=fun S=>wE.v hb.okl hb.ne (by have:=hb.len;omega) S
 unfold Qo at c1;cases h1:Wi b.slot 1 4095
 ·have e:jP b=false:=by simp[jP,headB,h1]
  rw[e];conv at hr=>
   rhs;rw[hTe];simp only[yC.code,yC.rs,jc,reduceIte,zk,zn,zo,zq,qM,kV,qY,kW,xA,xB,l0,l1,l2,l3,l4,zM hb.ne,kU.v,h1]
  rw[hTe]at hr;exact yC.runs hr (.inr rfl) (all1 (qR hb.okl.le)) rfl
 ·cases h2:Wi b.miner 0 6
  ·have e:jP b=false:=by simp[jP,headB,h1,h2]
   rw[e];conv at hr=>
    rhs;rw[hTe];simp only[yC.code,yC.rs,jc,reduceIte,zk,zn,zo,zq,qM,kV,qY,kW,xA,xB,l0,l1,l2,l3,l4,zM hb.ne,kU.v,h1,h2]
   rw[hTe]at hr;exact yC.runs hr (.inr rfl) (all1 (qR hb.okl.le)) rfl
  ·cases h3:Wi b.variant 0 255
   ·have e:jP b=false:=by simp[jP,headB,h1,h2,h3]
    rw[e];conv at hr=>
     rhs;rw[hTe];simp only[yC.code,yC.rs,jc,reduceIte,zk,zn,zo,zq,qM,kV,qY,kW,xA,xB,l0,l1,l2,l3,l4,zM hb.ne,kU.v,h1,h2,h3]
    rw[hTe]at hr;exact yC.runs hr (.inr rfl) (all1 (qR hb.okl.le)) rfl
   ·by_cases h4:b.parent=0
    ·by_cases h7:Za b.txs=true
     ·rw[zN h7]at c1;have e:jP b=true:=by simp[jP,headB,h1,h2,h3,h4,h7]
      rw[e];conv at hr=>
       rhs;rw[hTe];simp only[yC.code,yC.rs,jc,reduceIte,zk,zn,zo,zq,qM,kV,qY,kW,xA,xB,l0,l1,l2,l3,l4,zM hb.ne,kU.v,h1,h2,h3,zL h4,c1]
      rw[hTe]at hr;exact yC.runs hr (.inr rfl) (all1 (qR hb.okl.le)) rfl
     ·rw[zM h7]at c1;have e:jP b=false:=by simp[jP,h7]
      rw[e];conv at hr=>
       rhs;rw[hTe];simp only[yC.code,yC.rs,jc,reduceIte,zk,zn,zo,zq,qM,kV,qY,kW,xA,xB,l0,l1,l2,l3,l4,zM hb.ne,kU.v,h1,h2,h3,zL h4,c1]
      rw[hTe]at hr;exact yC.runs hr (.inr rfl) (all1 (qR hb.okl.le)) rfl
    ·cases h5:Zq b.parent
     ·have e:jP b=false:=by simp[jP,headB,h1,h2,h3,h4,h5]
      rw[e];conv at hr=>
       rhs;rw[hTe];simp only[yC.code,yC.rs,jc,reduceIte,zk,zn,zo,zq,qM,kV,qY,kW,xA,xB,l0,l1,l2,l3,l4,zM hb.ne,kU.v,h1,h2,h3,zK h4,xY.v,h5]
      rw[hTe]at hr;exact yC.runs hr (.inr rfl) (all1 (qR hb.okl.le)) rfl
     ·have hn:=YK.mp h5;have q1:IntKind.i64.wrap (b.parent.tdiv 65536)=b.parent / 65536:=by rw[VT (by omega),wrap_i64 (by omega) (by omega)]
      by_cases h6:b.parent / 65536<b.slot
      ·have h6':¬b.slot≤b.parent / 65536:=by omega
       by_cases h7:Za b.txs=true
       ·rw[zN h7]at c1;have e:jP b=true:=by simp[jP,headB,h1,h2,h3,h4,h5,h6,h7]
        rw[e];conv at hr=>
         rhs;rw[hTe];simp only[yC.code,yC.rs,jc,reduceIte,zk,zn,zo,zq,qM,kV,qY,kW,xA,xB,l0,l1,l2,l3,l4,zM hb.ne,kU.v,h1,h2,h3,zK h4,xY.v,h5,Wh _ _ _ Qx,q1,zK h6',c1]
        rw[hTe]at hr;exact yC.runs hr (.inr rfl) (all1 (qR hb.okl.le)) rfl
       ·rw[zM h7]at c1;have e:jP b=false:=by simp[jP,h7]
        rw[e];conv at hr=>
         rhs;rw[hTe];simp only[yC.code,yC.rs,jc,reduceIte,zk,zn,zo,zq,qM,kV,qY,kW,xA,xB,l0,l1,l2,l3,l4,zM hb.ne,kU.v,h1,h2,h3,zK h4,xY.v,h5,Wh _ _ _ Qx,q1,zK h6',c1]
        rw[hTe]at hr;exact yC.runs hr (.inr rfl) (all1 (qR hb.okl.le)) rfl
      ·have h6':b.slot≤b.parent / 65536:=by omega
       have e:jP b=false:=by simp[jP,headB,h1,h2,h3,h4,h5,h6]
       rw[e];conv at hr=>
        rhs;rw[hTe];simp only[yC.code,yC.rs,jc,reduceIte,zk,zn,zo,zq,qM,kV,qY,kW,xA,xB,l0,l1,l2,l3,l4,zM hb.ne,kU.v,h1,h2,h3,zK h4,xY.v,h5,Wh _ _ _ Qx,q1,zL h6']
       rw[hTe]at hr;exact yC.runs hr (.inr rfl) (all1 (qR hb.okl.le)) rfl
theorem wB.v {b:jR}(hb:b.Ok) (S:zS):zU zi O wB.id [bv b] S=some (.bool (jP b),S):=by
 obtain⟨T,hTe⟩:∃T,T=(bv b::zh::zh::[zh,zh,zh,zh,zh,zh,zh,zh,zh,zh,zh,zh,zh,zh,zh,zh,zh,zh,zh,zh,zh,zh,zh,zh,zh,zh,zh,zh,zh,zh,zh,zh,zh,zh,zh,zh,zh,zh,zh,zh,zh,zh,zh,zh,zh,zh,zh,zh,zh,zh,zh,zh,zh,zh,zh,zh,zh,zh,zh,zh]):=⟨_,rfl⟩;have hr:=Eq.refl (zX zi O false wB.code T zS.empty);have l0:=YE (xC b);have l1:=YF (xC b);have l2:=YG (xC b);have l3:=QI (xC b);have l4:=QJ (xC b) hb.ne;have c1:=fun S=>jD.v hb.okl hb.ne (by have:=hb.len;omega) S
 unfold Qo at c1;by_cases h1:b.slot<1
 ·have e:jP b=false:=by
   cases h:jP b with
    |false=>rfl
    |true=>simp only[jP,zG,Y8]at h;omega
  rw[e];conv at hr=>
   rhs;rw[hTe];simp only[wB.code,wB.rs,jc,reduceIte,zk,zn,zo,zq,qM,kV,qY,kW,xA,xB,l0,l1,l2,l3,l4,zM hb.ne,zL h1]
  rw[hTe]at hr;exact wB.runs hr (.inr rfl) (all1 (qR hb.okl.le)) rfl
 ·by_cases h2:4095<b.slot
  ·have e:jP b=false:=by
    cases h:jP b with
     |false=>rfl
     |true=>simp only[jP,zG,Y8]at h;omega
   rw[e];conv at hr=>
    rhs;rw[hTe];simp only[wB.code,wB.rs,jc,reduceIte,zk,zn,zo,zq,qM,kV,qY,kW,xA,xB,l0,l1,l2,l3,l4,zM hb.ne,zK h1,zL h2]
   rw[hTe]at hr;exact wB.runs hr (.inr rfl) (all1 (qR hb.okl.le)) rfl
  ·by_cases h3:b.miner<0
   ·have e:jP b=false:=by
     cases h:jP b with
      |false=>rfl
      |true=>simp only[jP,zG,Y8]at h;omega
    rw[e];conv at hr=>
     rhs;rw[hTe];simp only[wB.code,wB.rs,jc,reduceIte,zk,zn,zo,zq,qM,kV,qY,kW,xA,xB,l0,l1,l2,l3,l4,zM hb.ne,zK h1,zK h2,zL h3]
    rw[hTe]at hr;exact wB.runs hr (.inr rfl) (all1 (qR hb.okl.le)) rfl
   ·by_cases h4:6<b.miner
    ·have e:jP b=false:=by
      cases h:jP b with
       |false=>rfl
       |true=>simp only[jP,zG,Y8]at h;omega
     rw[e];conv at hr=>
      rhs;rw[hTe];simp only[wB.code,wB.rs,jc,reduceIte,zk,zn,zo,zq,qM,kV,qY,kW,xA,xB,l0,l1,l2,l3,l4,zM hb.ne,zK h1,zK h2,zK h3,zL h4]
     rw[hTe]at hr;exact wB.runs hr (.inr rfl) (all1 (qR hb.okl.le)) rfl
    ·by_cases h5:b.variant<0
     ·have e:jP b=false:=by
       cases h:jP b with
        |false=>rfl
        |true=>simp only[jP,zG,Y8]at h;omega
      rw[e];conv at hr=>
       rhs;rw[hTe];simp only[wB.code,wB.rs,jc,reduceIte,zk,zn,zo,zq,qM,kV,qY,kW,xA,xB,l0,l1,l2,l3,l4,zM hb.ne,zK h1,zK h2,zK h3,zK h4,zL h5]
      rw[hTe]at hr;exact wB.runs hr (.inr rfl) (all1 (qR hb.okl.le)) rfl
     ·by_cases h6:255<b.variant
      ·have e:jP b=false:=by
        cases h:jP b with
         |false=>rfl
         |true=>simp only[jP,zG,Y8]at h;omega
       rw[e];conv at hr=>
        rhs;rw[hTe];simp only[wB.code,wB.rs,jc,reduceIte,zk,zn,zo,zq,qM,kV,qY,kW,xA,xB,l0,l1,l2,l3,l4,zM hb.ne,zK h1,zK h2,zK h3,zK h4,zK h5,zL h6]
       rw[hTe]at hr;exact wB.runs hr (.inr rfl) (all1 (qR hb.okl.le)) rfl
      ·by_cases h7:Za b.txs=true
       ·rw[zN h7]at c1;have hh:headB b=(decide (b.parent=0) ||(Zq b.parent&&decide (b.parent / 65536<b.slot))):=by
         have a1:=XZ.mpr (show 1≤b.slot∧b.slot≤4095 by omega)
         have a2:=XZ.mpr (show 0≤b.miner∧b.miner≤6 by omega)
         have a3:=XZ.mpr (show 0≤b.variant∧b.variant≤255 by omega)
         simp[headB,a1,a2,a3]
        by_cases h8:b.parent=0
        ·have e:jP b=true:=by simp[jP,hh,h8,h7]
         rw[e];conv at hr=>
          rhs;rw[hTe];simp only[wB.code,wB.rs,jc,reduceIte,zk,zn,zo,zq,qM,kV,qY,kW,xA,xB,l0,l1,l2,l3,l4,zM hb.ne,zK h1,zK h2,zK h3,zK h4,zK h5,zK h6,c1,zL h8]
         rw[hTe]at hr;exact wB.runs hr (.inr rfl) (all1 (qR hb.okl.le)) rfl
        ·have c2:=fun S=>qP.v b.parent hb.par S
         unfold Vz at c2;by_cases h9:b.parent<0
         ·rw[zN h9]at c2;have hn:Zq b.parent=false:=by
           cases h:Zq b.parent with
           |false=>rfl
           |true=>have:=YK.mp h;omega
          have e:jP b=false:=by simp[jP,hh,h8,hn]
          rw[e];conv at hr=>
           rhs;rw[hTe];simp only[wB.code,wB.rs,jc,reduceIte,zk,zn,zo,zq,qM,kV,qY,kW,xA,xB,l0,l1,l2,l3,l4,zM hb.ne,zK h1,zK h2,zK h3,zK h4,zK h5,zK h6,c1,zK h8,c2]
          rw[hTe]at hr;exact wB.runs hr (.inr rfl) (all1 (qR hb.okl.le)) rfl
         ·rw[zM h9]at c2;cases hn:Zq b.parent
          ·rw[hn]at c2;have e:jP b=false:=by simp[jP,hh,h8,hn]
           rw[e];conv at hr=>
            rhs;rw[hTe];simp only[wB.code,wB.rs,jc,reduceIte,zk,zn,zo,zq,qM,kV,qY,kW,xA,xB,l0,l1,l2,l3,l4,zM hb.ne,zK h1,zK h2,zK h3,zK h4,zK h5,zK h6,c1,zK h8,c2]
           rw[hTe]at hr;exact wB.runs hr (.inr rfl) (all1 (qR hb.okl.le)) rfl
          ·rw[hn]at c2;have e:jP b=decide (b.parent / 65536<b.slot):=by simp[jP,hh,h8,hn,h7]
           rw[e];conv at hr=>
            rhs;rw[hTe];simp only[wB.code,wB.rs,jc,reduceIte,zk,zn,zo,zq,qM,kV,qY,kW,xA,xB,l0,l1,l2,l3,l4,zM hb.ne,zK h1,zK h2,zK h3,zK h4,zK h5,zK h6,c1,zK h8,c2]
           rw[hTe]at hr;exact wB.runs hr (.inr rfl) (all1 (qR hb.okl.le)) rfl
       ·rw[zM h7]at c1;have e:jP b=false:=by simp[jP,h7]
        rw[e];conv at hr=>
         rhs;rw[hTe];simp only[wB.code,wB.rs,jc,reduceIte,zk,zn,zo,zq,qM,kV,qY,kW,xA,xB,l0,l1,l2,l3,l4,zM hb.ne,zK h1,zK h2,zK h3,zK h4,zK h5,zK h6,c1]
        rw[hTe]at hr;exact wB.runs hr (.inr rfl) (all1 (qR hb.okl.le)) rfl
theorem xJ.v {b:jR}(hb:b.Ok) (S:zS):zU zi O xJ.id [bv b] S=some (.int .i64 (nameOf b),S):=by
 obtain⟨T,hTe⟩:∃T,T=(bv b::[zh,zh,zh,zh,zh,zh,zh,zh,zh,zh,zh,zh,zh,zh,zh]):=⟨_,rfl⟩;have hr:=Eq.refl (zX zi O false xJ.code T zS.empty);have l0:=YE (xC b);have l1:=YF (xC b);have l2:=YG (xC b);have lb:=vM (xC b) hb.ne;have c1:=fun S=>yC.v hb S
 unfold nameOf;cases hR:jP b
 ·rw[hR]at c1;conv at hr=>
   rhs;rw[hTe];simp only[xJ.code,xJ.rs,jc,reduceIte,zk,zn,zo,zq,qM,lb,c1]
  rw[hTe]at hr;exact xJ.runs hr (.inr rfl) (all1 (qR hb.okl.le)) rfl
 ·rw[hR]at c1;have hh:=hR;simp only[jP,zG,Y8]at hh;obtain⟨⟨h1,h2,h3,_⟩,_⟩:=hh;have w1:IntKind.i64.wrap (b.slot*65536)=b.slot*65536:=wrap_i64 (by omega) (by omega)
  have w2:IntKind.i64.wrap (b.miner*256)=b.miner*256:=wrap_i64 (by omega) (by omega)
  have w3:IntKind.i64.wrap (b.slot*65536+b.miner*256)=b.slot*65536+b.miner*256:=wrap_i64 (by omega) (by omega)
  have w4:IntKind.i64.wrap (b.slot*65536+b.miner*256+b.variant)=b.slot*65536+b.miner*256+b.variant:=wrap_i64 (by omega) (by omega)
  conv at hr=>
   rhs;rw[hTe];simp only[xJ.code,xJ.rs,jc,reduceIte,zk,zn,zo,zq,qM,lb,c1,kV,qY,kW,l0,l1,l2,w1,w2,w3,w4]
  rw[hTe]at hr;exact xJ.runs hr (.inr rfl) (all1 (qR hb.okl.le)) rfl
theorem xG.v {b:jR}(hb:b.Ok) (S:zS):zU zi O xG.id [bv b] S=some (.int .i64 (nameOf b),S):=by
 obtain⟨T,hTe⟩:∃T,T=(bv b::[zh,zh,zh,zh,zh,zh,zh,zh,zh,zh,zh,zh,zh,zh,zh]):=⟨_,rfl⟩;have hr:=Eq.refl (zX zi O false xG.code T zS.empty);have l0:=YE (xC b);have l1:=YF (xC b);have l2:=YG (xC b);have lb:=vM (xC b) hb.ne;have c1:=fun S=>wB.v hb S
 unfold nameOf;cases hR:jP b
 ·rw[hR]at c1;conv at hr=>
   rhs;rw[hTe];simp only[xG.code,xG.rs,jc,reduceIte,zk,zn,zo,zq,qM,lb,c1]
  rw[hTe]at hr;exact xG.runs hr (.inr rfl) (all1 (qR hb.okl.le)) rfl
 ·rw[hR]at c1;have hh:=hR;simp only[jP,zG,Y8]at hh;obtain⟨⟨h1,h2,h3,_⟩,_⟩:=hh;have w1:IntKind.i64.wrap (b.slot*256)=b.slot*256:=wrap_i64 (by omega) (by omega)
  have w2:IntKind.i64.wrap (b.slot*256+b.miner)=b.slot*256+b.miner:=wrap_i64 (by omega) (by omega)
  have w3:IntKind.i64.wrap ((b.slot*256+b.miner)*256)=b.slot*65536+b.miner*256:=by rw[wrap_i64 (by omega) (by omega)];omega
  have w4:IntKind.i64.wrap (b.slot*65536+b.miner*256+b.variant)=b.slot*65536+b.miner*256+b.variant:=wrap_i64 (by omega) (by omega)
  conv at hr=>
   rhs;rw[hTe];simp only[xG.code,xG.rs,jc,reduceIte,zk,zn,zo,zq,qM,lb,c1,kV,qY,kW,l0,l1,l2,w1,w2,w3,w4]
  rw[hTe]at hr;exact xG.runs hr (.inr rfl) (all1 (qR hb.okl.le)) rfl
def vG (a b:jR):Bool:=decide (a.slot=b.slot)&&(decide (a.miner=b.miner)&&(decide (a.variant=b.variant)&&(decide (a.parent=b.parent)&&decide (a.txs=b.txs))))
abbrev lG (a b:jR):zS:=(bG a).push (.cells (yP b) (.own []) 0)
theorem Yz (a b:jR):qm (bv b) (bG a)=some (.pointer (some ⟨1,0,none⟩),lG a b):=by kernel_rfl
theorem YI (a b:jR):(lG a b).get 0=some (.cells (yP a) (.own []) 0):=by kernel_rfl
theorem YJ (a b:jR):(lG a b).get 1=some (.cells (yP b) (.own []) 0):=by kernel_rfl
theorem xg.v {a b:jR}(ha:a.Ok) (hb:b.Ok) (S:zS):zU zi O xg.id [bv a,bv b] S=some (.bool (vG a b),S):=by
 obtain⟨T,hTe⟩:∃T,T=(bv a::bv b::[zh,zh,zh,zh,zh,zh,zh,zh,zh,zh,zh,zh,zh,zh,zh,zh,zh,zh,zh,zh,zh,zh,zh,zh,zh,zh,zh,zh,zh,zh,zh,zh,zh,zh,zh,zh]):=⟨_,rfl⟩;have hr:=Eq.refl (zX zi O false xg.code T zS.empty);have l0:=YE (YI a b);have m0:=YE (YJ a b);have l1:=YF (YI a b);have m1:=YF (YJ a b);have l2:=YG (YI a b);have m2:=YG (YJ a b);have l3:=QI (YI a b);have m3:=QI (YJ a b);have l4:=QJ (YI a b) ha.ne;have m4:=QJ (YJ a b) hb.ne;have c1:=fun S=>slices_Equal.v ha.okl hb.okl ha.ne hb.ne (by have:=ha.len;omega) S
 have cc:[bv a,bv b].all (jw 16)=true:=all2 (qR ha.okl.le) (qR hb.okl.le);unfold vG;by_cases h1:a.slot=b.slot
 ·have e1:=zL h1;by_cases h2:a.miner=b.miner
  ·have e2:=zL h2;by_cases h3:a.variant=b.variant
   ·have e3:=zL h3;by_cases h4:a.parent=b.parent
    ·have e4:=zL h4;conv at hr=>
      rhs;rw[hTe];simp only[xg.code,xg.rs,jc,reduceIte,zk,zn,zo,zq,qM,Yz,kV,qY,kW,xA,xB,l0,l1,l2,l3,l4,m0,m1,m2,m3,m4,zM ha.ne,zM hb.ne,e1,e2,e3,e4,c1]
     rw[hTe]at hr;rw[e1,Bool.true_and,e2,Bool.true_and,e3,Bool.true_and,e4,Bool.true_and];exact xg.runs hr (.inr rfl) cc rfl
    ·have e4:=zK h4;conv at hr=>
      rhs;rw[hTe];simp only[xg.code,xg.rs,jc,reduceIte,zk,zn,zo,zq,qM,Yz,kV,qY,kW,xA,xB,l0,l1,l2,l3,l4,m0,m1,m2,m3,m4,zM ha.ne,zM hb.ne,e1,e2,e3,e4]
     rw[hTe]at hr;rw[e1,Bool.true_and,e2,Bool.true_and,e3,Bool.true_and,e4,Bool.false_and];exact xg.runs hr (.inr rfl) cc rfl
   ·have e3:=zK h3;conv at hr=>
     rhs;rw[hTe];simp only[xg.code,xg.rs,jc,reduceIte,zk,zn,zo,zq,qM,Yz,kV,qY,kW,xA,xB,l0,l1,l2,l3,l4,m0,m1,m2,m3,m4,zM ha.ne,zM hb.ne,e1,e2,e3]
    rw[hTe]at hr;rw[e1,Bool.true_and,e2,Bool.true_and,e3,Bool.false_and];exact xg.runs hr (.inr rfl) cc rfl
  ·have e2:=zK h2;conv at hr=>
    rhs;rw[hTe];simp only[xg.code,xg.rs,jc,reduceIte,zk,zn,zo,zq,qM,Yz,kV,qY,kW,xA,xB,l0,l1,l2,l3,l4,m0,m1,m2,m3,m4,zM ha.ne,zM hb.ne,e1,e2]
   rw[hTe]at hr;rw[e1,Bool.true_and,e2,Bool.false_and];exact xg.runs hr (.inr rfl) cc rfl
 ·have e1:=zK h1;conv at hr=>
   rhs;rw[hTe];simp only[xg.code,xg.rs,jc,reduceIte,zk,zn,zo,zq,qM,Yz,kV,qY,kW,xA,xB,l0,l1,l2,l3,l4,m0,m1,m2,m3,m4,zM ha.ne,zM hb.ne,e1]
  rw[hTe]at hr;rw[e1,Bool.false_and];exact xg.runs hr (.inr rfl) cc rfl
theorem kZ.v {a b:jR}(ha:a.Ok) (hb:b.Ok) (S:zS):zU zi O kZ.id [bv a,bv b] S=some (.bool (vG a b),S):=by
 obtain⟨T,hTe⟩:∃T,T=(bv a::bv b::[zh,zh,zh,zh,zh,zh,zh,zh,zh,zh,zh,zh,zh,zh,zh,zh,zh,zh,zh,zh,zh,zh,zh,zh,zh,zh,zh,zh,zh,zh,zh,zh,zh,zh,zh,zh]):=⟨_,rfl⟩;have hr:=Eq.refl (zX zi O false kZ.code T zS.empty);have l0:=YE (YI a b);have m0:=YE (YJ a b);have l1:=YF (YI a b);have m1:=YF (YJ a b);have l2:=YG (YI a b);have m2:=YG (YJ a b);have l3:=QI (YI a b);have m3:=QI (YJ a b);have l4:=QJ (YI a b) ha.ne;have m4:=QJ (YJ a b) hb.ne;have c1:=fun S=>wI.v ha.okl hb.okl ha.ne hb.ne (by have:=ha.len;omega) S
 have cc:[bv a,bv b].all (jw 16)=true:=all2 (qR ha.okl.le) (qR hb.okl.le);unfold vG;by_cases h1:a.slot=b.slot
 ·have e1:=zL h1;by_cases h2:a.miner=b.miner
  ·have e2:=zL h2;by_cases h3:a.variant=b.variant
   ·have e3:=zL h3;by_cases h4:a.parent=b.parent
    ·have e4:=zL h4;conv at hr=>
      rhs;rw[hTe];simp only[kZ.code,kZ.rs,jc,reduceIte,zk,zn,zo,zq,qM,Yz,kV,qY,kW,xA,xB,l0,l1,l2,l3,l4,m0,m1,m2,m3,m4,zM ha.ne,zM hb.ne,e1,e2,e3,e4,c1]
     rw[hTe]at hr;rw[e1,Bool.true_and,e2,Bool.true_and,e3,Bool.true_and,e4,Bool.true_and];exact kZ.runs hr (.inr rfl) cc rfl
    ·have e4:=zK h4;conv at hr=>
      rhs;rw[hTe];simp only[kZ.code,kZ.rs,jc,reduceIte,zk,zn,zo,zq,qM,Yz,kV,qY,kW,xA,xB,l0,l1,l2,l3,l4,m0,m1,m2,m3,m4,zM ha.ne,zM hb.ne,e1,e2,e3,e4]
     rw[hTe]at hr;rw[e1,Bool.true_and,e2,Bool.true_and,e3,Bool.true_and,e4,Bool.false_and];exact kZ.runs hr (.inr rfl) cc rfl
   ·have e3:=zK h3;conv at hr=>
     rhs;rw[hTe];simp only[kZ.code,kZ.rs,jc,reduceIte,zk,zn,zo,zq,qM,Yz,kV,qY,kW,xA,xB,l0,l1,l2,l3,l4,m0,m1,m2,m3,m4,zM ha.ne,zM hb.ne,e1,e2,e3]
    rw[hTe]at hr;rw[e1,Bool.true_and,e2,Bool.true_and,e3,Bool.false_and];exact kZ.runs hr (.inr rfl) cc rfl
  ·have e2:=zK h2;conv at hr=>
    rhs;rw[hTe];simp only[kZ.code,kZ.rs,jc,reduceIte,zk,zn,zo,zq,qM,Yz,kV,qY,kW,xA,xB,l0,l1,l2,l3,l4,m0,m1,m2,m3,m4,zM ha.ne,zM hb.ne,e1,e2]
   rw[hTe]at hr;rw[e1,Bool.true_and,e2,Bool.false_and];exact kZ.runs hr (.inr rfl) cc rfl
 ·have e1:=zK h1;conv at hr=>
   rhs;rw[hTe];simp only[kZ.code,kZ.rs,jc,reduceIte,zk,zn,zo,zq,qM,Yz,kV,qY,kW,xA,xB,l0,l1,l2,l3,l4,m0,m1,m2,m3,m4,zM ha.ne,zM hb.ne,e1]
  rw[hTe]at hr;rw[e1,Bool.false_and];exact kZ.runs hr (.inr rfl) cc rfl
def ZA (b:jR):List UInt8:=encs [b.slot,b.miner,b.variant,b.parent]++Z9 b.txs
def Kz (b:jR):zu:=if jP b then .tuple #[jk 2 (ZA b),.int .i64 0]else .tuple #[.slice none 0 0,.int .i64 71]
theorem Xr {b:jR}(h:headB b=true):∀n ∈ [b.slot,b.miner,b.variant,b.parent],0≤n∧n≤268435455:=by
 obtain⟨h1,h2,h3,h4⟩:=Y8.mp h;have h5:0≤b.parent∧b.parent≤268435455:=by
  rcases h4 with h4 |⟨h4,_⟩
  ·omega
  ·have:=YK.mp h4;omega
 intro n hn;simp only[List.mem_cons,List.not_mem_nil,or_false]at hn;rcases hn with rfl |rfl |rfl |rfl<;>omega
theorem pJ (a b c d:Int) (S:zS):yO zi 24 4 [(0,.int .i64 a),(1,.int .i64 b),(2,.int .i64 c),(3,.int .i64 d)] S=some (iz 2 [a,b,c,d],S):=by kernel_rfl
theorem aW {b:jR}(h:headB b=true):(encs [b.slot,b.miner,b.variant,b.parent]).length≤40:=by
 have h1:=Xr h;have:=Qz (l:=[b.slot,b.miner,b.variant,b.parent]) (fun n hn=>by have:=h1 n hn;omega)
 exact this
theorem kK.v {b:jR}(hb:b.Ok) (S:zS):zU zi O kK.id [bv b] S=some (Kz b,S):=by
 obtain⟨T,hTe⟩:∃T,T=(bv b::[zh,zh,zh,zh,zh,zh,zh,zh,zh,zh,zh,zh,zh,zh,zh,zh,zh,zh,zh,zh,zh,zh,zh,zh,zh,zh,zh,zh,zh,zh,zh,zh]):=⟨_,rfl⟩;have hr:=Eq.refl (zX zi O false kK.code T zS.empty);have l0:=YE (xC b);have l1:=YF (xC b);have l2:=YG (xC b);have l3:=QI (xC b);have l4:=QJ (xC b) hb.ne;have lb:=vM (xC b) hb.ne;have c1:=fun S=>yC.v hb S
 unfold Kz;cases hR:jP b
 ·rw[hR]at c1;conv at hr=>
   rhs;rw[hTe];simp only[kK.code,kK.rs,jc,reduceIte,zk,zn,zo,zq,qM,lb,c1]
  rw[hTe]at hr;exact kK.runs hr (.inr rfl) rfl rfl (all1 (qR hb.okl.le)) rfl
 ·rw[hR]at c1;have hh:headB b=true∧Za b.txs=true:=by simpa [jP]using hR
  have few:=Xr hh.1;have c2:=fun S=>wJ.v (l:=[b.slot,b.miner,b.variant,b.parent]) je.read (by decide) (fun n hn=>by have:=few n hn;omega) S
  have n2:=KO (k:=0) (l:=[b.slot,b.miner,b.variant,b.parent]) (by simp) (fun n hn=>by have:=few n hn;omega) (by simp)
  have c3:=fun S=>wE.v hb.okl hb.ne (by have:=hb.len;omega) S
  have t3:Qo b.txs=.tuple #[jk 2 (Z9 b.txs),.int .i64 0]:=zN hh.2;have ap:∀S,yF zi 33 33 (jk 2 (encs [b.slot,b.miner,b.variant,b.parent])) (jk 1 (Z9 b.txs)) S=some (jk 2 (ZA b),S):=fun S=>by
   rw[Wj je.own (by decide) je.read (by have:=aW hh.1;have:=dK hh.2;omega)];rfl
  conv at hr=>
   rhs;rw[hTe];simp only[kK.code,kK.rs,jc,reduceIte,zk,zn,zo,zq,qM,lb,c1,kV,qY,kW,xA,xB,l0,l1,l2,l3,l4,zM hb.ne,pJ,c2,n2,c3,t3,ap]
  rw[hTe]at hr;exact kK.runs hr (.inr rfl) (by simp only[List.getD_cons_succ,List.getD_cons_zero,qQ,kH,kJ,kG,kF]) rfl (all1 (qR hb.okl.le)) (Zx (all2 (vU (k:=2) (Nat.le_refl 2)) rfl))
theorem kP.v {b:jR}(hb:b.Ok) (S:zS):zU zi O kP.id [bv b] S=some (Kz b,S):=by
 obtain⟨T,hTe⟩:∃T,T=(bv b::[zh,zh,zh,zh,zh,zh,zh,zh,zh,zh,zh,zh,zh,zh,zh,zh,zh,zh,zh,zh,zh,zh,zh,zh,zh,zh,zh,zh,zh,zh,zh,zh]):=⟨_,rfl⟩;have hr:=Eq.refl (zX zi O false kP.code T zS.empty);have l0:=YE (xC b);have l1:=YF (xC b);have l2:=YG (xC b);have l3:=QI (xC b);have l4:=QJ (xC b) hb.ne;have lb:=vM (xC b) hb.ne;have c1:=fun S=>wB.v hb S
 unfold Kz;cases hR:jP b
 ·rw[hR]at c1;conv at hr=>
   rhs;rw[hTe];simp only[kP.code,kP.rs,jc,reduceIte,zk,zn,zo,zq,qM,lb,c1]
  rw[hTe]at hr;exact kP.runs hr (.inr rfl) rfl rfl (all1 (qR hb.okl.le)) rfl
 ·rw[hR]at c1;have hh:headB b=true∧Za b.txs=true:=by simpa [jP]using hR
  have few:=Xr hh.1;have c2:=fun S=>wF.v (l:=[b.slot,b.miner,b.variant,b.parent]) je.read (by decide) (fun n hn=>by have:=few n hn;omega) S
  have n2:=KO (k:=2) (l:=[b.slot,b.miner,b.variant,b.parent]) (by simp) (fun n hn=>by have:=few n hn;omega) (by simp)
  have c3:=fun S=>jD.v hb.okl hb.ne (by have:=hb.len;omega) S
  have t3:Qo b.txs=.tuple #[jk 2 (Z9 b.txs),.int .i64 0]:=zN hh.2;have ap:∀S,yF zi 33 33 (jk 2 (encs [b.slot,b.miner,b.variant,b.parent])) (jk 1 (Z9 b.txs)) S=some (jk 2 (ZA b),S):=fun S=>by
   rw[Wj je.own (by decide) je.read (by have:=aW hh.1;have:=dK hh.2;omega)];rfl
  conv at hr=>
   rhs;rw[hTe];simp only[kP.code,kP.rs,jc,reduceIte,zk,zn,zo,zq,qM,lb,c1,kV,qY,kW,xA,xB,l0,l1,l2,l3,l4,zM hb.ne,pJ,c2,n2,c3,t3,ap]
  rw[hTe]at hr;exact kP.runs hr (.inr rfl) (by simp only[List.getD_cons_succ,List.getD_cons_zero,qQ,kH,kJ,kG,kF]) rfl (all1 (qR hb.okl.le)) (Zx (all2 (vU (k:=2) (Nat.le_refl 2)) rfl))
theorem Yj {α:Type}{f:α→List zu}{e k:Nat}{l:List α}{d:Nat}:kQ d (vs f e k l)=true:=by unfold vs sv;cases d<;>split<;>rfl
theorem XA {R:Type}{a b c d:Int}{k:Nat}{l:List jG}(r:Option R) (p:yw r):jK (.agg [Value.int .i64 a,.int .i64 b,.int .i64 c,.int .i64 d,tl k l].toArray) r p=r:=qy (by
 show([Value.int .i64 a,.int .i64 b,.int .i64 c,.int .i64 d,tl k l].toArray.toList.all (kQ 2))=true;simp only[zD,List.all_cons,List.all_nil,Yj,Bool.and_true];rfl) r p
theorem IJ (b:jR):∃k x e,je k x∧List.length x≤140∧Kz b=.tuple #[jk k x,.int .i64 e]∧((e=0∧jP b=true∧x=ZA b∧k=2)∨(e=71∧jP b=false∧x=[]∧k=0)):=by
 unfold Kz;by_cases h:jP b=true
 ·have hh:headB b=true∧Za b.txs=true:=by simpa [jP]using h
  exact⟨2,ZA b,0,je.own,by unfold ZA;rw[List.length_append];have:=aW hh.1;have:=dK hh.2;omega,by rw[zN h],.inl ⟨rfl,h,rfl,rfl⟩⟩
 ·exact⟨0,[],71,je.none,by simp,by rw[zM h];rfl,.inr ⟨rfl,by simpa using h,rfl,rfl⟩⟩
abbrev jm :jR:=⟨0,0,0,0,0,[]⟩
theorem Jc (S:zS):wR zi 46 S=some (.pointer (some ⟨S.next,0,none⟩),S.push (.cells (yP jm) (.own []) 0)):=by kernel_rfl
theorem bM (b:jR):(yP b).all (·.oneCell')=true:=by
 simp only[yP,List.all_cons,List.all_nil,lU,KQ,Bool.and_true]
theorem VK (S:zS) (b:jR):∃S2,jI zi 46 (.pointer (some ⟨S.next,0,none⟩)) (bv b) (S.push (.cells (yP jm) (.own []) 0))=some (zh,S2)∧S2.get S.next=some (.cells (yP b) (.own []) 0)∧Ext S S2∧S.next<S2.next :=
 bI S (by rw[Zf,zD];rfl) QW rfl (bM b)
theorem WU {S S0:zS}{q:Nat}{u:jR}(b:jR) (hg:S.get q=some (.cells (yP u) (.own []) 0)) (hE:Ext S0 S) (hq:S0.next≤q):∃S2,jI zi 46 (.pointer (some ⟨q,0,none⟩)) (bv b) S=some (zh,S2)∧S2.get q=some (.cells (yP b) (.own []) 0)∧Ext S0 S2∧S2.next=S.next∧∀k,k≠q→S2.get k=S.get k :=
 Vq hg QW rfl (bM b) (by simp[yP]) hE hq
theorem fH {x y:jR}{r s:List UInt8} (hx:jP x=true) (hy:jP y=true) (h:ZA x++r=ZA y++s):(x.slot=y.slot∧x.miner=y.miner∧x.variant=y.variant∧x.parent=y.parent∧x.txs=y.txs)∧r=s:=by
 have h1:headB x=true∧Za x.txs=true:=by simpa [jP]using hx
 have h2:headB y=true∧Za y.txs=true:=by simpa [jP]using hy
 have f1:=Xr h1.1;have f2:=Xr h2.1;unfold ZA at h;rw[List.append_assoc,List.append_assoc]at h;obtain⟨e1,e2⟩:=Xp (a:=[x.slot,x.miner,x.variant,x.parent]) (c:=[y.slot,y.miner,y.variant,y.parent]) rfl (fun n hn=>by have:=f1 n hn;unfold Zk;omega) (fun n hn=>by have:=f2 n hn;unfold Zk;omega) h
 obtain⟨e3,e4⟩:=Fz h1.2 h2.2 e2;simp only[List.cons.injEq,and_true]at e1;exact⟨⟨e1.1,e1.2.1,e1.2.2.1,e1.2.2.2,e3⟩,e4⟩
noncomputable def Yy (l:List UInt8):Option jR:=rd (fun b=>jP b=true∧b.k=0) ZA l
theorem II {x y:jR}(h:x.slot=y.slot∧x.miner=y.miner∧x.variant=y.variant∧x.parent=y.parent∧x.txs=y.txs) (hk:x.k=y.k):x=y:=by
 cases x;cases y;simp at h hk;obtain⟨rfl,rfl,rfl,rfl,rfl⟩:=h;rw[hk]
theorem Xi (l:List UInt8) (b:jR):Yy l=some b↔(jP b=true∧b.k=0)∧l=ZA b :=
 mD (fun x y hx hy h=>II (fH (r:=[]) (s:=[]) hx.1 hy.1 (by rw[List.append_nil,List.append_nil];exact h)).1 (hx.2.trans hy.2.symm)) l b
theorem fE {l:List UInt8} (h:∀b:jR,b.k=0→jP b=true→l≠ZA b):Yy l=none:=by
 cases hr:Yy l with
 |none=>rfl
 |some b=>obtain⟨⟨h1,h2⟩,h3⟩:=(Xi l b).mp hr;exact absurd h3 (h b h2 h1)
theorem Ef (l:List UInt8):qh 4 l=none∨∃a b c d r,qh 4 l=some ([a,b,c,d],r)∧r.length≤l.length:=by
 cases h:qh 4 l with
 |none=>exact .inl rfl
 |some ar=>
  obtain⟨a,r⟩:=ar;obtain⟨h1,h2⟩:=bW h
  match a,h1 with
  | [x,y,z,w],_=>exact .inr ⟨x,y,z,w,r,rfl,h2⟩
theorem fF {l r:List UInt8} {b:jR}(hb:jP b=true) (h:l=ZA b++r):qh 4 l=some ([b.slot,b.miner,b.variant,b.parent],Z9 b.txs++r):=by
 have h1:headB b=true∧Za b.txs=true:=by simpa [jP]using hb
 have f1:=Xr h1.1;exact(ZF _ _ _ _).mpr ⟨rfl,by rw[h,ZA,List.append_assoc],fun n hn=>by have:=f1 n hn;unfold Zk;omega⟩
theorem oQ {l:List UInt8} (h:qh 4 l=none):Yy l=none:=fE fun b _ hb hl=>by
 have:=fF (l:=l) (r:=[]) hb (by rw[List.append_nil];exact hl)
 rw[h]at this;cases this
theorem oU {l r:List UInt8} {a b c d:Int}(h:qh 4 l=some ([a,b,c,d],r)) (h2:vT r=none):Yy l=none:=fE fun x _ hb hl=>by
 have:=fF (l:=l) (r:=[]) hb (by rw[List.append_nil];exact hl)
 rw[h]at this;simp only[Option.some.injEq,Prod.mk.injEq,List.append_nil]at this;have h1:headB x=true∧Za x.txs=true:=by simpa [jP]using hb
 rw[(Yt r x.txs).mpr ⟨h1.2,this.2⟩]at h2;cases h2
theorem aj {l r:List UInt8} {a b c d:Int}{ts:List jG}(h:qh 4 l=some ([a,b,c,d],r)) (h2:vT r=some ts):Yy l=if jP ⟨a,b,c,d,0,ts⟩=true then some ⟨a,b,c,d,0,ts⟩else none:=by
 obtain⟨_,g2,_⟩:=(ZF _ _ _ _).mp h;obtain⟨t1,t2⟩:=(Yt r ts).mp h2;split
 ·rename_i hR;exact(Xi _ _).mpr ⟨⟨hR,rfl⟩,by rw[g2,t2];rfl⟩
 ·rename_i hR;refine fE fun x _ hb hl=>hR ?_
  have:=fF (l:=l) (r:=[]) hb (by rw[List.append_nil];exact hl)
  rw[h]at this;simp only[Option.some.injEq,Prod.mk.injEq,List.append_nil,List.cons.injEq,and_true]at this;have h1:headB x=true∧Za x.txs=true:=by simpa [jP]using hb
  have h3:=(Yt r x.txs).mpr ⟨h1.2,this.2⟩;rw[h2]at h3;injection h3 with h3
  obtain⟨⟨i1,i2,i3,i4⟩,_⟩:=this;rw[i1,i2,i3,i4,h3];exact hb
theorem bZ (a b c d:Int) (k j:Nat) (t:List jG):jP ⟨a,b,c,d,k,t⟩=jP ⟨a,b,c,d,j,t⟩:=rfl
def nZ (l:List UInt8) (b:jR) (e:Int):Prop:=b.Ok∧b.txs.length≤3∧((e=0∧Yy l=some ⟨b.slot,b.miner,b.variant,b.parent,0,b.txs⟩∧jP b=true)∨(e=71∧Yy l=none∧b=jm))
theorem ok0 :jm.Ok:=⟨je.none,by decide,by simp,by decide⟩
theorem yI.v {k:Nat}{l:List UInt8} (hk:je k l) (k2:k≠2) (hl:l.length≤140737488355328):∃b e,nZ l b e∧∀S,zU zi O yI.id [jk k l] S=some (.tuple #[bv b,.int .i64 e],S):=by
 have a1:=Jc zS.empty;have g1:(zS.empty.push (.cells (yP jm) (.own []) 0)).get 0=some (.cells (yP jm) (.own []) 0):=by kernel_rfl
 have n1:(zS.empty.push (.cells (yP jm) (.own []) 0)).next=1:=by kernel_rfl
 rw[show zS.empty.next=0 from rfl]at a1
 have hE1:Ext zS.empty (zS.empty.push (.cells (yP jm) (.own []) 0)):=Ext.push _ _;have cl:[jk k l].all (jw 16)=true:=all1 (vU (k:=k) hk.le);obtain⟨T,hTe⟩:∃T,T=(jk k l::[zh,zh,zh,zh,zh,zh,zh,zh,zh,zh,zh,zh,zh,zh,zh,zh,zh,zh,zh,zh,zh,zh,zh,zh,zh,zh,zh,zh,zh,zh,zh,zh,zh,zh,zh,zh,zh,zh,zh,zh,zh,zh,zh,zh,zh]):=⟨_,rfl⟩;have hr:=Eq.refl (zX zi O false yI.code T zS.empty);have c1:=fun S=>jT.v (many:=4) hk k2 hl S
 have r1:∀k0 k1,JY k0 k1 4 l=_:=fun k0 k1=>QU (m:=4) (by decide) (by decide)
 rw[r1]at c1;have z0:∀S,wS zi 46 [] S=some (bv jm,S):=fun S=>fD S
 generalize zS.empty.push (.cells (yP jm) (.own []) 0)=S1 at a1 g1 n1 hE1;rcases Ef l with h |⟨a,b,c,d,r,h,hlr⟩
 ·rw[h]at c1;obtain⟨S3,q1,q2,q3,q4,q5⟩:=WU jm g1 hE1 (Nat.zero_le _);refine⟨jm,71,⟨ok0,by simp,.inr ⟨rfl,oQ h,rfl⟩⟩,fun S=>?_⟩
  conv at hr=>
   rhs;rw[hTe];simp only[yI.code,yI.rs,jc,reduceIte,zk,zn,zo,zq,zM k2,a1,c1,z0,q1]
  rw[hTe]at hr;exact yI.runs hr (.inr rfl) (vM q2 (by decide)) rfl rfl cl rfl
 ·rw[h]at c1;have i0:=fun S=>ZC (k:=1) (i:=0) (m:=0) (l:=[a,b,c,d]) je.read rfl rfl S
  have i1:=fun S=>ZC (k:=1) (i:=1) (m:=1) (l:=[a,b,c,d]) je.read rfl rfl S
  have i2:=fun S=>ZC (k:=1) (i:=2) (m:=2) (l:=[a,b,c,d]) je.read rfl rfl S
  have i3:=fun S=>ZC (k:=1) (i:=3) (m:=3) (l:=[a,b,c,d]) je.read rfl rfl S
  have few:=((ZF _ _ _ _).mp h).2.2;have fd:d≤4611686018427387904:=(few d (by simp)).2
  obtain⟨j,t,e,o1,o2,o3,o4⟩:=FB (j:=0) (by decide) r
  have c2:=fun S=>jL.v (k:=1) (l:=r) je.read (by decide) (by omega) S
  rw[o3]at c2;have hok:jR.Ok ⟨a,b,c,d,if j=2 then 1 else j,t⟩:=⟨o1.zQ,Qy j,by show t.length*16≤_;omega,by show d<_;omega⟩
  obtain⟨S2,p1,p2,p3,p4⟩:=VK S1 ⟨a,b,c,d,if j=2 then 1 else j,t⟩;have g2:S2.get 0=some (.cells (yP jm) (.own []) 0):=by rw[p3.get 0 (by omega),g1]
  have bd:=fun S=>oM (y0:=.int .i64 a) (y1:=.int .i64 b) (y2:=.int .i64 c) (y3:=.int .i64 d) (y4:=tl (if j=2 then 1 else j) t) vJ vJ vJ vJ WM S
  have c3:∀S,zU zi O 45 [.agg [Value.int .i64 a,.int .i64 b,.int .i64 c,.int .i64 d,tl (if j=2 then 1 else j) t].toArray] S=some (.bool (jP ⟨a,b,c,d,if j=2 then 1 else j,t⟩),S):=fun S=>yC.v hok S
  have lb:zZ zi false 46 (.pointer (some ⟨S1.next,0,none⟩)) S2=some (.agg [Value.int .i64 a,.int .i64 b,.int .i64 c,.int .i64 d,tl (if j=2 then 1 else j) t].toArray,S2):=vM p2 (Qy j);rcases o4 with ⟨rfl,hx⟩ |⟨rfl,hx,rfl⟩
  ·cases hR:jP ⟨a,b,c,d,if j=2 then 1 else j,t⟩
   ·rw[hR]at c3;obtain⟨S3,q1,q2,q3,q4,q5⟩:=WU jm g2 (Ext.trans hE1 p3) (Nat.zero_le _);refine⟨jm,71,⟨ok0,by simp,.inr ⟨rfl,?_,rfl⟩⟩,fun S=>?_⟩
    ·rw[aj h hx,zM (by rw[bZ a b c d 0 (if j=2 then 1 else j) t,hR];decide)]
    conv at hr=>
     rhs;rw[hTe];simp only[yI.code,yI.rs,jc,reduceIte,zk,zn,zo,zq,zM k2,a1,c1,c2,i0,i1,i2,i3,kS,JM,bd,XA,Jc,p1,lb,c3,z0,q1]
    rw[hTe]at hr;exact yI.runs hr (.inr rfl) (vM q2 (by decide)) rfl rfl cl rfl
   ·rw[hR]at c3;obtain⟨S3,q1,q2,q3,q4,q5⟩:=WU ⟨a,b,c,d,if j=2 then 1 else j,t⟩ g2 (Ext.trans hE1 p3) (Nat.zero_le _);refine⟨⟨a,b,c,d,if j=2 then 1 else j,t⟩,0,⟨hok,o2,.inl ⟨rfl,?_,hR⟩⟩,fun S=>?_⟩
    ·rw[aj h hx,zN (by rw[bZ a b c d 0 (if j=2 then 1 else j) t,hR])]
    conv at hr=>
     rhs;rw[hTe];simp only[yI.code,yI.rs,jc,reduceIte,zk,zn,zo,zq,zM k2,a1,c1,c2,i0,i1,i2,i3,kS,JM,bd,XA,Jc,p1,lb,c3,q1]
    rw[hTe]at hr;exact yI.runs hr (.inr rfl) (vM q2 (Qy j)) rfl rfl cl (Zx (all2 (qR (b:=⟨a,b,c,d,if j=2 then 1 else j,t⟩) hok.okl.le) rfl))
  ·obtain⟨S3,q1,q2,q3,q4,q5⟩:=WU jm g2 (Ext.trans hE1 p3) (Nat.zero_le _);refine⟨jm,71,⟨ok0,by simp,.inr ⟨rfl,oU h hx,rfl⟩⟩,fun S=>?_⟩
   conv at hr=>
    rhs;rw[hTe];simp only[yI.code,yI.rs,jc,reduceIte,zk,zn,zo,zq,zM k2,a1,c1,c2,i0,i1,i2,i3,kS,JM,bd,XA,Jc,p1,z0,q1]
   rw[hTe]at hr;exact yI.runs hr (.inr rfl) (vM q2 (by decide)) rfl rfl cl rfl
theorem yJ.v {k:Nat}{l:List UInt8} (hk:je k l) (k2:k≠2) (hl:l.length≤140737488355328):∃b e,nZ l b e∧∀S,zU zi O yJ.id [jk k l] S=some (.tuple #[bv b,.int .i64 e],S):=by
 have a1:=Jc zS.empty;have g1:(zS.empty.push (.cells (yP jm) (.own []) 0)).get 0=some (.cells (yP jm) (.own []) 0):=by kernel_rfl
 have n1:(zS.empty.push (.cells (yP jm) (.own []) 0)).next=1:=by kernel_rfl
 rw[show zS.empty.next=0 from rfl]at a1
 have hE1:Ext zS.empty (zS.empty.push (.cells (yP jm) (.own []) 0)):=Ext.push _ _;have cl:[jk k l].all (jw 16)=true:=all1 (vU (k:=k) hk.le);obtain⟨T,hTe⟩:∃T,T=(jk k l::[zh,zh,zh,zh,zh,zh,zh,zh,zh,zh,zh,zh,zh,zh,zh,zh,zh,zh,zh,zh,zh,zh,zh,zh,zh,zh,zh,zh,zh,zh,zh,zh,zh,zh,zh,zh,zh,zh,zh,zh,zh,zh,zh,zh,zh,zh]):=⟨_,rfl⟩;have hr:=Eq.refl (zX zi O false yJ.code T zS.empty);have c1:=fun S=>jS.v (many:=4) hk k2 hl S
 have r1:∀k0 k1,JY k0 k1 4 l=_:=fun k0 k1=>QU (m:=4) (by decide) (by decide)
 rw[r1]at c1;have z0:∀S,wS zi 46 [] S=some (bv jm,S):=fun S=>fD S
 generalize zS.empty.push (.cells (yP jm) (.own []) 0)=S1 at a1 g1 n1 hE1;rcases Ef l with h |⟨a,b,c,d,r,h,hlr⟩
 ·rw[h]at c1;obtain⟨S3,q1,q2,q3,q4,q5⟩:=WU jm g1 hE1 (Nat.zero_le _);refine⟨jm,71,⟨ok0,by simp,.inr ⟨rfl,oQ h,rfl⟩⟩,fun S=>?_⟩
  conv at hr=>
   rhs;rw[hTe];simp only[yJ.code,yJ.rs,jc,reduceIte,zk,zn,zo,zq,zM k2,a1,c1,z0,q1]
  rw[hTe]at hr;exact yJ.runs hr (.inr rfl) (vM q2 (by decide)) rfl rfl cl rfl
 ·rw[h]at c1;have i0:=fun S=>ZC (k:=1) (i:=0) (m:=0) (l:=[a,b,c,d]) je.read rfl rfl S
  have i1:=fun S=>ZC (k:=1) (i:=1) (m:=1) (l:=[a,b,c,d]) je.read rfl rfl S
  have i2:=fun S=>ZC (k:=1) (i:=2) (m:=2) (l:=[a,b,c,d]) je.read rfl rfl S
  have i3:=fun S=>ZC (k:=1) (i:=3) (m:=3) (l:=[a,b,c,d]) je.read rfl rfl S
  have few:=((ZF _ _ _ _).mp h).2.2;have fd:d≤4611686018427387904:=(few d (by simp)).2
  obtain⟨j,t,e,o1,o2,o3,o4⟩:=FB (j:=2) (by decide) r
  have c2:=fun S=>jF.v (k:=1) (l:=r) je.read (by decide) (by omega) S
  rw[o3]at c2;have hok:jR.Ok ⟨a,b,c,d,if j=2 then 1 else j,t⟩:=⟨o1.zQ,Qy j,by show t.length*16≤_;omega,by show d<_;omega⟩
  obtain⟨S2,p1,p2,p3,p4⟩:=VK S1 ⟨a,b,c,d,if j=2 then 1 else j,t⟩;have g2:S2.get 0=some (.cells (yP jm) (.own []) 0):=by rw[p3.get 0 (by omega),g1]
  have bd:=fun S=>oM (y0:=.int .i64 a) (y1:=.int .i64 b) (y2:=.int .i64 c) (y3:=.int .i64 d) (y4:=tl (if j=2 then 1 else j) t) vJ vJ vJ vJ WM S
  have c3:∀S,zU zi O 32 [.agg [Value.int .i64 a,.int .i64 b,.int .i64 c,.int .i64 d,tl (if j=2 then 1 else j) t].toArray] S=some (.bool (jP ⟨a,b,c,d,if j=2 then 1 else j,t⟩),S):=fun S=>wB.v hok S
  have lb:zZ zi false 46 (.pointer (some ⟨S1.next,0,none⟩)) S2=some (.agg [Value.int .i64 a,.int .i64 b,.int .i64 c,.int .i64 d,tl (if j=2 then 1 else j) t].toArray,S2):=vM p2 (Qy j);rcases o4 with ⟨rfl,hx⟩ |⟨rfl,hx,rfl⟩
  ·cases hR:jP ⟨a,b,c,d,if j=2 then 1 else j,t⟩
   ·rw[hR]at c3;obtain⟨S3,q1,q2,q3,q4,q5⟩:=WU jm g2 (Ext.trans hE1 p3) (Nat.zero_le _);refine⟨jm,71,⟨ok0,by simp,.inr ⟨rfl,?_,rfl⟩⟩,fun S=>?_⟩
    ·rw[aj h hx,zM (by rw[bZ a b c d 0 (if j=2 then 1 else j) t,hR];decide)]
    conv at hr=>
     rhs;rw[hTe];simp only[yJ.code,yJ.rs,jc,reduceIte,zk,zn,zo,zq,zM k2,a1,c1,c2,i0,i1,i2,i3,kS,JM,bd,XA,Jc,p1,lb,c3,z0,q1]
    rw[hTe]at hr;exact yJ.runs hr (.inr rfl) (vM q2 (by decide)) rfl rfl cl rfl
   ·rw[hR]at c3;obtain⟨S3,q1,q2,q3,q4,q5⟩:=WU ⟨a,b,c,d,if j=2 then 1 else j,t⟩ g2 (Ext.trans hE1 p3) (Nat.zero_le _);refine⟨⟨a,b,c,d,if j=2 then 1 else j,t⟩,0,⟨hok,o2,.inl ⟨rfl,?_,hR⟩⟩,fun S=>?_⟩
    ·rw[aj h hx,zN (by rw[bZ a b c d 0 (if j=2 then 1 else j) t,hR])]
    conv at hr=>
     rhs;rw[hTe];simp only[yJ.code,yJ.rs,jc,reduceIte,zk,zn,zo,zq,zM k2,a1,c1,c2,i0,i1,i2,i3,kS,JM,bd,XA,Jc,p1,lb,c3,q1]
    rw[hTe]at hr;exact yJ.runs hr (.inr rfl) (vM q2 (Qy j)) rfl rfl cl (Zx (all2 (qR (b:=⟨a,b,c,d,if j=2 then 1 else j,t⟩) hok.okl.le) rfl))
  ·obtain⟨S3,q1,q2,q3,q4,q5⟩:=WU jm g2 (Ext.trans hE1 p3) (Nat.zero_le _);refine⟨jm,71,⟨ok0,by simp,.inr ⟨rfl,oU h hx,rfl⟩⟩,fun S=>?_⟩
   conv at hr=>
    rhs;rw[hTe];simp only[yJ.code,yJ.rs,jc,reduceIte,zk,zn,zo,zq,zM k2,a1,c1,c2,i0,i1,i2,i3,kS,JM,bd,XA,Jc,p1,z0,q1]
   rw[hTe]at hr;exact yJ.runs hr (.inr rfl) (vM q2 (by decide)) rfl rfl cl rfl
structure ji where
 kind:Int
 frm:Int
 index:Int
 view:Int
 value:Int
 prep:Int
 tx:jG
 b:jR
def fM (m:ji):List zu:=[.int .i64 m.kind,.int .i64 m.frm,.int .i64 m.index,.int .i64 m.view,.int .i64 m.value,.int .i64 m.prep,.int .i64 m.tx.id,.int .i64 m.tx.fee,.int .i64 m.b.slot,.int .i64 m.b.miner,.int .i64 m.b.variant,.int .i64 m.b.parent,tl m.b.k m.b.txs]
abbrev mv (m:ji):zu:=.agg [Value.int .i64 m.kind,.int .i64 m.frm,.int .i64 m.index,.int .i64 m.view,.int .i64 m.value,.int .i64 m.prep,.int .i64 m.tx.id,.int .i64 m.tx.fee,.int .i64 m.b.slot,.int .i64 m.b.miner,.int .i64 m.b.variant,.int .i64 m.b.parent,tl m.b.k m.b.txs].toArray
def Big (n:Int):Prop:=-9223372036854775808≤n∧n<9223372036854775808
structure ji.Ok (m:ji):Prop where
 b:m.b.Ok
 tx:m.tx.Ok
 kind:Big m.kind
 frm:Big m.frm
 index:Big m.index
 view:Big m.view
 value:Big m.value
 prep:Big m.prep
abbrev m0 :ji:=⟨0,0,0,0,0,0,⟨0,0⟩,jm⟩
theorem mk_eq {x y:ji}(h1:x.kind=y.kind) (h2:x.frm=y.frm) (h3:x.index=y.index) (h4:x.view=y.view) (h5:x.value=y.value) (h6:x.prep=y.prep) (h7:x.tx=y.tx) (h8:x.b=y.b):x=y:=by
 cases x;cases y;simp_all
theorem kL {m:ji}{d:Nat}(h:m.b.k≤2):jw (d+6) (mv m)=true:=by
 have h1:jw (d+5) (tl m.b.k m.b.txs)=true:=WO (d:=d+1) h fun _ _=>rfl
 refine gu ?_;simp only[List.all_cons,List.all_nil,h1,Bool.and_true];rfl
theorem DL (m:ji):(fM m).all (·.oneCell')=true:=by
 simp only[fM,List.all_cons,List.all_nil,lU,KQ,Bool.and_true]
section
variable {S:zS}{q e:Nat}{m:ji}{own:Own}
theorem jA (h:S.get q=some (.cells (fM m) own e)):zZ zi false 3 (.pointer (some ⟨q,0+0,none⟩)) S=some (.int .i64 m.kind,S):=Zp (t:=3) (o:=0+0) h Zo rfl
theorem jV (h:S.get q=some (.cells (fM m) own e)):zZ zi false 3 (.pointer (some ⟨q,0+1,none⟩)) S=some (.int .i64 m.frm,S):=Zp (t:=3) (o:=0+1) h Zo rfl
theorem wo (h:S.get q=some (.cells (fM m) own e)):zZ zi false 3 (.pointer (some ⟨q,0+2,none⟩)) S=some (.int .i64 m.index,S):=Zp (t:=3) (o:=0+2) h Zo rfl
theorem wG (h:S.get q=some (.cells (fM m) own e)):zZ zi false 3 (.pointer (some ⟨q,0+3,none⟩)) S=some (.int .i64 m.view,S):=Zp (t:=3) (o:=0+3) h Zo rfl
theorem jO (h:S.get q=some (.cells (fM m) own e)):zZ zi false 3 (.pointer (some ⟨q,0+4,none⟩)) S=some (.int .i64 m.value,S):=Zp (t:=3) (o:=0+4) h Zo rfl
theorem wV (h:S.get q=some (.cells (fM m) own e)):zZ zi false 3 (.pointer (some ⟨q,0+5,none⟩)) S=some (.int .i64 m.prep,S):=Zp (t:=3) (o:=0+5) h Zo rfl
theorem wX (h:S.get q=some (.cells (fM m) own e)):zZ zi false 43 (.pointer (some ⟨q,0+6,none⟩)) S=some (tv m.tx,S):=(Xv (o:=0+6) h iJ Qh (by simp[fM])).trans (by simp[fM,Yc])
theorem wL (h:S.get q=some (.cells (fM m) own e)) (hk:m.b.k≠2):zZ zi false 46 (.pointer (some ⟨q,0+8,none⟩)) S=some (bv m.b,S):=by
 rw[Xv (o:=0+8) h iI QW (by simp[fM])]
 simp[fM,Yc,aK,hk]
theorem wO (h:S.get q=some (.cells (fM m) own e)) (hk:m.b.k≠2):zZ zi false 48 (.pointer (some ⟨q,0,none⟩)) S=some (mv m,S):=by
 rw[OX h];simp only[Yc,aK,zM hk]
end
abbrev vw (m:ji):zS:=zS.empty.push (.cells (fM m) (.own []) 0)
theorem yE (m:ji):qm (mv m) zS.empty=some (.pointer (some ⟨0,0,none⟩),vw m):=rfl
theorem JV (m:ji):(vw m).get 0=some (.cells (fM m) (.own []) 0):=rfl
abbrev Ws (a b:ji):zS:=(vw a).push (.cells (fM b) (.own []) 0)
theorem Qw (a b:ji):qm (mv b) (vw a)=some (.pointer (some ⟨1,0,none⟩),Ws a b):=by kernel_rfl
theorem lD (a b:ji):(Ws a b).get 0=some (.cells (fM a) (.own []) 0):=by kernel_rfl
theorem lF (a b:ji):(Ws a b).get 1=some (.cells (fM b) (.own []) 0):=by kernel_rfl
theorem Zv (S:zS):wR zi 48 S=some (.pointer (some ⟨S.next,0,none⟩),S.push (.cells (fM m0) (.own []) 0)):=by kernel_rfl
def Zj (a b:ji):Bool:=decide (a.kind=b.kind)&&(decide (a.frm=b.frm)&&(decide (a.index=b.index)&&(decide (a.view=b.view)&&(decide (a.value=b.value)&&(decide (a.prep=b.prep)&&(decide (a.tx=b.tx)&&vG a.b b.b))))))
theorem qp.v {a b:ji}(ha:a.Ok) (hb:b.Ok) (S:zS):zU zi O qp.id [mv a,mv b] S=some (.bool (Zj a b),S):=by
 obtain⟨T,hTe⟩:∃T,T=(mv a::mv b::[zh,zh,zh,zh,zh,zh,zh,zh,zh,zh,zh,zh,zh,zh,zh,zh,zh,zh,zh,zh,zh,zh,zh,zh,zh,zh,zh,zh,zh,zh,zh,zh,zh,zh,zh,zh,zh,zh,zh,zh,zh,zh,zh,zh,zh,zh,zh,zh,zh,zh,zh,zh,zh,zh,zh,zh,zh,zh,zh]):=⟨_,rfl⟩;have hr:=Eq.refl (zX zi O false qp.code T zS.empty);have g0:=lD a b;have g1:=lF a b;have c1:=fun S=>xg.v ha.b hb.b S
 have e1:=fun S=>(aP a.tx b.tx S).1
 have hc:[mv a,mv b].all (jw 16)=true:=all2 (kL ha.b.okl.le) (kL hb.b.okl.le);unfold Zj;by_cases h1:a.kind=b.kind
 ·by_cases h2:a.frm=b.frm
  ·by_cases h3:a.index=b.index
   ·by_cases h4:a.view=b.view
    ·by_cases h5:a.value=b.value
     ·by_cases h6:a.prep=b.prep
      ·by_cases h7:a.tx=b.tx
       ·rw[zL h1,zL h2,zL h3,zL h4,zL h5,zL h6,zL h7];simp only[Bool.true_and];conv at hr=>
         rhs;rw[hTe];simp only[qp.code,qp.rs,jc,reduceIte,zk,zn,zo,zq,yE,Qw,jE,jU,wM,wP,jX,wY,wQ,wz,jA g0,jA g1,jV g0,jV g1,wo g0,wo g1,wG g0,wG g1,jO g0,jO g1,wV g0,wV g1,wX g0,wX g1,wL g0 ha.b.ne,wL g1 hb.b.ne,zL h1,zL h2,zL h3,zL h4,zL h5,zL h6,zL h7,e1,c1]
        rw[hTe]at hr;exact qp.runs hr (.inr rfl) hc rfl
       ·rw[zK h7];simp only[Bool.false_and,Bool.and_false];conv at hr=>
         rhs;rw[hTe];simp only[qp.code,qp.rs,jc,reduceIte,zk,zn,zo,zq,yE,Qw,jE,jU,wM,wP,jX,wY,wQ,jA g0,jA g1,jV g0,jV g1,wo g0,wo g1,wG g0,wG g1,jO g0,jO g1,wV g0,wV g1,wX g0,wX g1,zL h1,zL h2,zL h3,zL h4,zL h5,zL h6,zK h7,e1]
        rw[hTe]at hr;exact qp.runs hr (.inr rfl) hc rfl
      ·rw[zK h6];simp only[Bool.false_and,Bool.and_false];conv at hr=>
        rhs;rw[hTe];simp only[qp.code,qp.rs,jc,reduceIte,zk,zn,zo,zq,yE,Qw,jE,jU,wM,wP,jX,wY,jA g0,jA g1,jV g0,jV g1,wo g0,wo g1,wG g0,wG g1,jO g0,jO g1,wV g0,wV g1,zL h1,zL h2,zL h3,zL h4,zL h5,zK h6]
       rw[hTe]at hr;exact qp.runs hr (.inr rfl) hc rfl
     ·rw[zK h5];simp only[Bool.false_and,Bool.and_false];conv at hr=>
       rhs;rw[hTe];simp only[qp.code,qp.rs,jc,reduceIte,zk,zn,zo,zq,yE,Qw,jE,jU,wM,wP,jX,jA g0,jA g1,jV g0,jV g1,wo g0,wo g1,wG g0,wG g1,jO g0,jO g1,zL h1,zL h2,zL h3,zL h4,zK h5]
      rw[hTe]at hr;exact qp.runs hr (.inr rfl) hc rfl
    ·rw[zK h4];simp only[Bool.false_and,Bool.and_false];conv at hr=>
      rhs;rw[hTe];simp only[qp.code,qp.rs,jc,reduceIte,zk,zn,zo,zq,yE,Qw,jE,jU,wM,wP,jA g0,jA g1,jV g0,jV g1,wo g0,wo g1,wG g0,wG g1,zL h1,zL h2,zL h3,zK h4]
     rw[hTe]at hr;exact qp.runs hr (.inr rfl) hc rfl
   ·rw[zK h3];simp only[Bool.false_and,Bool.and_false];conv at hr=>
     rhs;rw[hTe];simp only[qp.code,qp.rs,jc,reduceIte,zk,zn,zo,zq,yE,Qw,jE,jU,wM,jA g0,jA g1,jV g0,jV g1,wo g0,wo g1,zL h1,zL h2,zK h3]
    rw[hTe]at hr;exact qp.runs hr (.inr rfl) hc rfl
  ·rw[zK h2];simp only[Bool.false_and,Bool.and_false];conv at hr=>
    rhs;rw[hTe];simp only[qp.code,qp.rs,jc,reduceIte,zk,zn,zo,zq,yE,Qw,jE,jU,jA g0,jA g1,jV g0,jV g1,zL h1,zK h2]
   rw[hTe]at hr;exact qp.runs hr (.inr rfl) hc rfl
 ·rw[zK h1];simp only[Bool.false_and];conv at hr=>
   rhs;rw[hTe];simp only[qp.code,qp.rs,jc,reduceIte,zk,zn,zo,zq,yE,Qw,jE,jA g0,jA g1,zK h1]
  rw[hTe]at hr;exact qp.runs hr (.inr rfl) hc rfl
def J7 (m:ji):Bool:=decide (m.kind=4) ||decide (m.kind=5)
def xM (m:ji):Bool:=decide (m.value=0) ||decide (0<Ql m.value) ||(J7 m&&decide (m.value=-1))
theorem yT.v {m:ji}(hm:m.Ok) (S:zS):zU zi O yT.id [mv m] S=some (.bool (xM m),S):=by
 obtain⟨T,hTe⟩:∃T,T=(mv m::[zh,zh,zh,zh,zh,zh,zh,zh,zh,zh,zh,zh,zh,zh,zh,zh,zh,zh,zh,zh,zh,zh,zh,zh,zh,zh,zh,zh]):=⟨_,rfl⟩;have hr:=Eq.refl (zX zi O false yT.code T zS.empty);have g0:=JV m;have c1:=fun S=>xP.v m.value S
 have hc:[mv m].all (jw 16)=true:=all1 (kL hm.b.okl.le);by_cases k4:m.kind=4
 ·have hvote:J7 m=true:=by simp[J7,k4]
  by_cases v0:m.value=0
  ·rw[show xM m=true from by simp[xM,v0]]
   conv at hr=>
    rhs;rw[hTe];simp only[yT.code,yT.rs,jc,reduceIte,zk,zn,zo,zq,yE,jE,jX,jA g0,jO g0,zL k4,zL v0]
   rw[hTe]at hr;exact yT.runs hr (.inr rfl) hc rfl
  by_cases v1:0<Ql m.value
  ·rw[show xM m=true from by simp[xM,v1]]
   conv at hr=>
    rhs;rw[hTe];simp only[yT.code,yT.rs,jc,reduceIte,zk,zn,zo,zq,yE,jE,jX,jA g0,jO g0,zL k4,zK v0,c1,zL v1]
   rw[hTe]at hr;exact yT.runs hr (.inr rfl) hc rfl
  by_cases v2:m.value=-1
  ·rw[show xM m=true from by simp[xM,v2,hvote]]
   conv at hr=>
    rhs;rw[hTe];simp only[yT.code,yT.rs,jc,reduceIte,zk,zn,zo,zq,yE,jE,jX,jA g0,jO g0,zL k4,zK v0,c1,zK v1,zL v2]
   rw[hTe]at hr;exact yT.runs hr (.inr rfl) hc rfl
  rw[show xM m=false from by simp[xM,v0,v1,v2]]
  conv at hr=>
   rhs;rw[hTe];simp only[yT.code,yT.rs,jc,reduceIte,zk,zn,zo,zq,yE,jE,jX,jA g0,jO g0,zL k4,zK v0,c1,zK v1,zK v2]
  rw[hTe]at hr;exact yT.runs hr (.inr rfl) hc rfl
 by_cases k5:m.kind=5
 ·have hvote:J7 m=true:=by simp[J7,k5]
  by_cases v0:m.value=0
  ·rw[show xM m=true from by simp[xM,v0]]
   conv at hr=>
    rhs;rw[hTe];simp only[yT.code,yT.rs,jc,reduceIte,zk,zn,zo,zq,yE,jE,jX,jA g0,jO g0,zK k4,zL k5,zL v0]
   rw[hTe]at hr;exact yT.runs hr (.inr rfl) hc rfl
  by_cases v1:0<Ql m.value
  ·rw[show xM m=true from by simp[xM,v1]]
   conv at hr=>
    rhs;rw[hTe];simp only[yT.code,yT.rs,jc,reduceIte,zk,zn,zo,zq,yE,jE,jX,jA g0,jO g0,zK k4,zL k5,zK v0,c1,zL v1]
   rw[hTe]at hr;exact yT.runs hr (.inr rfl) hc rfl
  by_cases v2:m.value=-1
  ·rw[show xM m=true from by simp[xM,v2,hvote]]
   conv at hr=>
    rhs;rw[hTe];simp only[yT.code,yT.rs,jc,reduceIte,zk,zn,zo,zq,yE,jE,jX,jA g0,jO g0,zK k4,zL k5,zK v0,c1,zK v1,zL v2]
   rw[hTe]at hr;exact yT.runs hr (.inr rfl) hc rfl
  rw[show xM m=false from by simp[xM,v0,v1,v2]]
  conv at hr=>
   rhs;rw[hTe];simp only[yT.code,yT.rs,jc,reduceIte,zk,zn,zo,zq,yE,jE,jX,jA g0,jO g0,zK k4,zL k5,zK v0,c1,zK v1,zK v2]
  rw[hTe]at hr;exact yT.runs hr (.inr rfl) hc rfl
 have hvote:J7 m=false:=by simp[J7,k4,k5]
 by_cases v0:m.value=0
 ·rw[show xM m=true from by simp[xM,v0]]
  conv at hr=>
   rhs;rw[hTe];simp only[yT.code,yT.rs,jc,reduceIte,zk,zn,zo,zq,yE,jE,jX,jA g0,jO g0,zK k4,zK k5,zL v0]
  rw[hTe]at hr;exact yT.runs hr (.inr rfl) hc rfl
 by_cases v1:0<Ql m.value
 ·rw[show xM m=true from by simp[xM,v1]]
  conv at hr=>
   rhs;rw[hTe];simp only[yT.code,yT.rs,jc,reduceIte,zk,zn,zo,zq,yE,jE,jX,jA g0,jO g0,zK k4,zK k5,zK v0,c1,zL v1]
  rw[hTe]at hr;exact yT.runs hr (.inr rfl) hc rfl
 rw[show xM m=false from by simp[xM,v0,v1,hvote]]
 conv at hr=>
  rhs;rw[hTe];simp only[yT.code,yT.rs,jc,reduceIte,zk,zn,zo,zq,yE,jE,jX,jA g0,jO g0,zK k4,zK k5,zK v0,c1,zK v1]
 rw[hTe]at hr;exact yT.runs hr (.inr rfl) hc rfl
def wU (m:ji):ji :=
 if m.kind=0 then⟨m.kind,m.frm,0,0,0,0,m.tx,jm⟩
 else if m.kind=1 then⟨m.kind,m.frm,0,0,0,0,⟨0,0⟩,m.b⟩
 else if m.kind=2 then⟨m.kind,m.frm,0,0,m.value,0,⟨0,0⟩,jm⟩
 else if m.kind=3 then⟨m.kind,m.frm,m.index,m.view,m.value,m.prep,⟨0,0⟩,jm⟩
 else if m.kind=4 then⟨m.kind,m.frm,m.index,m.view,m.value,0,⟨0,0⟩,jm⟩
 else if m.kind=5 then⟨m.kind,m.frm,m.index,m.view,m.value,0,⟨0,0⟩,jm⟩
 else⟨m.kind,m.frm,m.index,0,m.value,0,⟨0,0⟩,jm⟩
abbrev jQ (S:zS) (q:Nat) (x:ji):zS:=(S.kills []).set q (.cells (fM x) (.own []) 0)
theorem yU (S:zS) (q:Nat) (x:ji):(jQ S q x).get q=some (.cells (fM x) (.own []) 0):=by rw[zS.kM,zN rfl]
theorem qg {S:zS}{q k:Nat}{x:ji}(h:k≠q):(jQ S q x).get k=S.get k:=by rw[zS.kM,zM h];rfl
theorem dD {S:zS}{q k o:Nat}{x y:ji}(h:S.get k=some (.cells (fM y) (.own []) 0)) (hk:k≠q):y8 (.pointer (some ⟨k,o,none⟩)) S (jQ S q x)=true:=by
 have hl:(jQ S q x).log=q::S.log:=rfl;simp only[y8,h,hl,List.length_cons,Nat.add_sub_cancel_left,List.take_succ_cons,List.take_zero];simp[hk]
section
variable {S:zS}{q:Nat}{x:ji}
theorem vS (h:S.get q=some (.cells (fM x) (.own []) 0)) (y:ji):jI zi 48 (.pointer (some ⟨q,0,none⟩)) (mv y) S=some (zh,jQ S q y):=by
 rw[YT (x:=mv y) (n:=13) h mO (by rw[Zf];rfl) (by rw[Zf,zD];exact DL y) (by simp[fM]),Zf,zD];rfl
theorem dw (h:S.get q=some (.cells (fM x) (.own []) 0)) (v:Int):jI zi 3 (.pointer (some ⟨q,0+2,none⟩)) (.int .i64 v) S=some (zh,jQ S q { x with index:=v }):=by
 rw[YT (n:=1) h KR rfl rfl (by simp[fM])];rfl
theorem mX (h:S.get q=some (.cells (fM x) (.own []) 0)) (v:Int):jI zi 3 (.pointer (some ⟨q,0+3,none⟩)) (.int .i64 v) S=some (zh,jQ S q { x with view:=v }):=by
 rw[YT (n:=1) h KR rfl rfl (by simp[fM])];rfl
theorem VN (h:S.get q=some (.cells (fM x) (.own []) 0)) (v:Int):jI zi 3 (.pointer (some ⟨q,0+4,none⟩)) (.int .i64 v) S=some (zh,jQ S q { x with value:=v }):=by
 rw[YT (n:=1) h KR rfl rfl (by simp[fM])];rfl
theorem UF (h:S.get q=some (.cells (fM x) (.own []) 0)) (v:Int):jI zi 3 (.pointer (some ⟨q,0+5,none⟩)) (.int .i64 v) S=some (zh,jQ S q { x with prep:=v }):=by
 rw[YT (n:=1) h KR rfl rfl (by simp[fM])];rfl
theorem mY (h:S.get q=some (.cells (fM x) (.own []) 0)) (t:jG):jI zi 43 (.pointer (some ⟨q,0+6,none⟩)) (tv t) S=some (zh,jQ S q { x with tx:=t }):=by
 rw[YT (n:=2) h Qh rfl rfl (by simp[fM])];rfl
theorem mZ (h:S.get q=some (.cells (fM x) (.own []) 0)) (b:jR):jI zi 46 (.pointer (some ⟨q,0+8,none⟩)) (bv b) S=some (zh,jQ S q { x with b:=b }):=by
 rw[YT (x:=bv b) (n:=5) h QW (by rw[Zf];rfl) (by rw[Zf,zD];exact bM b) (by simp[fM]),Zf,zD];rfl
end
theorem jC.v0 {m:ji}(hm:m.Ok) (hk:m.kind=0) (S:zS):zU zi O jC.id [mv m] S=some (mv (wU m),S):=by
 obtain⟨T,hTe⟩:∃T,T=(mv m::[zh,zh,zh,zh,zh,zh,zh,zh,zh,zh,zh,zh,zh,zh,zh,zh,zh,zh,zh,zh,zh,zh,zh,zh,zh,zh,zh,zh,zh,zh,zh,zh,zh,zh,zh,zh,zh,zh,zh,zh,zh,zh,zh,zh,zh]):=⟨_,rfl⟩;have hr:=Eq.refl (zX zi O false jC.code T zS.empty);obtain⟨A1,hA1⟩:∃A,A=(vw m).push (.cells (fM m0) (.own []) 0):=⟨_,rfl⟩;have a1:wR zi 48 (vw m)=some (.pointer (some ⟨1,0,none⟩),A1):=by rw[hA1];exact Zv _
 have p0:A1.get 0=some (.cells (fM m) (.own []) 0):=by rw[hA1];kernel_rfl
 obtain⟨A2,hA2⟩:∃A,A=A1.push (.cells (fM m0) (.own []) 0):=⟨_,rfl⟩;have a2:wR zi 48 A1=some (.pointer (some ⟨2,0,none⟩),A2):=by rw[hA2,hA1];exact Zv _
 have q0:A2.get 0=some (.cells (fM m) (.own []) 0):=by rw[hA2,hA1];kernel_rfl
 have q1:A2.get 1=some (.cells (fM m0) (.own []) 0):=by rw[hA2,hA1];kernel_rfl
 have q2:A2.get 2=some (.cells (fM m0) (.own []) 0):=by rw[hA2,hA1];kernel_rfl
 have s0:jI zi 48 (.pointer (some ⟨2,0,none⟩)) (.agg [Value.int .i64 m.kind,.int .i64 m.frm,.int .i64 0,.int .i64 0,.int .i64 0,.int .i64 0,.int .i64 0,.int .i64 0,.int .i64 0,.int .i64 0,.int .i64 0,.int .i64 0,.slice none 0 0].toArray) A2=some (zh,jQ A2 2 (⟨m.kind,m.frm,0,0,0,0,⟨0,0⟩,jm⟩:ji)):=vS q2 (⟨m.kind,m.frm,0,0,0,0,⟨0,0⟩,jm⟩:ji);have b0:(jQ A2 2 (⟨m.kind,m.frm,0,0,0,0,⟨0,0⟩,jm⟩:ji)).get 0=some (.cells (fM m) (.own []) 0):=(qg (by decide)).trans q0
 have b1:(jQ A2 2 (⟨m.kind,m.frm,0,0,0,0,⟨0,0⟩,jm⟩:ji)).get 1=some (.cells (fM m0) (.own []) 0):=(qg (by decide)).trans q1
 have b2:=yU A2 2 (⟨m.kind,m.frm,0,0,0,0,⟨0,0⟩,jm⟩:ji);generalize hB0:jQ A2 2 (⟨m.kind,m.frm,0,0,0,0,⟨0,0⟩,jm⟩:ji)=B0 at s0 b0 b1 b2;have s1:=mY b2 m.tx;have c1_0:(jQ B0 2 (⟨m.kind,m.frm,0,0,0,0,m.tx,jm⟩:ji)).get 0=some (.cells (fM m) (.own []) 0):=(qg (by decide)).trans b0
 have c1_1:(jQ B0 2 (⟨m.kind,m.frm,0,0,0,0,m.tx,jm⟩:ji)).get 1=some (.cells (fM m0) (.own []) 0):=(qg (by decide)).trans b1
 have c1_2:=yU B0 2 (⟨m.kind,m.frm,0,0,0,0,m.tx,jm⟩:ji);dsimp only at s1;generalize hB1:jQ B0 2 (⟨m.kind,m.frm,0,0,0,0,m.tx,jm⟩:ji)=B1 at s1  c1_0 c1_1 c1_2;have eb:(⟨m.kind,m.frm,0,0,0,0,m.tx,jm⟩:ji)=wU m:=by simp[wU,hk]
 rw[eb]at c1_2;have hbk:(wU m).b.k≠2:=by simp[wU,hk]
 have ld:=wO c1_2 hbk;have sl:=vS c1_1 (wU m);have fin:=wO (yU B1 1 (wU m)) hbk;have hcb:(wU m).b.k≤2:=by simp[wU,hk]
 conv at hr=>
  rhs;rw[hTe];simp only[jC.code,jC.rs,jc,reduceIte,zk,zn,zo,zq,yE,a1,a2,jE,jU,jA p0,jV p0,Ky (y0:=.int .i64 m.kind) (y1:=.int .i64 m.frm) rfl rfl,s0,jA b0,wQ,s1,wX b0,zL hk,WT,ld,sl]
 rw[hTe]at hr;exact jC.runs hr (.inr rfl) fin (all1 (kL hm.b.okl.le)) (kL hcb)
theorem jC.v1 {m:ji}(hm:m.Ok) (hk:m.kind=1) (S:zS):zU zi O jC.id [mv m] S=some (mv (wU m),S):=by
 obtain⟨T,hTe⟩:∃T,T=(mv m::[zh,zh,zh,zh,zh,zh,zh,zh,zh,zh,zh,zh,zh,zh,zh,zh,zh,zh,zh,zh,zh,zh,zh,zh,zh,zh,zh,zh,zh,zh,zh,zh,zh,zh,zh,zh,zh,zh,zh,zh,zh,zh,zh,zh,zh]):=⟨_,rfl⟩;have hr:=Eq.refl (zX zi O false jC.code T zS.empty);obtain⟨A1,hA1⟩:∃A,A=(vw m).push (.cells (fM m0) (.own []) 0):=⟨_,rfl⟩;have a1:wR zi 48 (vw m)=some (.pointer (some ⟨1,0,none⟩),A1):=by rw[hA1];exact Zv _
 have p0:A1.get 0=some (.cells (fM m) (.own []) 0):=by rw[hA1];kernel_rfl
 obtain⟨A2,hA2⟩:∃A,A=A1.push (.cells (fM m0) (.own []) 0):=⟨_,rfl⟩;have a2:wR zi 48 A1=some (.pointer (some ⟨2,0,none⟩),A2):=by rw[hA2,hA1];exact Zv _
 have q0:A2.get 0=some (.cells (fM m) (.own []) 0):=by rw[hA2,hA1];kernel_rfl
 have q1:A2.get 1=some (.cells (fM m0) (.own []) 0):=by rw[hA2,hA1];kernel_rfl
 have q2:A2.get 2=some (.cells (fM m0) (.own []) 0):=by rw[hA2,hA1];kernel_rfl
 have s0:jI zi 48 (.pointer (some ⟨2,0,none⟩)) (.agg [Value.int .i64 m.kind,.int .i64 m.frm,.int .i64 0,.int .i64 0,.int .i64 0,.int .i64 0,.int .i64 0,.int .i64 0,.int .i64 0,.int .i64 0,.int .i64 0,.int .i64 0,.slice none 0 0].toArray) A2=some (zh,jQ A2 2 (⟨m.kind,m.frm,0,0,0,0,⟨0,0⟩,jm⟩:ji)):=vS q2 (⟨m.kind,m.frm,0,0,0,0,⟨0,0⟩,jm⟩:ji);have b0:(jQ A2 2 (⟨m.kind,m.frm,0,0,0,0,⟨0,0⟩,jm⟩:ji)).get 0=some (.cells (fM m) (.own []) 0):=(qg (by decide)).trans q0
 have b1:(jQ A2 2 (⟨m.kind,m.frm,0,0,0,0,⟨0,0⟩,jm⟩:ji)).get 1=some (.cells (fM m0) (.own []) 0):=(qg (by decide)).trans q1
 have b2:=yU A2 2 (⟨m.kind,m.frm,0,0,0,0,⟨0,0⟩,jm⟩:ji);generalize hB0:jQ A2 2 (⟨m.kind,m.frm,0,0,0,0,⟨0,0⟩,jm⟩:ji)=B0 at s0 b0 b1 b2;have s1:=mZ b2 m.b;have c1_0:(jQ B0 2 (⟨m.kind,m.frm,0,0,0,0,⟨0,0⟩,m.b⟩:ji)).get 0=some (.cells (fM m) (.own []) 0):=(qg (by decide)).trans b0
 have c1_1:(jQ B0 2 (⟨m.kind,m.frm,0,0,0,0,⟨0,0⟩,m.b⟩:ji)).get 1=some (.cells (fM m0) (.own []) 0):=(qg (by decide)).trans b1
 have c1_2:=yU B0 2 (⟨m.kind,m.frm,0,0,0,0,⟨0,0⟩,m.b⟩:ji);dsimp only at s1;generalize hB1:jQ B0 2 (⟨m.kind,m.frm,0,0,0,0,⟨0,0⟩,m.b⟩:ji)=B1 at s1  c1_0 c1_1 c1_2;have eb:(⟨m.kind,m.frm,0,0,0,0,⟨0,0⟩,m.b⟩:ji)=wU m:=by simp[wU,hk]
 rw[eb]at c1_2;have hbk:(wU m).b.k≠2:=by simp[wU,hk,hm.b.ne]
 have ld:=wO c1_2 hbk;have sl:=vS c1_1 (wU m);have fin:=wO (yU B1 1 (wU m)) hbk;have hcb:(wU m).b.k≤2:=by simp[wU,hk,hm.b.okl.le]
 conv at hr=>
  rhs;rw[hTe];simp only[jC.code,jC.rs,jc,reduceIte,zk,zn,zo,zq,yE,a1,a2,jE,jU,jA p0,jV p0,Ky (y0:=.int .i64 m.kind) (y1:=.int .i64 m.frm) rfl rfl,s0,jA b0,wz,s1,wL b0 hm.b.ne,zK (show ¬m.kind=0 by omega),zL hk,WT,ld,sl]
 rw[hTe]at hr;exact jC.runs hr (.inr rfl) fin (all1 (kL hm.b.okl.le)) (kL hcb)
theorem jC.v2 {m:ji}(hm:m.Ok) (hk:m.kind=2) (S:zS):zU zi O jC.id [mv m] S=some (mv (wU m),S):=by
 obtain⟨T,hTe⟩:∃T,T=(mv m::[zh,zh,zh,zh,zh,zh,zh,zh,zh,zh,zh,zh,zh,zh,zh,zh,zh,zh,zh,zh,zh,zh,zh,zh,zh,zh,zh,zh,zh,zh,zh,zh,zh,zh,zh,zh,zh,zh,zh,zh,zh,zh,zh,zh,zh]):=⟨_,rfl⟩;have hr:=Eq.refl (zX zi O false jC.code T zS.empty);obtain⟨A1,hA1⟩:∃A,A=(vw m).push (.cells (fM m0) (.own []) 0):=⟨_,rfl⟩;have a1:wR zi 48 (vw m)=some (.pointer (some ⟨1,0,none⟩),A1):=by rw[hA1];exact Zv _
 have p0:A1.get 0=some (.cells (fM m) (.own []) 0):=by rw[hA1];kernel_rfl
 obtain⟨A2,hA2⟩:∃A,A=A1.push (.cells (fM m0) (.own []) 0):=⟨_,rfl⟩;have a2:wR zi 48 A1=some (.pointer (some ⟨2,0,none⟩),A2):=by rw[hA2,hA1];exact Zv _
 have q0:A2.get 0=some (.cells (fM m) (.own []) 0):=by rw[hA2,hA1];kernel_rfl
 have q1:A2.get 1=some (.cells (fM m0) (.own []) 0):=by rw[hA2,hA1];kernel_rfl
 have q2:A2.get 2=some (.cells (fM m0) (.own []) 0):=by rw[hA2,hA1];kernel_rfl
 have s0:jI zi 48 (.pointer (some ⟨2,0,none⟩)) (.agg [Value.int .i64 m.kind,.int .i64 m.frm,.int .i64 0,.int .i64 0,.int .i64 0,.int .i64 0,.int .i64 0,.int .i64 0,.int .i64 0,.int .i64 0,.int .i64 0,.int .i64 0,.slice none 0 0].toArray) A2=some (zh,jQ A2 2 (⟨m.kind,m.frm,0,0,0,0,⟨0,0⟩,jm⟩:ji)):=vS q2 (⟨m.kind,m.frm,0,0,0,0,⟨0,0⟩,jm⟩:ji);have b0:(jQ A2 2 (⟨m.kind,m.frm,0,0,0,0,⟨0,0⟩,jm⟩:ji)).get 0=some (.cells (fM m) (.own []) 0):=(qg (by decide)).trans q0
 have b1:(jQ A2 2 (⟨m.kind,m.frm,0,0,0,0,⟨0,0⟩,jm⟩:ji)).get 1=some (.cells (fM m0) (.own []) 0):=(qg (by decide)).trans q1
 have b2:=yU A2 2 (⟨m.kind,m.frm,0,0,0,0,⟨0,0⟩,jm⟩:ji);generalize hB0:jQ A2 2 (⟨m.kind,m.frm,0,0,0,0,⟨0,0⟩,jm⟩:ji)=B0 at s0 b0 b1 b2;have s1:=VN b2 m.value;have c1_0:(jQ B0 2 (⟨m.kind,m.frm,0,0,m.value,0,⟨0,0⟩,jm⟩:ji)).get 0=some (.cells (fM m) (.own []) 0):=(qg (by decide)).trans b0
 have c1_1:(jQ B0 2 (⟨m.kind,m.frm,0,0,m.value,0,⟨0,0⟩,jm⟩:ji)).get 1=some (.cells (fM m0) (.own []) 0):=(qg (by decide)).trans b1
 have c1_2:=yU B0 2 (⟨m.kind,m.frm,0,0,m.value,0,⟨0,0⟩,jm⟩:ji);dsimp only at s1;generalize hB1:jQ B0 2 (⟨m.kind,m.frm,0,0,m.value,0,⟨0,0⟩,jm⟩:ji)=B1 at s1  c1_0 c1_1 c1_2;have eb:(⟨m.kind,m.frm,0,0,m.value,0,⟨0,0⟩,jm⟩:ji)=wU m:=by simp[wU,hk]
 rw[eb]at c1_2;have hbk:(wU m).b.k≠2:=by simp[wU,hk]
 have ld:=wO c1_2 hbk;have sl:=vS c1_1 (wU m);have fin:=wO (yU B1 1 (wU m)) hbk;have hcb:(wU m).b.k≤2:=by simp[wU,hk]
 conv at hr=>
  rhs;rw[hTe];simp only[jC.code,jC.rs,jc,reduceIte,zk,zn,zo,zq,yE,a1,a2,jE,jU,jA p0,jV p0,Ky (y0:=.int .i64 m.kind) (y1:=.int .i64 m.frm) rfl rfl,s0,jA b0,jX,s1,jO b0,zK (show ¬m.kind=0 by omega),zK (show ¬m.kind=1 by omega),zL hk,WT,ld,sl]
 rw[hTe]at hr;exact jC.runs hr (.inr rfl) fin (all1 (kL hm.b.okl.le)) (kL hcb)
theorem jC.v3 {m:ji}(hm:m.Ok) (hk:m.kind=3) (S:zS):zU zi O jC.id [mv m] S=some (mv (wU m),S):=by
 obtain⟨T,hTe⟩:∃T,T=(mv m::[zh,zh,zh,zh,zh,zh,zh,zh,zh,zh,zh,zh,zh,zh,zh,zh,zh,zh,zh,zh,zh,zh,zh,zh,zh,zh,zh,zh,zh,zh,zh,zh,zh,zh,zh,zh,zh,zh,zh,zh,zh,zh,zh,zh,zh]):=⟨_,rfl⟩;have hr:=Eq.refl (zX zi O false jC.code T zS.empty);obtain⟨A1,hA1⟩:∃A,A=(vw m).push (.cells (fM m0) (.own []) 0):=⟨_,rfl⟩;have a1:wR zi 48 (vw m)=some (.pointer (some ⟨1,0,none⟩),A1):=by rw[hA1];exact Zv _
 have p0:A1.get 0=some (.cells (fM m) (.own []) 0):=by rw[hA1];kernel_rfl
 obtain⟨A2,hA2⟩:∃A,A=A1.push (.cells (fM m0) (.own []) 0):=⟨_,rfl⟩;have a2:wR zi 48 A1=some (.pointer (some ⟨2,0,none⟩),A2):=by rw[hA2,hA1];exact Zv _
 have q0:A2.get 0=some (.cells (fM m) (.own []) 0):=by rw[hA2,hA1];kernel_rfl
 have q1:A2.get 1=some (.cells (fM m0) (.own []) 0):=by rw[hA2,hA1];kernel_rfl
 have q2:A2.get 2=some (.cells (fM m0) (.own []) 0):=by rw[hA2,hA1];kernel_rfl
 have s0:jI zi 48 (.pointer (some ⟨2,0,none⟩)) (.agg [Value.int .i64 m.kind,.int .i64 m.frm,.int .i64 0,.int .i64 0,.int .i64 0,.int .i64 0,.int .i64 0,.int .i64 0,.int .i64 0,.int .i64 0,.int .i64 0,.int .i64 0,.slice none 0 0].toArray) A2=some (zh,jQ A2 2 (⟨m.kind,m.frm,0,0,0,0,⟨0,0⟩,jm⟩:ji)):=vS q2 (⟨m.kind,m.frm,0,0,0,0,⟨0,0⟩,jm⟩:ji);have b0:(jQ A2 2 (⟨m.kind,m.frm,0,0,0,0,⟨0,0⟩,jm⟩:ji)).get 0=some (.cells (fM m) (.own []) 0):=(qg (by decide)).trans q0
 have b1:(jQ A2 2 (⟨m.kind,m.frm,0,0,0,0,⟨0,0⟩,jm⟩:ji)).get 1=some (.cells (fM m0) (.own []) 0):=(qg (by decide)).trans q1
 have b2:=yU A2 2 (⟨m.kind,m.frm,0,0,0,0,⟨0,0⟩,jm⟩:ji);generalize hB0:jQ A2 2 (⟨m.kind,m.frm,0,0,0,0,⟨0,0⟩,jm⟩:ji)=B0 at s0 b0 b1 b2;have s1:=UF b2 m.prep;have c1_0:(jQ B0 2 (⟨m.kind,m.frm,0,0,0,m.prep,⟨0,0⟩,jm⟩:ji)).get 0=some (.cells (fM m) (.own []) 0):=(qg (by decide)).trans b0
 have c1_1:(jQ B0 2 (⟨m.kind,m.frm,0,0,0,m.prep,⟨0,0⟩,jm⟩:ji)).get 1=some (.cells (fM m0) (.own []) 0):=(qg (by decide)).trans b1
 have c1_2:=yU B0 2 (⟨m.kind,m.frm,0,0,0,m.prep,⟨0,0⟩,jm⟩:ji);dsimp only at s1;generalize hB1:jQ B0 2 (⟨m.kind,m.frm,0,0,0,m.prep,⟨0,0⟩,jm⟩:ji)=B1 at s1  c1_0 c1_1 c1_2;have s2:=mX c1_2 m.view;have c2_0:(jQ B1 2 (⟨m.kind,m.frm,0,m.view,0,m.prep,⟨0,0⟩,jm⟩:ji)).get 0=some (.cells (fM m) (.own []) 0):=(qg (by decide)).trans c1_0
 have c2_1:(jQ B1 2 (⟨m.kind,m.frm,0,m.view,0,m.prep,⟨0,0⟩,jm⟩:ji)).get 1=some (.cells (fM m0) (.own []) 0):=(qg (by decide)).trans c1_1
 have c2_2:=yU B1 2 (⟨m.kind,m.frm,0,m.view,0,m.prep,⟨0,0⟩,jm⟩:ji);dsimp only at s2;generalize hB2:jQ B1 2 (⟨m.kind,m.frm,0,m.view,0,m.prep,⟨0,0⟩,jm⟩:ji)=B2 at s2  c2_0 c2_1 c2_2;have s3:=dw c2_2 m.index;have sq:=dD (o:=0+4) (x:=(⟨m.kind,m.frm,m.index,m.view,0,m.prep,⟨0,0⟩,jm⟩:ji)) c2_0 (show(0:Nat)≠2 by decide)
 have c3_0:(jQ B2 2 (⟨m.kind,m.frm,m.index,m.view,0,m.prep,⟨0,0⟩,jm⟩:ji)).get 0=some (.cells (fM m) (.own []) 0):=(qg (by decide)).trans c2_0
 have c3_1:(jQ B2 2 (⟨m.kind,m.frm,m.index,m.view,0,m.prep,⟨0,0⟩,jm⟩:ji)).get 1=some (.cells (fM m0) (.own []) 0):=(qg (by decide)).trans c2_1
 have c3_2:=yU B2 2 (⟨m.kind,m.frm,m.index,m.view,0,m.prep,⟨0,0⟩,jm⟩:ji);dsimp only at s3;generalize hB3:jQ B2 2 (⟨m.kind,m.frm,m.index,m.view,0,m.prep,⟨0,0⟩,jm⟩:ji)=B3 at s3 sq c3_0 c3_1 c3_2;have s4:=VN c3_2 m.value;have c4_0:(jQ B3 2 (⟨m.kind,m.frm,m.index,m.view,m.value,m.prep,⟨0,0⟩,jm⟩:ji)).get 0=some (.cells (fM m) (.own []) 0):=(qg (by decide)).trans c3_0
 have c4_1:(jQ B3 2 (⟨m.kind,m.frm,m.index,m.view,m.value,m.prep,⟨0,0⟩,jm⟩:ji)).get 1=some (.cells (fM m0) (.own []) 0):=(qg (by decide)).trans c3_1
 have c4_2:=yU B3 2 (⟨m.kind,m.frm,m.index,m.view,m.value,m.prep,⟨0,0⟩,jm⟩:ji);dsimp only at s4;generalize hB4:jQ B3 2 (⟨m.kind,m.frm,m.index,m.view,m.value,m.prep,⟨0,0⟩,jm⟩:ji)=B4 at s4  c4_0 c4_1 c4_2;have eb:(⟨m.kind,m.frm,m.index,m.view,m.value,m.prep,⟨0,0⟩,jm⟩:ji)=wU m:=by simp[wU,hk]
 rw[eb]at c4_2;have hbk:(wU m).b.k≠2:=by simp[wU,hk]
 have ld:=wO c4_2 hbk;have sl:=vS c4_1 (wU m);have fin:=wO (yU B4 1 (wU m)) hbk;have hcb:(wU m).b.k≤2:=by simp[wU,hk]
 conv at hr=>
  rhs;rw[hTe];simp only[jC.code,jC.rs,jc,reduceIte,zk,zn,zo,zq,yE,a1,a2,jE,jU,jA p0,jV p0,Ky (y0:=.int .i64 m.kind) (y1:=.int .i64 m.frm) rfl rfl,s0,jA b0,wY,s1,wV b0,wP,s2,wG b0,wG c1_0,wM,s3,sq,wo c1_0,wo c2_0,jO c2_0,jX,jX,s4,jO c2_0,jO c3_0,zK (show ¬m.kind=0 by omega),zK (show ¬m.kind=1 by omega),zK (show ¬m.kind=2 by omega),zL hk,WT,ld,sl]
 rw[hTe]at hr;exact jC.runs hr (.inr rfl) fin (all1 (kL hm.b.okl.le)) (kL hcb)
theorem jC.v4 {m:ji}(hm:m.Ok) (hk:m.kind=4) (S:zS):zU zi O jC.id [mv m] S=some (mv (wU m),S):=by
 obtain⟨T,hTe⟩:∃T,T=(mv m::[zh,zh,zh,zh,zh,zh,zh,zh,zh,zh,zh,zh,zh,zh,zh,zh,zh,zh,zh,zh,zh,zh,zh,zh,zh,zh,zh,zh,zh,zh,zh,zh,zh,zh,zh,zh,zh,zh,zh,zh,zh,zh,zh,zh,zh]):=⟨_,rfl⟩;have hr:=Eq.refl (zX zi O false jC.code T zS.empty);obtain⟨A1,hA1⟩:∃A,A=(vw m).push (.cells (fM m0) (.own []) 0):=⟨_,rfl⟩;have a1:wR zi 48 (vw m)=some (.pointer (some ⟨1,0,none⟩),A1):=by rw[hA1];exact Zv _
 have p0:A1.get 0=some (.cells (fM m) (.own []) 0):=by rw[hA1];kernel_rfl
 obtain⟨A2,hA2⟩:∃A,A=A1.push (.cells (fM m0) (.own []) 0):=⟨_,rfl⟩;have a2:wR zi 48 A1=some (.pointer (some ⟨2,0,none⟩),A2):=by rw[hA2,hA1];exact Zv _
 have q0:A2.get 0=some (.cells (fM m) (.own []) 0):=by rw[hA2,hA1];kernel_rfl
 have q1:A2.get 1=some (.cells (fM m0) (.own []) 0):=by rw[hA2,hA1];kernel_rfl
 have q2:A2.get 2=some (.cells (fM m0) (.own []) 0):=by rw[hA2,hA1];kernel_rfl
 have s0:jI zi 48 (.pointer (some ⟨2,0,none⟩)) (.agg [Value.int .i64 m.kind,.int .i64 m.frm,.int .i64 0,.int .i64 0,.int .i64 0,.int .i64 0,.int .i64 0,.int .i64 0,.int .i64 0,.int .i64 0,.int .i64 0,.int .i64 0,.slice none 0 0].toArray) A2=some (zh,jQ A2 2 (⟨m.kind,m.frm,0,0,0,0,⟨0,0⟩,jm⟩:ji)):=vS q2 (⟨m.kind,m.frm,0,0,0,0,⟨0,0⟩,jm⟩:ji);have b0:(jQ A2 2 (⟨m.kind,m.frm,0,0,0,0,⟨0,0⟩,jm⟩:ji)).get 0=some (.cells (fM m) (.own []) 0):=(qg (by decide)).trans q0
 have b1:(jQ A2 2 (⟨m.kind,m.frm,0,0,0,0,⟨0,0⟩,jm⟩:ji)).get 1=some (.cells (fM m0) (.own []) 0):=(qg (by decide)).trans q1
 have b2:=yU A2 2 (⟨m.kind,m.frm,0,0,0,0,⟨0,0⟩,jm⟩:ji);generalize hB0:jQ A2 2 (⟨m.kind,m.frm,0,0,0,0,⟨0,0⟩,jm⟩:ji)=B0 at s0 b0 b1 b2;have s1:=mX b2 m.view;have c1_0:(jQ B0 2 (⟨m.kind,m.frm,0,m.view,0,0,⟨0,0⟩,jm⟩:ji)).get 0=some (.cells (fM m) (.own []) 0):=(qg (by decide)).trans b0
 have c1_1:(jQ B0 2 (⟨m.kind,m.frm,0,m.view,0,0,⟨0,0⟩,jm⟩:ji)).get 1=some (.cells (fM m0) (.own []) 0):=(qg (by decide)).trans b1
 have c1_2:=yU B0 2 (⟨m.kind,m.frm,0,m.view,0,0,⟨0,0⟩,jm⟩:ji);dsimp only at s1;generalize hB1:jQ B0 2 (⟨m.kind,m.frm,0,m.view,0,0,⟨0,0⟩,jm⟩:ji)=B1 at s1  c1_0 c1_1 c1_2;have s2:=dw c1_2 m.index;have sq:=dD (o:=0+4) (x:=(⟨m.kind,m.frm,m.index,m.view,0,0,⟨0,0⟩,jm⟩:ji)) c1_0 (show(0:Nat)≠2 by decide)
 have c2_0:(jQ B1 2 (⟨m.kind,m.frm,m.index,m.view,0,0,⟨0,0⟩,jm⟩:ji)).get 0=some (.cells (fM m) (.own []) 0):=(qg (by decide)).trans c1_0
 have c2_1:(jQ B1 2 (⟨m.kind,m.frm,m.index,m.view,0,0,⟨0,0⟩,jm⟩:ji)).get 1=some (.cells (fM m0) (.own []) 0):=(qg (by decide)).trans c1_1
 have c2_2:=yU B1 2 (⟨m.kind,m.frm,m.index,m.view,0,0,⟨0,0⟩,jm⟩:ji);dsimp only at s2;generalize hB2:jQ B1 2 (⟨m.kind,m.frm,m.index,m.view,0,0,⟨0,0⟩,jm⟩:ji)=B2 at s2 sq c2_0 c2_1 c2_2;have s3:=VN c2_2 m.value;have c3_0:(jQ B2 2 (⟨m.kind,m.frm,m.index,m.view,m.value,0,⟨0,0⟩,jm⟩:ji)).get 0=some (.cells (fM m) (.own []) 0):=(qg (by decide)).trans c2_0
 have c3_1:(jQ B2 2 (⟨m.kind,m.frm,m.index,m.view,m.value,0,⟨0,0⟩,jm⟩:ji)).get 1=some (.cells (fM m0) (.own []) 0):=(qg (by decide)).trans c2_1
 have c3_2:=yU B2 2 (⟨m.kind,m.frm,m.index,m.view,m.value,0,⟨0,0⟩,jm⟩:ji);dsimp only at s3;generalize hB3:jQ B2 2 (⟨m.kind,m.frm,m.index,m.view,m.value,0,⟨0,0⟩,jm⟩:ji)=B3 at s3  c3_0 c3_1 c3_2;have eb:(⟨m.kind,m.frm,m.index,m.view,m.value,0,⟨0,0⟩,jm⟩:ji)=wU m:=by simp[wU,hk]
 rw[eb]at c3_2;have hbk:(wU m).b.k≠2:=by simp[wU,hk]
 have ld:=wO c3_2 hbk;have sl:=vS c3_1 (wU m);have fin:=wO (yU B3 1 (wU m)) hbk;have hcb:(wU m).b.k≤2:=by simp[wU,hk]
 conv at hr=>
  rhs;rw[hTe];simp only[jC.code,jC.rs,jc,reduceIte,zk,zn,zo,zq,yE,a1,a2,jE,jU,jA p0,jV p0,Ky (y0:=.int .i64 m.kind) (y1:=.int .i64 m.frm) rfl rfl,s0,jA b0,wP,s1,wG b0,wM,s2,sq,wo b0,wo c1_0,jO c1_0,jX,jX,s3,jO c1_0,jO c2_0,zK (show ¬m.kind=0 by omega),zK (show ¬m.kind=1 by omega),zK (show ¬m.kind=2 by omega),zK (show ¬m.kind=3 by omega),zL hk,zK (show ¬m.kind=5 by omega),zK (show ¬m.kind=6 by omega),WT,ld,sl]
 rw[hTe]at hr;exact jC.runs hr (.inr rfl) fin (all1 (kL hm.b.okl.le)) (kL hcb)
theorem jC.v5 {m:ji}(hm:m.Ok) (hk:m.kind=5) (S:zS):zU zi O jC.id [mv m] S=some (mv (wU m),S):=by
 obtain⟨T,hTe⟩:∃T,T=(mv m::[zh,zh,zh,zh,zh,zh,zh,zh,zh,zh,zh,zh,zh,zh,zh,zh,zh,zh,zh,zh,zh,zh,zh,zh,zh,zh,zh,zh,zh,zh,zh,zh,zh,zh,zh,zh,zh,zh,zh,zh,zh,zh,zh,zh,zh]):=⟨_,rfl⟩;have hr:=Eq.refl (zX zi O false jC.code T zS.empty);obtain⟨A1,hA1⟩:∃A,A=(vw m).push (.cells (fM m0) (.own []) 0):=⟨_,rfl⟩;have a1:wR zi 48 (vw m)=some (.pointer (some ⟨1,0,none⟩),A1):=by rw[hA1];exact Zv _
 have p0:A1.get 0=some (.cells (fM m) (.own []) 0):=by rw[hA1];kernel_rfl
 obtain⟨A2,hA2⟩:∃A,A=A1.push (.cells (fM m0) (.own []) 0):=⟨_,rfl⟩;have a2:wR zi 48 A1=some (.pointer (some ⟨2,0,none⟩),A2):=by rw[hA2,hA1];exact Zv _
 have q0:A2.get 0=some (.cells (fM m) (.own []) 0):=by rw[hA2,hA1];kernel_rfl
 have q1:A2.get 1=some (.cells (fM m0) (.own []) 0):=by rw[hA2,hA1];kernel_rfl
 have q2:A2.get 2=some (.cells (fM m0) (.own []) 0):=by rw[hA2,hA1];kernel_rfl
 have s0:jI zi 48 (.pointer (some ⟨2,0,none⟩)) (.agg [Value.int .i64 m.kind,.int .i64 m.frm,.int .i64 0,.int .i64 0,.int .i64 0,.int .i64 0,.int .i64 0,.int .i64 0,.int .i64 0,.int .i64 0,.int .i64 0,.int .i64 0,.slice none 0 0].toArray) A2=some (zh,jQ A2 2 (⟨m.kind,m.frm,0,0,0,0,⟨0,0⟩,jm⟩:ji)):=vS q2 (⟨m.kind,m.frm,0,0,0,0,⟨0,0⟩,jm⟩:ji);have b0:(jQ A2 2 (⟨m.kind,m.frm,0,0,0,0,⟨0,0⟩,jm⟩:ji)).get 0=some (.cells (fM m) (.own []) 0):=(qg (by decide)).trans q0
 have b1:(jQ A2 2 (⟨m.kind,m.frm,0,0,0,0,⟨0,0⟩,jm⟩:ji)).get 1=some (.cells (fM m0) (.own []) 0):=(qg (by decide)).trans q1
 have b2:=yU A2 2 (⟨m.kind,m.frm,0,0,0,0,⟨0,0⟩,jm⟩:ji);generalize hB0:jQ A2 2 (⟨m.kind,m.frm,0,0,0,0,⟨0,0⟩,jm⟩:ji)=B0 at s0 b0 b1 b2;have s1:=mX b2 m.view;have c1_0:(jQ B0 2 (⟨m.kind,m.frm,0,m.view,0,0,⟨0,0⟩,jm⟩:ji)).get 0=some (.cells (fM m) (.own []) 0):=(qg (by decide)).trans b0
 have c1_1:(jQ B0 2 (⟨m.kind,m.frm,0,m.view,0,0,⟨0,0⟩,jm⟩:ji)).get 1=some (.cells (fM m0) (.own []) 0):=(qg (by decide)).trans b1
 have c1_2:=yU B0 2 (⟨m.kind,m.frm,0,m.view,0,0,⟨0,0⟩,jm⟩:ji);dsimp only at s1;generalize hB1:jQ B0 2 (⟨m.kind,m.frm,0,m.view,0,0,⟨0,0⟩,jm⟩:ji)=B1 at s1  c1_0 c1_1 c1_2;have s2:=dw c1_2 m.index;have sq:=dD (o:=0+4) (x:=(⟨m.kind,m.frm,m.index,m.view,0,0,⟨0,0⟩,jm⟩:ji)) c1_0 (show(0:Nat)≠2 by decide)
 have c2_0:(jQ B1 2 (⟨m.kind,m.frm,m.index,m.view,0,0,⟨0,0⟩,jm⟩:ji)).get 0=some (.cells (fM m) (.own []) 0):=(qg (by decide)).trans c1_0
 have c2_1:(jQ B1 2 (⟨m.kind,m.frm,m.index,m.view,0,0,⟨0,0⟩,jm⟩:ji)).get 1=some (.cells (fM m0) (.own []) 0):=(qg (by decide)).trans c1_1
 have c2_2:=yU B1 2 (⟨m.kind,m.frm,m.index,m.view,0,0,⟨0,0⟩,jm⟩:ji);dsimp only at s2;generalize hB2:jQ B1 2 (⟨m.kind,m.frm,m.index,m.view,0,0,⟨0,0⟩,jm⟩:ji)=B2 at s2 sq c2_0 c2_1 c2_2;have s3:=VN c2_2 m.value;have c3_0:(jQ B2 2 (⟨m.kind,m.frm,m.index,m.view,m.value,0,⟨0,0⟩,jm⟩:ji)).get 0=some (.cells (fM m) (.own []) 0):=(qg (by decide)).trans c2_0
 have c3_1:(jQ B2 2 (⟨m.kind,m.frm,m.index,m.view,m.value,0,⟨0,0⟩,jm⟩:ji)).get 1=some (.cells (fM m0) (.own []) 0):=(qg (by decide)).trans c2_1
 have c3_2:=yU B2 2 (⟨m.kind,m.frm,m.index,m.view,m.value,0,⟨0,0⟩,jm⟩:ji);dsimp only at s3;generalize hB3:jQ B2 2 (⟨m.kind,m.frm,m.index,m.view,m.value,0,⟨0,0⟩,jm⟩:ji)=B3 at s3  c3_0 c3_1 c3_2;have eb:(⟨m.kind,m.frm,m.index,m.view,m.value,0,⟨0,0⟩,jm⟩:ji)=wU m:=by simp[wU,hk]
 rw[eb]at c3_2;have hbk:(wU m).b.k≠2:=by simp[wU,hk]
 have ld:=wO c3_2 hbk;have sl:=vS c3_1 (wU m);have fin:=wO (yU B3 1 (wU m)) hbk;have hcb:(wU m).b.k≤2:=by simp[wU,hk]
 conv at hr=>
  rhs;rw[hTe];simp only[jC.code,jC.rs,jc,reduceIte,zk,zn,zo,zq,yE,a1,a2,jE,jU,jA p0,jV p0,Ky (y0:=.int .i64 m.kind) (y1:=.int .i64 m.frm) rfl rfl,s0,jA b0,wP,s1,wG b0,wM,s2,sq,wo b0,wo c1_0,jO c1_0,jX,jX,s3,jO c1_0,jO c2_0,zK (show ¬m.kind=0 by omega),zK (show ¬m.kind=1 by omega),zK (show ¬m.kind=2 by omega),zK (show ¬m.kind=3 by omega),zK (show ¬m.kind=4 by omega),zL hk,WT,ld,sl]
 rw[hTe]at hr;exact jC.runs hr (.inr rfl) fin (all1 (kL hm.b.okl.le)) (kL hcb)
theorem jC.v6 {m:ji}(hm:m.Ok) (hk:m.kind=6) (S:zS):zU zi O jC.id [mv m] S=some (mv (wU m),S):=by
 obtain⟨T,hTe⟩:∃T,T=(mv m::[zh,zh,zh,zh,zh,zh,zh,zh,zh,zh,zh,zh,zh,zh,zh,zh,zh,zh,zh,zh,zh,zh,zh,zh,zh,zh,zh,zh,zh,zh,zh,zh,zh,zh,zh,zh,zh,zh,zh,zh,zh,zh,zh,zh,zh]):=⟨_,rfl⟩;have hr:=Eq.refl (zX zi O false jC.code T zS.empty);obtain⟨A1,hA1⟩:∃A,A=(vw m).push (.cells (fM m0) (.own []) 0):=⟨_,rfl⟩;have a1:wR zi 48 (vw m)=some (.pointer (some ⟨1,0,none⟩),A1):=by rw[hA1];exact Zv _
 have p0:A1.get 0=some (.cells (fM m) (.own []) 0):=by rw[hA1];kernel_rfl
 obtain⟨A2,hA2⟩:∃A,A=A1.push (.cells (fM m0) (.own []) 0):=⟨_,rfl⟩;have a2:wR zi 48 A1=some (.pointer (some ⟨2,0,none⟩),A2):=by rw[hA2,hA1];exact Zv _
 have q0:A2.get 0=some (.cells (fM m) (.own []) 0):=by rw[hA2,hA1];kernel_rfl
 have q1:A2.get 1=some (.cells (fM m0) (.own []) 0):=by rw[hA2,hA1];kernel_rfl
 have q2:A2.get 2=some (.cells (fM m0) (.own []) 0):=by rw[hA2,hA1];kernel_rfl
 have s0:jI zi 48 (.pointer (some ⟨2,0,none⟩)) (.agg [Value.int .i64 m.kind,.int .i64 m.frm,.int .i64 0,.int .i64 0,.int .i64 0,.int .i64 0,.int .i64 0,.int .i64 0,.int .i64 0,.int .i64 0,.int .i64 0,.int .i64 0,.slice none 0 0].toArray) A2=some (zh,jQ A2 2 (⟨m.kind,m.frm,0,0,0,0,⟨0,0⟩,jm⟩:ji)):=vS q2 (⟨m.kind,m.frm,0,0,0,0,⟨0,0⟩,jm⟩:ji);have b0:(jQ A2 2 (⟨m.kind,m.frm,0,0,0,0,⟨0,0⟩,jm⟩:ji)).get 0=some (.cells (fM m) (.own []) 0):=(qg (by decide)).trans q0
 have b1:(jQ A2 2 (⟨m.kind,m.frm,0,0,0,0,⟨0,0⟩,jm⟩:ji)).get 1=some (.cells (fM m0) (.own []) 0):=(qg (by decide)).trans q1
 have b2:=yU A2 2 (⟨m.kind,m.frm,0,0,0,0,⟨0,0⟩,jm⟩:ji);generalize hB0:jQ A2 2 (⟨m.kind,m.frm,0,0,0,0,⟨0,0⟩,jm⟩:ji)=B0 at s0 b0 b1 b2;have s1:=dw b2 m.index;have sq:=dD (o:=0+4) (x:=(⟨m.kind,m.frm,m.index,0,0,0,⟨0,0⟩,jm⟩:ji)) b0 (show(0:Nat)≠2 by decide)
 have c1_0:(jQ B0 2 (⟨m.kind,m.frm,m.index,0,0,0,⟨0,0⟩,jm⟩:ji)).get 0=some (.cells (fM m) (.own []) 0):=(qg (by decide)).trans b0
 have c1_1:(jQ B0 2 (⟨m.kind,m.frm,m.index,0,0,0,⟨0,0⟩,jm⟩:ji)).get 1=some (.cells (fM m0) (.own []) 0):=(qg (by decide)).trans b1
 have c1_2:=yU B0 2 (⟨m.kind,m.frm,m.index,0,0,0,⟨0,0⟩,jm⟩:ji);dsimp only at s1;generalize hB1:jQ B0 2 (⟨m.kind,m.frm,m.index,0,0,0,⟨0,0⟩,jm⟩:ji)=B1 at s1 sq c1_0 c1_1 c1_2;have s2:=VN c1_2 m.value;have c2_0:(jQ B1 2 (⟨m.kind,m.frm,m.index,0,m.value,0,⟨0,0⟩,jm⟩:ji)).get 0=some (.cells (fM m) (.own []) 0):=(qg (by decide)).trans c1_0
 have c2_1:(jQ B1 2 (⟨m.kind,m.frm,m.index,0,m.value,0,⟨0,0⟩,jm⟩:ji)).get 1=some (.cells (fM m0) (.own []) 0):=(qg (by decide)).trans c1_1
 have c2_2:=yU B1 2 (⟨m.kind,m.frm,m.index,0,m.value,0,⟨0,0⟩,jm⟩:ji);dsimp only at s2;generalize hB2:jQ B1 2 (⟨m.kind,m.frm,m.index,0,m.value,0,⟨0,0⟩,jm⟩:ji)=B2 at s2  c2_0 c2_1 c2_2;have eb:(⟨m.kind,m.frm,m.index,0,m.value,0,⟨0,0⟩,jm⟩:ji)=wU m:=by simp[wU,hk]
 rw[eb]at c2_2;have hbk:(wU m).b.k≠2:=by simp[wU,hk]
 have ld:=wO c2_2 hbk;have sl:=vS c2_1 (wU m);have fin:=wO (yU B2 1 (wU m)) hbk;have hcb:(wU m).b.k≤2:=by simp[wU,hk]
 conv at hr=>
  rhs;rw[hTe];simp only[jC.code,jC.rs,jc,reduceIte,zk,zn,zo,zq,yE,a1,a2,jE,jU,jA p0,jV p0,Ky (y0:=.int .i64 m.kind) (y1:=.int .i64 m.frm) rfl rfl,s0,jA b0,wM,s1,sq,wo b0,jO b0,jX,jX,s2,jO b0,jO c1_0,zK (show ¬m.kind=0 by omega),zK (show ¬m.kind=1 by omega),zK (show ¬m.kind=2 by omega),zK (show ¬m.kind=3 by omega),zK (show ¬m.kind=4 by omega),zK (show ¬m.kind=5 by omega),zL hk,WT,ld,sl]
 rw[hTe]at hr;exact jC.runs hr (.inr rfl) fin (all1 (kL hm.b.okl.le)) (kL hcb)
theorem jC.v {m:ji}(hm:m.Ok) (h0:0≤m.kind) (h6:m.kind≤6) (S:zS):zU zi O jC.id [mv m] S=some (mv (wU m),S):=by
 have:m.kind=0∨m.kind=1∨m.kind=2∨m.kind=3∨m.kind=4∨m.kind=5∨m.kind=6:=by omega
 rcases this with h |h |h |h |h |h |h
 ·exact jC.v0 hm h S
 ·exact jC.v1 hm h S
 ·exact jC.v2 hm h S
 ·exact jC.v3 hm h S
 ·exact jC.v4 hm h S
 ·exact jC.v5 hm h S
 ·exact jC.v6 hm h S
end Go.Proofs.Ytfjogganfjkckaa
namespace Go.Abs
open Go.RowKit
def gv (x b:Bool) (v:zu):zu:=if x=b then v else zh
theorem Bj (x b:Bool) (v:zu):zQ (gv x b v)=gv x b (zQ v):=by
 unfold gv;split
 ·rfl
 ·exact gU
theorem iM {R:Type}{K:zu→zS→Option R}{p:yw K}{m:M zu}{S:zS}(x b:Bool):zY (.bool x) b m S K p=if x=b then zT (m S) K p else K zh S:=by
 cases x<;>cases b<;>rfl
section
variable {R:Type}{K:zu→zS→Option R}{p:yw K}{S:zS}{x b c y z:Bool}{m m':M zu}{P:Program}{O:J9} {t:TypeId}{v w u:zu}
theorem Jo (h:x=b→m S=m' S):zY (.bool x) b m S K p=zY (.bool x) b m' S K p:=by
 rw[iM,iM];split
 ·rename_i hx;rw[h hx]
 ·rfl
theorem zV (h:m S=some (v,S)):zY (.bool x) b m S K p=K (gv x b v) S:=by
 rw[iM];unfold gv;split
 ·rw[h];rfl
 ·rfl
theorem QC (h:m S=some (v,S)) (hq:kQ 3 v=true):Y7 (.bool x) b m S K p=K (gv x b v) S:=by
 unfold gv;cases x<;>cases b<;>first |rfl |(simp only[iL,iK,h,fC,qy hq,if_true])
theorem Jp (h:x=b):gv x b v=v:=zN h
theorem Az {fx:Bool}:zY (.bool x) b (zZ P fx t (gv x b v)) S K p=zY (.bool x) b (zZ P fx t v) S K p:=Jo fun h=>by rw[Jp h]
theorem Am {f:Nat}:zY (.bool x) b (jf P t (gv x b v) f) S K p=zY (.bool x) b (jf P t v f) S K p:=Jo fun h=>by rw[Jp h]
theorem AA :zY (.bool x) b (WA (gv x b v)) S K p=zY (.bool x) b (WA v) S K p:=Jo fun h=>by rw[Jp h]
theorem Aw :zY (.bool x) b (yK P t (gv x b v)) S K p=zY (.bool x) b (yK P t v) S K p:=Jo fun h=>by rw[Jp h]
theorem Ar :zY (.bool x) b (jZ P t (gv x b v) w) S K p=zY (.bool x) b (jZ P t v w) S K p:=Jo fun h=>by rw[Jp h]
theorem Au :zY (.bool x) b (jZ P t v (gv x b w)) S K p=zY (.bool x) b (jZ P t v w) S K p:=Jo fun h=>by rw[Jp h]
theorem AP {op:UnOp}:zY (.bool x) b (qo P op (gv x b v)) S K p=zY (.bool x) b (qo P op v) S K p:=Jo fun h=>by rw[Jp h]
theorem Aj {hp dr:Bool}{t2:TypeId}:zY (.bool x) b (qB P hp dr t t2 (gv x b v)) S K p=zY (.bool x) b (qB P hp dr t t2 v) S K p:=Jo fun h=>by rw[Jp h]
theorem Ad {op:BinOp}:zY (.bool x) b (jd P op t (gv x b v) w) S K p=zY (.bool x) b (jd P op t v w) S K p:=Jo fun h=>by rw[Jp h]
theorem Ae {op:BinOp}:zY (.bool x) b (jd P op t v (gv x b w)) S K p=zY (.bool x) b (jd P op t v w) S K p:=Jo fun h=>by rw[Jp h]
theorem Af {g:FuncId}{l:List zu}:zY (.bool x) b (zU P O g (gv x b v::l)) S K p=zY (.bool x) b (zU P O g (v::l)) S K p:=Jo fun h=>by rw[Jp h]
theorem Ag {g:FuncId}{l:List zu}:zY (.bool x) b (zU P O g (u::gv x b v::l)) S K p=zY (.bool x) b (zU P O g (u::v::l)) S K p:=Jo fun h=>by rw[Jp h]
theorem Ah {g:FuncId}{l:List zu}:zY (.bool x) b (qN (zU P O) g (gv x b v::l)) S K p=zY (.bool x) b (qN (zU P O) g (v::l)) S K p:=Jo fun h=>by rw[Jp h]
theorem Ai {g:FuncId}{l:List zu}:zY (.bool x) b (qN (zU P O) g (u::gv x b v::l)) S K p=zY (.bool x) b (qN (zU P O) g (u::v::l)) S K p:=Jo fun h=>by rw[Jp h]
theorem AB :zY (.bool x) b (ret v) S K p=K (gv x b v) S:=zV rfl
theorem Bq :gv x b (gv x b v)=gv x b v:=by unfold gv;split<;>rfl
theorem Aq :zY (gv x c (.bool y)) b m S K p=zY (.bool ((x==c)&&(y==b))) true m S K p:=by
 unfold gv;cases x<;>cases c<;>cases y<;>cases b<;>rfl
theorem BF {fx:Bool}:zY (.bool ((x==c)&&(y==b))) true (zZ P fx t (gv x c v)) S K p=zY (.bool ((x==c)&&(y==b))) true (zZ P fx t v) S K p:=Jo fun h=>by rw[Jp (by simp at h;exact h.1)]
theorem BA {op:BinOp}:zY (.bool ((x==c)&&(y==b))) true (jd P op t (gv x c v) w) S K p=zY (.bool ((x==c)&&(y==b))) true (jd P op t v w) S K p:=Jo fun h=>by rw[Jp (by simp at h;exact h.1)]
theorem BD {op:BinOp}:zY (.bool ((x==c)&&(y==b))) true (jd P op t v (gv x c w)) S K p=zY (.bool ((x==c)&&(y==b))) true (jd P op t v w) S K p:=Jo fun h=>by rw[Jp (by simp at h;exact h.1)]
theorem D5 :zY (.bool x) c (jH (gv x c (.bool y)) (.bool true) (gv ((x==c)&&(y==false)) true (.bool z))) S K p=K (gv x c (.bool (y ||z))) S:=by
 unfold gv;cases x<;>cases c<;>cases y<;>cases z<;>rfl
theorem DZ :zY (.bool x) c (jH (gv x c (.bool y)) (gv ((x==c)&&(y==true)) true (.bool z)) (.bool false)) S K p=K (gv x c (.bool (y&&z))) S:=by
 unfold gv;cases x<;>cases c<;>cases y<;>cases z<;>rfl
theorem DY :(if x=true then Value.bool true else gv x false (.bool y))=.bool (x ||y):=by cases x<;>rfl
theorem DX :(if x=true then gv x true (.bool y)else Value.bool false)=.bool (x&&y):=by cases x<;>rfl
theorem Bz :gv true true v=v:=rfl
theorem Bl :gv false false v=v:=rfl
theorem Bv :gv true false v=zh:=rfl
theorem Bo :gv false true v=zh:=rfl
theorem Ba {k:IntKind}{a d:Int}:zY (.bool x) b (jd P .lss t (.int k a) (.int k d)) S K p=K (gv x b (.bool (decide (a<d)))) S:=zV (eF k a d)
theorem A8 {k:IntKind}{a d:Int}:zY (.bool x) b (jd P .leq t (.int k a) (.int k d)) S K p=K (gv x b (.bool (decide (a≤d)))) S:=zV (eu k a d)
theorem AZ {k:IntKind}{a d:Int}:zY (.bool x) b (jd P .gtr t (.int k a) (.int k d)) S K p=K (gv x b (.bool (decide (d<a)))) S:=zV (dZ k a d)
theorem AY {k:IntKind}{a d:Int}:zY (.bool x) b (jd P .geq t (.int k a) (.int k d)) S K p=K (gv x b (.bool (decide (d≤a)))) S:=zV (dY k a d)
theorem AX {k:IntKind}{a d:Int}:zY (.bool x) b (jd P .eql t (.int k a) (.int k d)) S K p=K (gv x b (.bool (decide (a=d)))) S:=zV (dX k a d)
theorem Bc {k:IntKind}{a d:Int}:zY (.bool x) b (jd P .neq t (.int k a) (.int k d)) S K p=K (gv x b (.bool (!decide (a=d)))) S:=zV (eG k a d)
theorem AV {k:IntKind}{a d:Int}:zY (.bool x) b (jd P .add t (.int k a) (.int k d)) S K p=K (gv x b (.int k (k.wrap (a+d)))) S:=zV (dW k a d)
theorem Bf {k:IntKind}{a d:Int}:zY (.bool x) b (jd P .sub t (.int k a) (.int k d)) S K p=K (gv x b (.int k (k.wrap (a-d)))) S:=zV (eU k a d)
theorem Bd :zY (.bool x) b (qo P .not (.bool y)) S K p=K (gv x b (.bool (!y))) S:=zV (by cases y<;>rfl)
end
theorem kY :type_of% (zJ @Bj (zJ @Az (zJ @Am (zJ @AA (zJ @Aw (zJ @Ar (zJ @Au (zJ @AP (zJ @Aj (zJ @Ad (zJ @Ae (zJ @Af (zJ @Ag (zJ @Ah (zJ @Ai (zJ @AB (zJ @Bq (zJ @Aq (zJ @BF (zJ @BA (zJ @BD (zJ @D5 (zJ @DZ (zJ @DY (zJ @DX (zJ @Bz (zJ @Bl (zJ @Bv (zJ @Bo (zJ @Ba (zJ @A8 (zJ @AZ (zJ @AY (zJ @AX (zJ @Bc (zJ @AV (zJ @Bf @Bd))))))))))))))))))))))))))))))))))))) :=
 zJ @Bj (zJ @Az (zJ @Am (zJ @AA (zJ @Aw (zJ @Ar (zJ @Au (zJ @AP (zJ @Aj (zJ @Ad (zJ @Ae (zJ @Af (zJ @Ag (zJ @Ah (zJ @Ai (zJ @AB (zJ @Bq (zJ @Aq (zJ @BF (zJ @BA (zJ @BD (zJ @D5 (zJ @DZ (zJ @DY (zJ @DX (zJ @Bz (zJ @Bl (zJ @Bv (zJ @Bo (zJ @Ba (zJ @A8 (zJ @AZ (zJ @AY (zJ @AX (zJ @Bc (zJ @AV (zJ @Bf @Bd))))))))))))))))))))))))))))))))))))
end Go.Abs
namespace Go.Proofs.Ytfjogganfjkckaa
open Go.Abs
def nameB (n:Int):Bool:=decide (n=0) ||Zq n
theorem Px {n:Int}(h:n<0):Zq n=false:=by
 rw[Bool.eq_false_iff];intro h2;have:=YK.1 h2;omega
theorem Uy (n:Int):decide (0<Ql n)=Zq n:=by
 rw[Bool.eq_iff_iff,decide_eq_true_eq];unfold Ql;constructor
 ·intro h;split at h
  ·assumption
  ·omega
 ·intro h;have:=YK.1 h;rw[zN h];omega
theorem xK.v {n:Int}(hn:n<9223372036854775808) (S:zS):zU zi O xK.id [.int .i64 n] S=some (.bool (nameB n),S):=by
 obtain⟨T,hTe⟩:∃T,T=(.int .i64 n::[zh,zh,zh,zh,zh,zh,zh,zh,zh,zh,zh,zh,zh,zh,zh,zh,zh,zh]):=⟨_,rfl⟩;have hr:=Eq.refl (zX zi O false xK.code T S);have c1:=fun S=>qP.v n hn S
 obtain⟨a,b,c,e⟩:∃a b c,Vz n=.tuple #[.int .i64 a,.int .i64 b,.int .i64 c,.bool (Zq n)]:=by
  unfold Vz;by_cases h:n<0
  ·exact⟨0,0,0,by rw[zN h,Px h]⟩
  ·exact⟨_,_,_,by rw[zM h]⟩
 rw[e]at c1;unfold nameB;conv at hr=>
  rhs;rw[hTe];simp only[xK.code,xK.rs,jc,reduceIte,zk,zn,zo,zq,c1,kY]
 rw[hTe]at hr;exact xK.runs hr (.inr rfl)
theorem vN.v {b:jR}(hb:b.Ok) (S:zS):zU zi O vN.id [bv b] S=some (.bool (vG b jm),S):=by
 obtain⟨T,hTe⟩:∃T,T=(bv b::[zh,zh,zh,zh,zh]):=⟨_,rfl⟩;have hr:=Eq.refl (zX zi O false vN.code T zS.empty);have c1:∀S,zU zi O 18 [bv b,.agg [Value.int .i64 0,.int .i64 0,.int .i64 0,.int .i64 0,.slice none 0 0].toArray] S=some (.bool (vG b jm),S):=fun S=>kZ.v hb ok0 S
 conv at hr=>
  rhs;rw[hTe];simp only[vN.code,vN.rs,jc,reduceIte,zk,zn,zo,zq,qM,vM (xC b) hb.ne,fD,c1]
 rw[hTe]at hr;exact vN.runs hr (.inr rfl) (all1 (qR hb.okl.le)) rfl
def Z8 (m:ji):Bool:=((!decide (m.kind=0) && !decide (m.tx=⟨0,0⟩)) ||(!decide (m.kind=1) && !vG m.b jm)) ||(!decide (m.kind=3) && !decide (m.prep=0))
def Jd (m:ji):Bool:=decide (0≤m.index)&&decide (m.index≤1000)
def Ju (m:ji):Bool:=decide (0≤m.view)&&decide (m.view≤1000)
def vX (m:ji):Bool :=
 if m.kind=0 then((decide (m.index=0)&&decide (m.view=0))&&decide (m.value=0))&&qG m.tx
 else if m.kind=1 then((decide (m.index=0)&&decide (m.view=0))&&decide (m.value=0))&&jP m.b
 else if m.kind=2 then(decide (m.index=0)&&decide (m.view=0))&&nameB m.value
 else if m.kind=3 then((((Jd m)&&(Ju m))&&nameB m.value)&&decide (-1≤m.prep))&&decide (m.prep<m.view)
 else if m.kind=4∨m.kind=5 then((Jd m)&&(Ju m))&&(decide (m.value=-1) ||nameB m.value)
 else if m.kind=6 then((Jd m)&&decide (m.view=0))&&nameB m.value
 else false
def ZV (m:ji):Bool:=if decide (m.frm<0) ||decide (6<m.frm)then false else if Z8 m then false else vX m
theorem Q7 (t u:jG) (S:zS):jd zi .neq 43 (tv t) (tv u) S=some (.bool (!decide (t=u)),S):=(aP t u S).2
theorem jo.v0 {m:ji}(hm:m.Ok) (hk:m.kind=0) (S:zS):zU zi O jo.id [mv m] S=some (.bool (ZV m),S):=by
 obtain⟨T,hTe⟩:∃T,T=(mv m::zh::zh::zh::zh::zh::zh::zh::zh::zh::zh::zh::zh::zh::zh::zh::zh::zh::zh::zh::zh::zh::zh::zh::zh::zh::zh::zh::zh::zh::zh::zh::zh::zh::zh::zh::zh::zh::zh::zh::zh::zh::zh::zh::zh::zh::zh::zh::zh::zh::zh::zh::zh::zh::zh::zh::zh::zh::zh::zh::zh::zh::zh::zh::zh::zh::zh::zh::zh::zh::zh::zh::zh::zh::zh::zh::zh::zh::zh::zh::zh::zh::zh::zh::zh::zh::zh::zh::zh::zh::zh::zh::zh::zh::zh::zh::zh::zh::zh::zh::zh::zh::zh::zh::zh::zh::zh::zh::zh::[zh,zh,zh,zh,zh,zh,zh,zh,zh,zh,zh,zh,zh,zh,zh,zh,zh,zh,zh,zh,zh,zh,zh,zh,zh,zh,zh,zh,zh,zh,zh,zh,zh,zh,zh,zh,zh,zh,zh,zh,zh,zh,zh,zh,zh,zh,zh,zh,zh,zh,zh,zh,zh,zh,zh,zh,zh,zh,zh,zh]):=⟨_,rfl⟩;have hr:=Eq.refl (zX zi O false jo.code T zS.empty);have g0:=JV m;have c1:=fun S=>vN.v hm.b S
 have c2:=fun S=>xK.v hm.value.2 S
 have c3:=fun S=>xE.v m.tx S
 have c4:=fun S=>wB.v hm.b S
 have hc:[mv m].all (jw 16)=true:=all1 (kL hm.b.okl.le);have eT:∀S,jd zi .neq 43 (tv m.tx) (.agg [Value.int .i64 0,.int .i64 0].toArray) S=some (.bool (!decide (m.tx=⟨0,0⟩)),S):=fun S=>Q7 m.tx ⟨0,0⟩ S
 have k0:decide (m.kind=0)=true:=zL hk;have k1:decide (m.kind=1)=false:=zK (by omega)
 have k2:decide (m.kind=2)=false:=zK (by omega)
 have k3:decide (m.kind=3)=false:=zK (by omega)
 have k4:decide (m.kind=4)=false:=zK (by omega)
 have k5:decide (m.kind=5)=false:=zK (by omega)
 have k6:decide (m.kind=6)=false:=zK (by omega)
 have ek:vX m=(((decide (m.index=0)&&decide (m.view=0))&&decide (m.value=0))&&qG m.tx):=by simp only[vX,hk,Jd,Ju,zn,if_true,if_false,reduceIte,or_true,true_or,or_false,or_self]
 unfold ZV;rw[ek];obtain⟨c,hc0⟩:∃b,(decide (m.frm<0) ||decide (6<m.frm))=b:=⟨_,rfl⟩;obtain⟨d,hd⟩:∃b,Z8 m=b:=⟨_,rfl⟩;have hd2:=hd;unfold Z8 at hd2;simp only[k0,k1,k2,k3,k4,k5,k6,Bool.not_true,Bool.not_false,Bool.true_and,Bool.false_and,Bool.or_false,Bool.false_or]at hd2;rw[hc0,hd];cases c
 ·cases d
  ·simp only[zF,if_false];conv at hr=>
    rhs;rw[hTe];simp only[jo.code,jo.rs,jc,reduceIte,zk,zn,zo,zq,yE,jE,jU,wM,wP,jX,wY,wQ,wz,jA g0,jV g0,wo g0,wG g0,jO g0,wV g0,wX g0,wL g0 hm.b.ne,yR,eT,c1,c2,c3,c4,zV (jE _ _ _),zV (jU _ _ _),zV (wM _ _ _),zV (wP _ _ _),zV (jX _ _ _),zV (wY _ _ _),zV (wQ _ _ _),zV (wz _ _ _),zV (jA g0),zV (jV g0),zV (wo g0),zV (wG g0),zV (jO g0),zV (wV g0),zV (wX g0),zV (wL g0 hm.b.ne),zV (yR _),zV (eT _),zV (c1 _),zV (c2 _),zV (c3 _),zV (c4 _),kY,k0,k1,k2,k3,k4,k5,k6,hc0,hd2,Bool.not_true,Bool.not_false,Bool.true_and,Bool.false_and,Bool.or_false,Bool.false_or]
   rw[hTe]at hr;exact jo.runs hr (.inr rfl) hc rfl
  ·simp only[zF,if_false,if_true];conv at hr=>
    rhs;rw[hTe];simp only[jo.code,jo.rs,jc,reduceIte,zk,zn,zo,zq,yE,jE,jU,wM,wP,jX,wY,wQ,wz,jA g0,jV g0,wo g0,wG g0,jO g0,wV g0,wX g0,wL g0 hm.b.ne,yR,eT,c1,c2,c3,c4,zV (jE _ _ _),zV (jU _ _ _),zV (wM _ _ _),zV (wP _ _ _),zV (jX _ _ _),zV (wY _ _ _),zV (wQ _ _ _),zV (wz _ _ _),zV (jA g0),zV (jV g0),zV (wo g0),zV (wG g0),zV (jO g0),zV (wV g0),zV (wX g0),zV (wL g0 hm.b.ne),zV (yR _),zV (eT _),zV (c1 _),zV (c2 _),zV (c3 _),zV (c4 _),kY,k0,k1,k2,k3,k4,k5,k6,hc0,hd2,Bool.not_true,Bool.not_false,Bool.true_and,Bool.false_and,Bool.or_false,Bool.false_or]
   rw[hTe]at hr;exact jo.runs hr (.inr rfl) hc rfl
 ·simp only[if_true];conv at hr=>
   rhs;rw[hTe];simp only[jo.code,jo.rs,jc,reduceIte,zk,zn,zo,zq,yE,jE,jU,wM,wP,jX,wY,wQ,wz,jA g0,jV g0,wo g0,wG g0,jO g0,wV g0,wX g0,wL g0 hm.b.ne,yR,eT,c1,c2,c3,c4,zV (jE _ _ _),zV (jU _ _ _),zV (wM _ _ _),zV (wP _ _ _),zV (jX _ _ _),zV (wY _ _ _),zV (wQ _ _ _),zV (wz _ _ _),zV (jA g0),zV (jV g0),zV (wo g0),zV (wG g0),zV (jO g0),zV (wV g0),zV (wX g0),zV (wL g0 hm.b.ne),zV (yR _),zV (eT _),zV (c1 _),zV (c2 _),zV (c3 _),zV (c4 _),kY,k0,k1,k2,k3,k4,k5,k6,hc0]
  rw[hTe]at hr;exact jo.runs hr (.inr rfl) hc rfl
theorem jo.v1 {m:ji}(hm:m.Ok) (hk:m.kind=1) (S:zS):zU zi O jo.id [mv m] S=some (.bool (ZV m),S):=by
 obtain⟨T,hTe⟩:∃T,T=(mv m::zh::zh::zh::zh::zh::zh::zh::zh::zh::zh::zh::zh::zh::zh::zh::zh::zh::zh::zh::zh::zh::zh::zh::zh::zh::zh::zh::zh::zh::zh::zh::zh::zh::zh::zh::zh::zh::zh::zh::zh::zh::zh::zh::zh::zh::zh::zh::zh::zh::zh::zh::zh::zh::zh::zh::zh::zh::zh::zh::zh::zh::zh::zh::zh::zh::zh::zh::zh::zh::zh::zh::zh::zh::zh::zh::zh::zh::zh::zh::zh::zh::zh::zh::zh::zh::zh::zh::zh::zh::zh::zh::zh::zh::zh::zh::zh::zh::zh::zh::zh::zh::zh::zh::zh::zh::zh::zh::zh::[zh,zh,zh,zh,zh,zh,zh,zh,zh,zh,zh,zh,zh,zh,zh,zh,zh,zh,zh,zh,zh,zh,zh,zh,zh,zh,zh,zh,zh,zh,zh,zh,zh,zh,zh,zh,zh,zh,zh,zh,zh,zh,zh,zh,zh,zh,zh,zh,zh,zh,zh,zh,zh,zh,zh,zh,zh,zh,zh,zh]):=⟨_,rfl⟩;have hr:=Eq.refl (zX zi O false jo.code T zS.empty);have g0:=JV m;have c1:=fun S=>vN.v hm.b S
 have c2:=fun S=>xK.v hm.value.2 S
 have c3:=fun S=>xE.v m.tx S
 have c4:=fun S=>wB.v hm.b S
 have hc:[mv m].all (jw 16)=true:=all1 (kL hm.b.okl.le);have eT:∀S,jd zi .neq 43 (tv m.tx) (.agg [Value.int .i64 0,.int .i64 0].toArray) S=some (.bool (!decide (m.tx=⟨0,0⟩)),S):=fun S=>Q7 m.tx ⟨0,0⟩ S
 have k0:decide (m.kind=0)=false:=zK (by omega)
 have k1:decide (m.kind=1)=true:=zL hk;have k2:decide (m.kind=2)=false:=zK (by omega)
 have k3:decide (m.kind=3)=false:=zK (by omega)
 have k4:decide (m.kind=4)=false:=zK (by omega)
 have k5:decide (m.kind=5)=false:=zK (by omega)
 have k6:decide (m.kind=6)=false:=zK (by omega)
 have ek:vX m=(((decide (m.index=0)&&decide (m.view=0))&&decide (m.value=0))&&jP m.b):=by simp only[vX,hk,Jd,Ju,zn,if_true,if_false,reduceIte,or_true,true_or,or_false,or_self]
 unfold ZV;rw[ek];obtain⟨c,hc0⟩:∃b,(decide (m.frm<0) ||decide (6<m.frm))=b:=⟨_,rfl⟩;obtain⟨d,hd⟩:∃b,Z8 m=b:=⟨_,rfl⟩;have hd2:=hd;unfold Z8 at hd2;simp only[k0,k1,k2,k3,k4,k5,k6,Bool.not_true,Bool.not_false,Bool.true_and,Bool.false_and,Bool.or_false,Bool.false_or]at hd2;rw[hc0,hd];cases c
 ·cases d
  ·simp only[zF,if_false];conv at hr=>
    rhs;rw[hTe];simp only[jo.code,jo.rs,jc,reduceIte,zk,zn,zo,zq,yE,jE,jU,wM,wP,jX,wY,wQ,wz,jA g0,jV g0,wo g0,wG g0,jO g0,wV g0,wX g0,wL g0 hm.b.ne,yR,eT,c1,c2,c3,c4,zV (jE _ _ _),zV (jU _ _ _),zV (wM _ _ _),zV (wP _ _ _),zV (jX _ _ _),zV (wY _ _ _),zV (wQ _ _ _),zV (wz _ _ _),zV (jA g0),zV (jV g0),zV (wo g0),zV (wG g0),zV (jO g0),zV (wV g0),zV (wX g0),zV (wL g0 hm.b.ne),zV (yR _),zV (eT _),zV (c1 _),zV (c2 _),zV (c3 _),zV (c4 _),kY,k0,k1,k2,k3,k4,k5,k6,hc0,hd2,Bool.not_true,Bool.not_false,Bool.true_and,Bool.false_and,Bool.or_false,Bool.false_or]
   rw[hTe]at hr;exact jo.runs hr (.inr rfl) hc rfl
  ·simp only[zF,if_false,if_true];conv at hr=>
    rhs;rw[hTe];simp only[jo.code,jo.rs,jc,reduceIte,zk,zn,zo,zq,yE,jE,jU,wM,wP,jX,wY,wQ,wz,jA g0,jV g0,wo g0,wG g0,jO g0,wV g0,wX g0,wL g0 hm.b.ne,yR,eT,c1,c2,c3,c4,zV (jE _ _ _),zV (jU _ _ _),zV (wM _ _ _),zV (wP _ _ _),zV (jX _ _ _),zV (wY _ _ _),zV (wQ _ _ _),zV (wz _ _ _),zV (jA g0),zV (jV g0),zV (wo g0),zV (wG g0),zV (jO g0),zV (wV g0),zV (wX g0),zV (wL g0 hm.b.ne),zV (yR _),zV (eT _),zV (c1 _),zV (c2 _),zV (c3 _),zV (c4 _),kY,k0,k1,k2,k3,k4,k5,k6,hc0,hd2,Bool.not_true,Bool.not_false,Bool.true_and,Bool.false_and,Bool.or_false,Bool.false_or]
   rw[hTe]at hr;exact jo.runs hr (.inr rfl) hc rfl
 ·simp only[if_true];conv at hr=>
   rhs;rw[hTe];simp only[jo.code,jo.rs,jc,reduceIte,zk,zn,zo,zq,yE,jE,jU,wM,wP,jX,wY,wQ,wz,jA g0,jV g0,wo g0,wG g0,jO g0,wV g0,wX g0,wL g0 hm.b.ne,yR,eT,c1,c2,c3,c4,zV (jE _ _ _),zV (jU _ _ _),zV (wM _ _ _),zV (wP _ _ _),zV (jX _ _ _),zV (wY _ _ _),zV (wQ _ _ _),zV (wz _ _ _),zV (jA g0),zV (jV g0),zV (wo g0),zV (wG g0),zV (jO g0),zV (wV g0),zV (wX g0),zV (wL g0 hm.b.ne),zV (yR _),zV (eT _),zV (c1 _),zV (c2 _),zV (c3 _),zV (c4 _),kY,k0,k1,k2,k3,k4,k5,k6,hc0]
  rw[hTe]at hr;exact jo.runs hr (.inr rfl) hc rfl
theorem jo.v2 {m:ji}(hm:m.Ok) (hk:m.kind=2) (S:zS):zU zi O jo.id [mv m] S=some (.bool (ZV m),S):=by
 obtain⟨T,hTe⟩:∃T,T=(mv m::zh::zh::zh::zh::zh::zh::zh::zh::zh::zh::zh::zh::zh::zh::zh::zh::zh::zh::zh::zh::zh::zh::zh::zh::zh::zh::zh::zh::zh::zh::zh::zh::zh::zh::zh::zh::zh::zh::zh::zh::zh::zh::zh::zh::zh::zh::zh::zh::zh::zh::zh::zh::zh::zh::zh::zh::zh::zh::zh::zh::zh::zh::zh::zh::zh::zh::zh::zh::zh::zh::zh::zh::zh::zh::zh::zh::zh::zh::zh::zh::zh::zh::zh::zh::zh::zh::zh::zh::zh::zh::zh::zh::zh::zh::zh::zh::zh::zh::zh::zh::zh::zh::zh::zh::zh::zh::zh::zh::[zh,zh,zh,zh,zh,zh,zh,zh,zh,zh,zh,zh,zh,zh,zh,zh,zh,zh,zh,zh,zh,zh,zh,zh,zh,zh,zh,zh,zh,zh,zh,zh,zh,zh,zh,zh,zh,zh,zh,zh,zh,zh,zh,zh,zh,zh,zh,zh,zh,zh,zh,zh,zh,zh,zh,zh,zh,zh,zh,zh]):=⟨_,rfl⟩;have hr:=Eq.refl (zX zi O false jo.code T zS.empty);have g0:=JV m;have c1:=fun S=>vN.v hm.b S
 have c2:=fun S=>xK.v hm.value.2 S
 have c3:=fun S=>xE.v m.tx S
 have c4:=fun S=>wB.v hm.b S
 have hc:[mv m].all (jw 16)=true:=all1 (kL hm.b.okl.le);have eT:∀S,jd zi .neq 43 (tv m.tx) (.agg [Value.int .i64 0,.int .i64 0].toArray) S=some (.bool (!decide (m.tx=⟨0,0⟩)),S):=fun S=>Q7 m.tx ⟨0,0⟩ S
 have k0:decide (m.kind=0)=false:=zK (by omega)
 have k1:decide (m.kind=1)=false:=zK (by omega)
 have k2:decide (m.kind=2)=true:=zL hk;have k3:decide (m.kind=3)=false:=zK (by omega)
 have k4:decide (m.kind=4)=false:=zK (by omega)
 have k5:decide (m.kind=5)=false:=zK (by omega)
 have k6:decide (m.kind=6)=false:=zK (by omega)
 have ek:vX m=((decide (m.index=0)&&decide (m.view=0))&&nameB m.value):=by simp only[vX,hk,Jd,Ju,zn,if_true,if_false,reduceIte,or_true,true_or,or_false,or_self]
 unfold ZV;rw[ek];obtain⟨c,hc0⟩:∃b,(decide (m.frm<0) ||decide (6<m.frm))=b:=⟨_,rfl⟩;obtain⟨d,hd⟩:∃b,Z8 m=b:=⟨_,rfl⟩;have hd2:=hd;unfold Z8 at hd2;simp only[k0,k1,k2,k3,k4,k5,k6,Bool.not_true,Bool.not_false,Bool.true_and,Bool.false_and,Bool.or_false,Bool.false_or]at hd2;rw[hc0,hd];cases c
 ·cases d
  ·simp only[zF,if_false];conv at hr=>
    rhs;rw[hTe];simp only[jo.code,jo.rs,jc,reduceIte,zk,zn,zo,zq,yE,jE,jU,wM,wP,jX,wY,wQ,wz,jA g0,jV g0,wo g0,wG g0,jO g0,wV g0,wX g0,wL g0 hm.b.ne,yR,eT,c1,c2,c3,c4,zV (jE _ _ _),zV (jU _ _ _),zV (wM _ _ _),zV (wP _ _ _),zV (jX _ _ _),zV (wY _ _ _),zV (wQ _ _ _),zV (wz _ _ _),zV (jA g0),zV (jV g0),zV (wo g0),zV (wG g0),zV (jO g0),zV (wV g0),zV (wX g0),zV (wL g0 hm.b.ne),zV (yR _),zV (eT _),zV (c1 _),zV (c2 _),zV (c3 _),zV (c4 _),kY,k0,k1,k2,k3,k4,k5,k6,hc0,hd2,Bool.not_true,Bool.not_false,Bool.true_and,Bool.false_and,Bool.or_false,Bool.false_or]
   rw[hTe]at hr;exact jo.runs hr (.inr rfl) hc rfl
  ·simp only[zF,if_false,if_true];conv at hr=>
    rhs;rw[hTe];simp only[jo.code,jo.rs,jc,reduceIte,zk,zn,zo,zq,yE,jE,jU,wM,wP,jX,wY,wQ,wz,jA g0,jV g0,wo g0,wG g0,jO g0,wV g0,wX g0,wL g0 hm.b.ne,yR,eT,c1,c2,c3,c4,zV (jE _ _ _),zV (jU _ _ _),zV (wM _ _ _),zV (wP _ _ _),zV (jX _ _ _),zV (wY _ _ _),zV (wQ _ _ _),zV (wz _ _ _),zV (jA g0),zV (jV g0),zV (wo g0),zV (wG g0),zV (jO g0),zV (wV g0),zV (wX g0),zV (wL g0 hm.b.ne),zV (yR _),zV (eT _),zV (c1 _),zV (c2 _),zV (c3 _),zV (c4 _),kY,k0,k1,k2,k3,k4,k5,k6,hc0,hd2,Bool.not_true,Bool.not_false,Bool.true_and,Bool.false_and,Bool.or_false,Bool.false_or]
   rw[hTe]at hr;exact jo.runs hr (.inr rfl) hc rfl
 ·simp only[if_true];conv at hr=>
   rhs;rw[hTe];simp only[jo.code,jo.rs,jc,reduceIte,zk,zn,zo,zq,yE,jE,jU,wM,wP,jX,wY,wQ,wz,jA g0,jV g0,wo g0,wG g0,jO g0,wV g0,wX g0,wL g0 hm.b.ne,yR,eT,c1,c2,c3,c4,zV (jE _ _ _),zV (jU _ _ _),zV (wM _ _ _),zV (wP _ _ _),zV (jX _ _ _),zV (wY _ _ _),zV (wQ _ _ _),zV (wz _ _ _),zV (jA g0),zV (jV g0),zV (wo g0),zV (wG g0),zV (jO g0),zV (wV g0),zV (wX g0),zV (wL g0 hm.b.ne),zV (yR _),zV (eT _),zV (c1 _),zV (c2 _),zV (c3 _),zV (c4 _),kY,k0,k1,k2,k3,k4,k5,k6,hc0]
  rw[hTe]at hr;exact jo.runs hr (.inr rfl) hc rfl
theorem jo.v3 {m:ji}(hm:m.Ok) (hk:m.kind=3) (S:zS):zU zi O jo.id [mv m] S=some (.bool (ZV m),S):=by
 obtain⟨T,hTe⟩:∃T,T=(mv m::zh::zh::zh::zh::zh::zh::zh::zh::zh::zh::zh::zh::zh::zh::zh::zh::zh::zh::zh::zh::zh::zh::zh::zh::zh::zh::zh::zh::zh::zh::zh::zh::zh::zh::zh::zh::zh::zh::zh::zh::zh::zh::zh::zh::zh::zh::zh::zh::zh::zh::zh::zh::zh::zh::zh::zh::zh::zh::zh::zh::zh::zh::zh::zh::zh::zh::zh::zh::zh::zh::zh::zh::zh::zh::zh::zh::zh::zh::zh::zh::zh::zh::zh::zh::zh::zh::zh::zh::zh::zh::zh::zh::zh::zh::zh::zh::zh::zh::zh::zh::zh::zh::zh::zh::zh::zh::zh::zh::[zh,zh,zh,zh,zh,zh,zh,zh,zh,zh,zh,zh,zh,zh,zh,zh,zh,zh,zh,zh,zh,zh,zh,zh,zh,zh,zh,zh,zh,zh,zh,zh,zh,zh,zh,zh,zh,zh,zh,zh,zh,zh,zh,zh,zh,zh,zh,zh,zh,zh,zh,zh,zh,zh,zh,zh,zh,zh,zh,zh]):=⟨_,rfl⟩;have hr:=Eq.refl (zX zi O false jo.code T zS.empty);have g0:=JV m;have c1:=fun S=>vN.v hm.b S
 have c2:=fun S=>xK.v hm.value.2 S
 have c3:=fun S=>xE.v m.tx S
 have c4:=fun S=>wB.v hm.b S
 have hc:[mv m].all (jw 16)=true:=all1 (kL hm.b.okl.le);have eT:∀S,jd zi .neq 43 (tv m.tx) (.agg [Value.int .i64 0,.int .i64 0].toArray) S=some (.bool (!decide (m.tx=⟨0,0⟩)),S):=fun S=>Q7 m.tx ⟨0,0⟩ S
 have k0:decide (m.kind=0)=false:=zK (by omega)
 have k1:decide (m.kind=1)=false:=zK (by omega)
 have k2:decide (m.kind=2)=false:=zK (by omega)
 have k3:decide (m.kind=3)=true:=zL hk;have k4:decide (m.kind=4)=false:=zK (by omega)
 have k5:decide (m.kind=5)=false:=zK (by omega)
 have k6:decide (m.kind=6)=false:=zK (by omega)
 have ek:vX m=(((((decide (0≤m.index)&&decide (m.index≤1000))&&(decide (0≤m.view)&&decide (m.view≤1000)))&&nameB m.value)&&decide (-1≤m.prep))&&decide (m.prep<m.view)):=by simp only[vX,hk,Jd,Ju,zn,if_true,if_false,reduceIte,or_true,true_or,or_false,or_self]
 unfold ZV;rw[ek];obtain⟨c,hc0⟩:∃b,(decide (m.frm<0) ||decide (6<m.frm))=b:=⟨_,rfl⟩;obtain⟨d,hd⟩:∃b,Z8 m=b:=⟨_,rfl⟩;have hd2:=hd;unfold Z8 at hd2;simp only[k0,k1,k2,k3,k4,k5,k6,Bool.not_true,Bool.not_false,Bool.true_and,Bool.false_and,Bool.or_false,Bool.false_or]at hd2;rw[hc0,hd];cases c
 ·cases d
  ·simp only[zF,if_false];conv at hr=>
    rhs;rw[hTe];simp only[jo.code,jo.rs,jc,reduceIte,zk,zn,zo,zq,yE,jE,jU,wM,wP,jX,wY,wQ,wz,jA g0,jV g0,wo g0,wG g0,jO g0,wV g0,wX g0,wL g0 hm.b.ne,yR,eT,c1,c2,c3,c4,zV (jE _ _ _),zV (jU _ _ _),zV (wM _ _ _),zV (wP _ _ _),zV (jX _ _ _),zV (wY _ _ _),zV (wQ _ _ _),zV (wz _ _ _),zV (jA g0),zV (jV g0),zV (wo g0),zV (wG g0),zV (jO g0),zV (wV g0),zV (wX g0),zV (wL g0 hm.b.ne),zV (yR _),zV (eT _),zV (c1 _),zV (c2 _),zV (c3 _),zV (c4 _),kY,k0,k1,k2,k3,k4,k5,k6,hc0,hd2,Bool.not_true,Bool.not_false,Bool.true_and,Bool.false_and,Bool.or_false,Bool.false_or]
   rw[hTe]at hr;exact jo.runs hr (.inr rfl) hc rfl
  ·simp only[zF,if_false,if_true];conv at hr=>
    rhs;rw[hTe];simp only[jo.code,jo.rs,jc,reduceIte,zk,zn,zo,zq,yE,jE,jU,wM,wP,jX,wY,wQ,wz,jA g0,jV g0,wo g0,wG g0,jO g0,wV g0,wX g0,wL g0 hm.b.ne,yR,eT,c1,c2,c3,c4,zV (jE _ _ _),zV (jU _ _ _),zV (wM _ _ _),zV (wP _ _ _),zV (jX _ _ _),zV (wY _ _ _),zV (wQ _ _ _),zV (wz _ _ _),zV (jA g0),zV (jV g0),zV (wo g0),zV (wG g0),zV (jO g0),zV (wV g0),zV (wX g0),zV (wL g0 hm.b.ne),zV (yR _),zV (eT _),zV (c1 _),zV (c2 _),zV (c3 _),zV (c4 _),kY,k0,k1,k2,k3,k4,k5,k6,hc0,hd2,Bool.not_true,Bool.not_false,Bool.true_and,Bool.false_and,Bool.or_false,Bool.false_or]
   rw[hTe]at hr;exact jo.runs hr (.inr rfl) hc rfl
 ·simp only[if_true];conv at hr=>
   rhs;rw[hTe];simp only[jo.code,jo.rs,jc,reduceIte,zk,zn,zo,zq,yE,jE,jU,wM,wP,jX,wY,wQ,wz,jA g0,jV g0,wo g0,wG g0,jO g0,wV g0,wX g0,wL g0 hm.b.ne,yR,eT,c1,c2,c3,c4,zV (jE _ _ _),zV (jU _ _ _),zV (wM _ _ _),zV (wP _ _ _),zV (jX _ _ _),zV (wY _ _ _),zV (wQ _ _ _),zV (wz _ _ _),zV (jA g0),zV (jV g0),zV (wo g0),zV (wG g0),zV (jO g0),zV (wV g0),zV (wX g0),zV (wL g0 hm.b.ne),zV (yR _),zV (eT _),zV (c1 _),zV (c2 _),zV (c3 _),zV (c4 _),kY,k0,k1,k2,k3,k4,k5,k6,hc0]
  rw[hTe]at hr;exact jo.runs hr (.inr rfl) hc rfl
theorem jo.v4 {m:ji}(hm:m.Ok) (hk:m.kind=4) (S:zS):zU zi O jo.id [mv m] S=some (.bool (ZV m),S):=by
 obtain⟨T,hTe⟩:∃T,T=(mv m::zh::zh::zh::zh::zh::zh::zh::zh::zh::zh::zh::zh::zh::zh::zh::zh::zh::zh::zh::zh::zh::zh::zh::zh::zh::zh::zh::zh::zh::zh::zh::zh::zh::zh::zh::zh::zh::zh::zh::zh::zh::zh::zh::zh::zh::zh::zh::zh::zh::zh::zh::zh::zh::zh::zh::zh::zh::zh::zh::zh::zh::zh::zh::zh::zh::zh::zh::zh::zh::zh::zh::zh::zh::zh::zh::zh::zh::zh::zh::zh::zh::zh::zh::zh::zh::zh::zh::zh::zh::zh::zh::zh::zh::zh::zh::zh::zh::zh::zh::zh::zh::zh::zh::zh::zh::zh::zh::zh::[zh,zh,zh,zh,zh,zh,zh,zh,zh,zh,zh,zh,zh,zh,zh,zh,zh,zh,zh,zh,zh,zh,zh,zh,zh,zh,zh,zh,zh,zh,zh,zh,zh,zh,zh,zh,zh,zh,zh,zh,zh,zh,zh,zh,zh,zh,zh,zh,zh,zh,zh,zh,zh,zh,zh,zh,zh,zh,zh,zh]):=⟨_,rfl⟩;have hr:=Eq.refl (zX zi O false jo.code T zS.empty);have g0:=JV m;have c1:=fun S=>vN.v hm.b S
 have c2:=fun S=>xK.v hm.value.2 S
 have c3:=fun S=>xE.v m.tx S
 have c4:=fun S=>wB.v hm.b S
 have hc:[mv m].all (jw 16)=true:=all1 (kL hm.b.okl.le);have eT:∀S,jd zi .neq 43 (tv m.tx) (.agg [Value.int .i64 0,.int .i64 0].toArray) S=some (.bool (!decide (m.tx=⟨0,0⟩)),S):=fun S=>Q7 m.tx ⟨0,0⟩ S
 have k0:decide (m.kind=0)=false:=zK (by omega)
 have k1:decide (m.kind=1)=false:=zK (by omega)
 have k2:decide (m.kind=2)=false:=zK (by omega)
 have k3:decide (m.kind=3)=false:=zK (by omega)
 have k4:decide (m.kind=4)=true:=zL hk;have k5:decide (m.kind=5)=false:=zK (by omega)
 have k6:decide (m.kind=6)=false:=zK (by omega)
 have ek:vX m=(((decide (0≤m.index)&&decide (m.index≤1000))&&(decide (0≤m.view)&&decide (m.view≤1000)))&&(decide (m.value=-1) ||nameB m.value)):=by simp only[vX,hk,Jd,Ju,zn,if_true,if_false,reduceIte,or_true,true_or,or_false,or_self]
 unfold ZV;rw[ek];obtain⟨c,hc0⟩:∃b,(decide (m.frm<0) ||decide (6<m.frm))=b:=⟨_,rfl⟩;obtain⟨d,hd⟩:∃b,Z8 m=b:=⟨_,rfl⟩;have hd2:=hd;unfold Z8 at hd2;simp only[k0,k1,k2,k3,k4,k5,k6,Bool.not_true,Bool.not_false,Bool.true_and,Bool.false_and,Bool.or_false,Bool.false_or]at hd2;rw[hc0,hd];cases c
 ·cases d
  ·simp only[zF,if_false];conv at hr=>
    rhs;rw[hTe];simp only[jo.code,jo.rs,jc,reduceIte,zk,zn,zo,zq,yE,jE,jU,wM,wP,jX,wY,wQ,wz,jA g0,jV g0,wo g0,wG g0,jO g0,wV g0,wX g0,wL g0 hm.b.ne,yR,eT,c1,c2,c3,c4,zV (jE _ _ _),zV (jU _ _ _),zV (wM _ _ _),zV (wP _ _ _),zV (jX _ _ _),zV (wY _ _ _),zV (wQ _ _ _),zV (wz _ _ _),zV (jA g0),zV (jV g0),zV (wo g0),zV (wG g0),zV (jO g0),zV (wV g0),zV (wX g0),zV (wL g0 hm.b.ne),zV (yR _),zV (eT _),zV (c1 _),zV (c2 _),zV (c3 _),zV (c4 _),kY,k0,k1,k2,k3,k4,k5,k6,hc0,hd2,Bool.not_true,Bool.not_false,Bool.true_and,Bool.false_and,Bool.or_false,Bool.false_or]
   rw[hTe]at hr;exact jo.runs hr (.inr rfl) hc rfl
  ·simp only[zF,if_false,if_true];conv at hr=>
    rhs;rw[hTe];simp only[jo.code,jo.rs,jc,reduceIte,zk,zn,zo,zq,yE,jE,jU,wM,wP,jX,wY,wQ,wz,jA g0,jV g0,wo g0,wG g0,jO g0,wV g0,wX g0,wL g0 hm.b.ne,yR,eT,c1,c2,c3,c4,zV (jE _ _ _),zV (jU _ _ _),zV (wM _ _ _),zV (wP _ _ _),zV (jX _ _ _),zV (wY _ _ _),zV (wQ _ _ _),zV (wz _ _ _),zV (jA g0),zV (jV g0),zV (wo g0),zV (wG g0),zV (jO g0),zV (wV g0),zV (wX g0),zV (wL g0 hm.b.ne),zV (yR _),zV (eT _),zV (c1 _),zV (c2 _),zV (c3 _),zV (c4 _),kY,k0,k1,k2,k3,k4,k5,k6,hc0,hd2,Bool.not_true,Bool.not_false,Bool.true_and,Bool.false_and,Bool.or_false,Bool.false_or]
   rw[hTe]at hr;exact jo.runs hr (.inr rfl) hc rfl
 ·simp only[if_true];conv at hr=>
   rhs;rw[hTe];simp only[jo.code,jo.rs,jc,reduceIte,zk,zn,zo,zq,yE,jE,jU,wM,wP,jX,wY,wQ,wz,jA g0,jV g0,wo g0,wG g0,jO g0,wV g0,wX g0,wL g0 hm.b.ne,yR,eT,c1,c2,c3,c4,zV (jE _ _ _),zV (jU _ _ _),zV (wM _ _ _),zV (wP _ _ _),zV (jX _ _ _),zV (wY _ _ _),zV (wQ _ _ _),zV (wz _ _ _),zV (jA g0),zV (jV g0),zV (wo g0),zV (wG g0),zV (jO g0),zV (wV g0),zV (wX g0),zV (wL g0 hm.b.ne),zV (yR _),zV (eT _),zV (c1 _),zV (c2 _),zV (c3 _),zV (c4 _),kY,k0,k1,k2,k3,k4,k5,k6,hc0]
  rw[hTe]at hr;exact jo.runs hr (.inr rfl) hc rfl
theorem jo.v5 {m:ji}(hm:m.Ok) (hk:m.kind=5) (S:zS):zU zi O jo.id [mv m] S=some (.bool (ZV m),S):=by
 obtain⟨T,hTe⟩:∃T,T=(mv m::zh::zh::zh::zh::zh::zh::zh::zh::zh::zh::zh::zh::zh::zh::zh::zh::zh::zh::zh::zh::zh::zh::zh::zh::zh::zh::zh::zh::zh::zh::zh::zh::zh::zh::zh::zh::zh::zh::zh::zh::zh::zh::zh::zh::zh::zh::zh::zh::zh::zh::zh::zh::zh::zh::zh::zh::zh::zh::zh::zh::zh::zh::zh::zh::zh::zh::zh::zh::zh::zh::zh::zh::zh::zh::zh::zh::zh::zh::zh::zh::zh::zh::zh::zh::zh::zh::zh::zh::zh::zh::zh::zh::zh::zh::zh::zh::zh::zh::zh::zh::zh::zh::zh::zh::zh::zh::zh::zh::[zh,zh,zh,zh,zh,zh,zh,zh,zh,zh,zh,zh,zh,zh,zh,zh,zh,zh,zh,zh,zh,zh,zh,zh,zh,zh,zh,zh,zh,zh,zh,zh,zh,zh,zh,zh,zh,zh,zh,zh,zh,zh,zh,zh,zh,zh,zh,zh,zh,zh,zh,zh,zh,zh,zh,zh,zh,zh,zh,zh]):=⟨_,rfl⟩;have hr:=Eq.refl (zX zi O false jo.code T zS.empty);have g0:=JV m;have c1:=fun S=>vN.v hm.b S
 have c2:=fun S=>xK.v hm.value.2 S
 have c3:=fun S=>xE.v m.tx S
 have c4:=fun S=>wB.v hm.b S
 have hc:[mv m].all (jw 16)=true:=all1 (kL hm.b.okl.le);have eT:∀S,jd zi .neq 43 (tv m.tx) (.agg [Value.int .i64 0,.int .i64 0].toArray) S=some (.bool (!decide (m.tx=⟨0,0⟩)),S):=fun S=>Q7 m.tx ⟨0,0⟩ S
 have k0:decide (m.kind=0)=false:=zK (by omega)
 have k1:decide (m.kind=1)=false:=zK (by omega)
 have k2:decide (m.kind=2)=false:=zK (by omega)
 have k3:decide (m.kind=3)=false:=zK (by omega)
 have k4:decide (m.kind=4)=false:=zK (by omega)
 have k5:decide (m.kind=5)=true:=zL hk;have k6:decide (m.kind=6)=false:=zK (by omega)
 have ek:vX m=(((decide (0≤m.index)&&decide (m.index≤1000))&&(decide (0≤m.view)&&decide (m.view≤1000)))&&(decide (m.value=-1) ||nameB m.value)):=by simp only[vX,hk,Jd,Ju,zn,if_true,if_false,reduceIte,or_true,true_or,or_false,or_self]
 unfold ZV;rw[ek];obtain⟨c,hc0⟩:∃b,(decide (m.frm<0) ||decide (6<m.frm))=b:=⟨_,rfl⟩;obtain⟨d,hd⟩:∃b,Z8 m=b:=⟨_,rfl⟩;have hd2:=hd;unfold Z8 at hd2;simp only[k0,k1,k2,k3,k4,k5,k6,Bool.not_true,Bool.not_false,Bool.true_and,Bool.false_and,Bool.or_false,Bool.false_or]at hd2;rw[hc0,hd];cases c
 ·cases d
  ·simp only[zF,if_false];conv at hr=>
    rhs;rw[hTe];simp only[jo.code,jo.rs,jc,reduceIte,zk,zn,zo,zq,yE,jE,jU,wM,wP,jX,wY,wQ,wz,jA g0,jV g0,wo g0,wG g0,jO g0,wV g0,wX g0,wL g0 hm.b.ne,yR,eT,c1,c2,c3,c4,zV (jE _ _ _),zV (jU _ _ _),zV (wM _ _ _),zV (wP _ _ _),zV (jX _ _ _),zV (wY _ _ _),zV (wQ _ _ _),zV (wz _ _ _),zV (jA g0),zV (jV g0),zV (wo g0),zV (wG g0),zV (jO g0),zV (wV g0),zV (wX g0),zV (wL g0 hm.b.ne),zV (yR _),zV (eT _),zV (c1 _),zV (c2 _),zV (c3 _),zV (c4 _),kY,k0,k1,k2,k3,k4,k5,k6,hc0,hd2,Bool.not_true,Bool.not_false,Bool.true_and,Bool.false_and,Bool.or_false,Bool.false_or]
   rw[hTe]at hr;exact jo.runs hr (.inr rfl) hc rfl
  ·simp only[zF,if_false,if_true];conv at hr=>
    rhs;rw[hTe];simp only[jo.code,jo.rs,jc,reduceIte,zk,zn,zo,zq,yE,jE,jU,wM,wP,jX,wY,wQ,wz,jA g0,jV g0,wo g0,wG g0,jO g0,wV g0,wX g0,wL g0 hm.b.ne,yR,eT,c1,c2,c3,c4,zV (jE _ _ _),zV (jU _ _ _),zV (wM _ _ _),zV (wP _ _ _),zV (jX _ _ _),zV (wY _ _ _),zV (wQ _ _ _),zV (wz _ _ _),zV (jA g0),zV (jV g0),zV (wo g0),zV (wG g0),zV (jO g0),zV (wV g0),zV (wX g0),zV (wL g0 hm.b.ne),zV (yR _),zV (eT _),zV (c1 _),zV (c2 _),zV (c3 _),zV (c4 _),kY,k0,k1,k2,k3,k4,k5,k6,hc0,hd2,Bool.not_true,Bool.not_false,Bool.true_and,Bool.false_and,Bool.or_false,Bool.false_or]
   rw[hTe]at hr;exact jo.runs hr (.inr rfl) hc rfl
 ·simp only[if_true];conv at hr=>
   rhs;rw[hTe];simp only[jo.code,jo.rs,jc,reduceIte,zk,zn,zo,zq,yE,jE,jU,wM,wP,jX,wY,wQ,wz,jA g0,jV g0,wo g0,wG g0,jO g0,wV g0,wX g0,wL g0 hm.b.ne,yR,eT,c1,c2,c3,c4,zV (jE _ _ _),zV (jU _ _ _),zV (wM _ _ _),zV (wP _ _ _),zV (jX _ _ _),zV (wY _ _ _),zV (wQ _ _ _),zV (wz _ _ _),zV (jA g0),zV (jV g0),zV (wo g0),zV (wG g0),zV (jO g0),zV (wV g0),zV (wX g0),zV (wL g0 hm.b.ne),zV (yR _),zV (eT _),zV (c1 _),zV (c2 _),zV (c3 _),zV (c4 _),kY,k0,k1,k2,k3,k4,k5,k6,hc0]
  rw[hTe]at hr;exact jo.runs hr (.inr rfl) hc rfl
theorem jo.v6 {m:ji}(hm:m.Ok) (hk:m.kind=6) (S:zS):zU zi O jo.id [mv m] S=some (.bool (ZV m),S):=by
 obtain⟨T,hTe⟩:∃T,T=(mv m::zh::zh::zh::zh::zh::zh::zh::zh::zh::zh::zh::zh::zh::zh::zh::zh::zh::zh::zh::zh::zh::zh::zh::zh::zh::zh::zh::zh::zh::zh::zh::zh::zh::zh::zh::zh::zh::zh::zh::zh::zh::zh::zh::zh::zh::zh::zh::zh::zh::zh::zh::zh::zh::zh::zh::zh::zh::zh::zh::zh::zh::zh::zh::zh::zh::zh::zh::zh::zh::zh::zh::zh::zh::zh::zh::zh::zh::zh::zh::zh::zh::zh::zh::zh::zh::zh::zh::zh::zh::zh::zh::zh::zh::zh::zh::zh::zh::zh::zh::zh::zh::zh::zh::zh::zh::zh::zh::zh::[zh,zh,zh,zh,zh,zh,zh,zh,zh,zh,zh,zh,zh,zh,zh,zh,zh,zh,zh,zh,zh,zh,zh,zh,zh,zh,zh,zh,zh,zh,zh,zh,zh,zh,zh,zh,zh,zh,zh,zh,zh,zh,zh,zh,zh,zh,zh,zh,zh,zh,zh,zh,zh,zh,zh,zh,zh,zh,zh,zh]):=⟨_,rfl⟩;have hr:=Eq.refl (zX zi O false jo.code T zS.empty);have g0:=JV m;have c1:=fun S=>vN.v hm.b S
 have c2:=fun S=>xK.v hm.value.2 S
 have c3:=fun S=>xE.v m.tx S
 have c4:=fun S=>wB.v hm.b S
 have hc:[mv m].all (jw 16)=true:=all1 (kL hm.b.okl.le);have eT:∀S,jd zi .neq 43 (tv m.tx) (.agg [Value.int .i64 0,.int .i64 0].toArray) S=some (.bool (!decide (m.tx=⟨0,0⟩)),S):=fun S=>Q7 m.tx ⟨0,0⟩ S
 have k0:decide (m.kind=0)=false:=zK (by omega)
 have k1:decide (m.kind=1)=false:=zK (by omega)
 have k2:decide (m.kind=2)=false:=zK (by omega)
 have k3:decide (m.kind=3)=false:=zK (by omega)
 have k4:decide (m.kind=4)=false:=zK (by omega)
 have k5:decide (m.kind=5)=false:=zK (by omega)
 have k6:decide (m.kind=6)=true:=zL hk;have ek:vX m=(((decide (0≤m.index)&&decide (m.index≤1000))&&decide (m.view=0))&&nameB m.value):=by simp only[vX,hk,Jd,Ju,zn,if_true,if_false,reduceIte,or_true,true_or,or_false,or_self]
 unfold ZV;rw[ek];obtain⟨c,hc0⟩:∃b,(decide (m.frm<0) ||decide (6<m.frm))=b:=⟨_,rfl⟩;obtain⟨d,hd⟩:∃b,Z8 m=b:=⟨_,rfl⟩;have hd2:=hd;unfold Z8 at hd2;simp only[k0,k1,k2,k3,k4,k5,k6,Bool.not_true,Bool.not_false,Bool.true_and,Bool.false_and,Bool.or_false,Bool.false_or]at hd2;rw[hc0,hd];cases c
 ·cases d
  ·simp only[zF,if_false];conv at hr=>
    rhs;rw[hTe];simp only[jo.code,jo.rs,jc,reduceIte,zk,zn,zo,zq,yE,jE,jU,wM,wP,jX,wY,wQ,wz,jA g0,jV g0,wo g0,wG g0,jO g0,wV g0,wX g0,wL g0 hm.b.ne,yR,eT,c1,c2,c3,c4,zV (jE _ _ _),zV (jU _ _ _),zV (wM _ _ _),zV (wP _ _ _),zV (jX _ _ _),zV (wY _ _ _),zV (wQ _ _ _),zV (wz _ _ _),zV (jA g0),zV (jV g0),zV (wo g0),zV (wG g0),zV (jO g0),zV (wV g0),zV (wX g0),zV (wL g0 hm.b.ne),zV (yR _),zV (eT _),zV (c1 _),zV (c2 _),zV (c3 _),zV (c4 _),kY,k0,k1,k2,k3,k4,k5,k6,hc0,hd2,Bool.not_true,Bool.not_false,Bool.true_and,Bool.false_and,Bool.or_false,Bool.false_or]
   rw[hTe]at hr;exact jo.runs hr (.inr rfl) hc rfl
  ·simp only[zF,if_false,if_true];conv at hr=>
    rhs;rw[hTe];simp only[jo.code,jo.rs,jc,reduceIte,zk,zn,zo,zq,yE,jE,jU,wM,wP,jX,wY,wQ,wz,jA g0,jV g0,wo g0,wG g0,jO g0,wV g0,wX g0,wL g0 hm.b.ne,yR,eT,c1,c2,c3,c4,zV (jE _ _ _),zV (jU _ _ _),zV (wM _ _ _),zV (wP _ _ _),zV (jX _ _ _),zV (wY _ _ _),zV (wQ _ _ _),zV (wz _ _ _),zV (jA g0),zV (jV g0),zV (wo g0),zV (wG g0),zV (jO g0),zV (wV g0),zV (wX g0),zV (wL g0 hm.b.ne),zV (yR _),zV (eT _),zV (c1 _),zV (c2 _),zV (c3 _),zV (c4 _),kY,k0,k1,k2,k3,k4,k5,k6,hc0,hd2,Bool.not_true,Bool.not_false,Bool.true_and,Bool.false_and,Bool.or_false,Bool.false_or]
   rw[hTe]at hr;exact jo.runs hr (.inr rfl) hc rfl
 ·simp only[if_true];conv at hr=>
   rhs;rw[hTe];simp only[jo.code,jo.rs,jc,reduceIte,zk,zn,zo,zq,yE,jE,jU,wM,wP,jX,wY,wQ,wz,jA g0,jV g0,wo g0,wG g0,jO g0,wV g0,wX g0,wL g0 hm.b.ne,yR,eT,c1,c2,c3,c4,zV (jE _ _ _),zV (jU _ _ _),zV (wM _ _ _),zV (wP _ _ _),zV (jX _ _ _),zV (wY _ _ _),zV (wQ _ _ _),zV (wz _ _ _),zV (jA g0),zV (jV g0),zV (wo g0),zV (wG g0),zV (jO g0),zV (wV g0),zV (wX g0),zV (wL g0 hm.b.ne),zV (yR _),zV (eT _),zV (c1 _),zV (c2 _),zV (c3 _),zV (c4 _),kY,k0,k1,k2,k3,k4,k5,k6,hc0]
  rw[hTe]at hr;exact jo.runs hr (.inr rfl) hc rfl
theorem jo.v7 {m:ji}(hm:m.Ok) (hk:m.kind<0∨6<m.kind) (S:zS):zU zi O jo.id [mv m] S=some (.bool (ZV m),S):=by
 obtain⟨T,hTe⟩:∃T,T=(mv m::zh::zh::zh::zh::zh::zh::zh::zh::zh::zh::zh::zh::zh::zh::zh::zh::zh::zh::zh::zh::zh::zh::zh::zh::zh::zh::zh::zh::zh::zh::zh::zh::zh::zh::zh::zh::zh::zh::zh::zh::zh::zh::zh::zh::zh::zh::zh::zh::zh::zh::zh::zh::zh::zh::zh::zh::zh::zh::zh::zh::zh::zh::zh::zh::zh::zh::zh::zh::zh::zh::zh::zh::zh::zh::zh::zh::zh::zh::zh::zh::zh::zh::zh::zh::zh::zh::zh::zh::zh::zh::zh::zh::zh::zh::zh::zh::zh::zh::zh::zh::zh::zh::zh::zh::zh::zh::zh::zh::[zh,zh,zh,zh,zh,zh,zh,zh,zh,zh,zh,zh,zh,zh,zh,zh,zh,zh,zh,zh,zh,zh,zh,zh,zh,zh,zh,zh,zh,zh,zh,zh,zh,zh,zh,zh,zh,zh,zh,zh,zh,zh,zh,zh,zh,zh,zh,zh,zh,zh,zh,zh,zh,zh,zh,zh,zh,zh,zh,zh]):=⟨_,rfl⟩;have hr:=Eq.refl (zX zi O false jo.code T zS.empty);have g0:=JV m;have c1:=fun S=>vN.v hm.b S
 have c2:=fun S=>xK.v hm.value.2 S
 have c3:=fun S=>xE.v m.tx S
 have c4:=fun S=>wB.v hm.b S
 have hc:[mv m].all (jw 16)=true:=all1 (kL hm.b.okl.le);have eT:∀S,jd zi .neq 43 (tv m.tx) (.agg [Value.int .i64 0,.int .i64 0].toArray) S=some (.bool (!decide (m.tx=⟨0,0⟩)),S):=fun S=>Q7 m.tx ⟨0,0⟩ S
 have k0:decide (m.kind=0)=false:=zK (by omega)
 have k1:decide (m.kind=1)=false:=zK (by omega)
 have k2:decide (m.kind=2)=false:=zK (by omega)
 have k3:decide (m.kind=3)=false:=zK (by omega)
 have k4:decide (m.kind=4)=false:=zK (by omega)
 have k5:decide (m.kind=5)=false:=zK (by omega)
 have k6:decide (m.kind=6)=false:=zK (by omega)
 have ek:vX m=false:=by simp only[vX,zM (show ¬m.kind=0 by omega),zM (show ¬m.kind=1 by omega),zM (show ¬m.kind=2 by omega),zM (show ¬m.kind=3 by omega),zM (show ¬(m.kind=4∨m.kind=5) by omega),zM (show ¬m.kind=6 by omega)]
 unfold ZV;rw[ek];obtain⟨c,hc0⟩:∃b,(decide (m.frm<0) ||decide (6<m.frm))=b:=⟨_,rfl⟩;obtain⟨d,hd⟩:∃b,Z8 m=b:=⟨_,rfl⟩;have hd2:=hd;unfold Z8 at hd2;simp only[k0,k1,k2,k3,k4,k5,k6,Bool.not_true,Bool.not_false,Bool.true_and,Bool.false_and,Bool.or_false,Bool.false_or]at hd2;rw[hc0,hd];cases c
 ·cases d
  ·simp only[zF,if_false];conv at hr=>
    rhs;rw[hTe];simp only[jo.code,jo.rs,jc,reduceIte,zk,zn,zo,zq,yE,jE,jU,wM,wP,jX,wY,wQ,wz,jA g0,jV g0,wo g0,wG g0,jO g0,wV g0,wX g0,wL g0 hm.b.ne,yR,eT,c1,c2,c3,c4,zV (jE _ _ _),zV (jU _ _ _),zV (wM _ _ _),zV (wP _ _ _),zV (jX _ _ _),zV (wY _ _ _),zV (wQ _ _ _),zV (wz _ _ _),zV (jA g0),zV (jV g0),zV (wo g0),zV (wG g0),zV (jO g0),zV (wV g0),zV (wX g0),zV (wL g0 hm.b.ne),zV (yR _),zV (eT _),zV (c1 _),zV (c2 _),zV (c3 _),zV (c4 _),kY,k0,k1,k2,k3,k4,k5,k6,hc0,hd2,Bool.not_true,Bool.not_false,Bool.true_and,Bool.false_and,Bool.or_false,Bool.false_or]
   rw[hTe]at hr;exact jo.runs hr (.inr rfl) hc rfl
  ·simp only[zF,if_false,if_true];conv at hr=>
    rhs;rw[hTe];simp only[jo.code,jo.rs,jc,reduceIte,zk,zn,zo,zq,yE,jE,jU,wM,wP,jX,wY,wQ,wz,jA g0,jV g0,wo g0,wG g0,jO g0,wV g0,wX g0,wL g0 hm.b.ne,yR,eT,c1,c2,c3,c4,zV (jE _ _ _),zV (jU _ _ _),zV (wM _ _ _),zV (wP _ _ _),zV (jX _ _ _),zV (wY _ _ _),zV (wQ _ _ _),zV (wz _ _ _),zV (jA g0),zV (jV g0),zV (wo g0),zV (wG g0),zV (jO g0),zV (wV g0),zV (wX g0),zV (wL g0 hm.b.ne),zV (yR _),zV (eT _),zV (c1 _),zV (c2 _),zV (c3 _),zV (c4 _),kY,k0,k1,k2,k3,k4,k5,k6,hc0,hd2,Bool.not_true,Bool.not_false,Bool.true_and,Bool.false_and,Bool.or_false,Bool.false_or]
   rw[hTe]at hr;exact jo.runs hr (.inr rfl) hc rfl
 ·simp only[if_true];conv at hr=>
   rhs;rw[hTe];simp only[jo.code,jo.rs,jc,reduceIte,zk,zn,zo,zq,yE,jE,jU,wM,wP,jX,wY,wQ,wz,jA g0,jV g0,wo g0,wG g0,jO g0,wV g0,wX g0,wL g0 hm.b.ne,yR,eT,c1,c2,c3,c4,zV (jE _ _ _),zV (jU _ _ _),zV (wM _ _ _),zV (wP _ _ _),zV (jX _ _ _),zV (wY _ _ _),zV (wQ _ _ _),zV (wz _ _ _),zV (jA g0),zV (jV g0),zV (wo g0),zV (wG g0),zV (jO g0),zV (wV g0),zV (wX g0),zV (wL g0 hm.b.ne),zV (yR _),zV (eT _),zV (c1 _),zV (c2 _),zV (c3 _),zV (c4 _),kY,k0,k1,k2,k3,k4,k5,k6,hc0]
  rw[hTe]at hr;exact jo.runs hr (.inr rfl) hc rfl
theorem jo.v {m:ji}(hm:m.Ok) (S:zS):zU zi O jo.id [mv m] S=some (.bool (ZV m),S):=by
 have:m.kind=0∨m.kind=1∨m.kind=2∨m.kind=3∨m.kind=4∨m.kind=5∨m.kind=6∨(m.kind<0∨6<m.kind):=by omega
 rcases this with h |h |h |h |h |h |h |h
 ·exact jo.v0 hm h S
 ·exact jo.v1 hm h S
 ·exact jo.v2 hm h S
 ·exact jo.v3 hm h S
 ·exact jo.v4 hm h S
 ·exact jo.v5 hm h S
 ·exact jo.v6 hm h S
 ·exact jo.v7 hm h S
theorem Wv (m:ji):kQ 3 (mv m)=true:=by
 have h:=Yj (f:=fT) (e:=2) (k:=m.b.k) (l:=m.b.txs) (d:=2);simp only[kQ,zD,List.all_cons,List.all_nil,h,Bool.and_true]
def qj (m:ji):Bool :=
 if m.kind<0∨6<m.kind then false
 else if(decide (m.frm<0) ||decide (7≤m.frm)) || !Zj m (wU m)then false
 else if m.kind=0 then qG m.tx
 else if m.kind=1 then jP m.b
 else if m.kind=3∧(decide (m.prep < -1) ||decide (m.view≤m.prep))=true then false
 else(((decide (0≤m.index)&&decide (m.index≤1000))&&decide (0≤m.view))&&decide (m.view≤1000))&&xM m
theorem Iw {m:ji}(hm:m.Ok):(wU m).Ok:=by
 have z:Big 0:=⟨by omega,by omega⟩
 have zt:jG.Ok ⟨0,0⟩:=⟨z,z⟩;unfold wU;split
 ·exact⟨ok0,hm.tx,hm.kind,hm.frm,z,z,z,z⟩
 split
 ·exact⟨hm.b,zt,hm.kind,hm.frm,z,z,z,z⟩
 split
 ·exact⟨ok0,zt,hm.kind,hm.frm,z,z,hm.value,z⟩
 split
 ·exact⟨ok0,zt,hm.kind,hm.frm,hm.index,hm.view,hm.value,hm.prep⟩
 split
 ·exact⟨ok0,zt,hm.kind,hm.frm,hm.index,hm.view,hm.value,z⟩
 split
 ·exact⟨ok0,zt,hm.kind,hm.frm,hm.index,hm.view,hm.value,z⟩
 ·exact⟨ok0,zt,hm.kind,hm.frm,hm.index,z,hm.value,z⟩
theorem wH.v {m:ji}(hm:m.Ok) (S:zS):zU zi O wH.id [mv m] S=some (.bool (qj m),S):=by
 obtain⟨T,hTe⟩:∃T,T=(mv m::zh::zh::zh::zh::zh::zh::zh::zh::zh::zh::zh::zh::zh::[zh,zh,zh,zh,zh,zh,zh,zh,zh,zh,zh,zh,zh,zh,zh,zh,zh,zh,zh,zh,zh,zh,zh,zh,zh,zh,zh,zh,zh,zh,zh,zh,zh,zh,zh,zh,zh,zh,zh,zh,zh,zh,zh,zh,zh,zh,zh,zh,zh,zh,zh,zh,zh,zh,zh,zh,zh,zh,zh,zh]):=⟨_,rfl⟩;have hr:=Eq.refl (zX zi O false wH.code T zS.empty);have g0:=JV m;have c3:=fun S=>Zt.v m.tx S
 have c4:=fun S=>yC.v hm.b S
 have c5:=fun S=>yT.v hm S
 have hc:[mv m].all (jw 16)=true:=all1 (kL hm.b.okl.le);unfold qj;by_cases k0:m.kind<0
 ·rw[zN (.inl k0)];have e0:=zL k0;conv at hr=>
   rhs;rw[hTe];simp only[wH.code,wH.rs,jc,reduceIte,zk,zn,zo,zq,yE,jE,jU,wM,wP,jX,wY,wQ,wz,jA g0,jV g0,wo g0,wG g0,jO g0,wV g0,wX g0,wL g0 hm.b.ne,wO g0 hm.b.ne,zV (jE _ _ _),zV (jU _ _ _),zV (wM _ _ _),zV (wP _ _ _),zV (jX _ _ _),zV (wY _ _ _),zV (wQ _ _ _),zV (wz _ _ _),zV (jA g0),zV (jV g0),zV (wo g0),zV (wG g0),zV (jO g0),zV (wV g0),zV (wX g0),zV (wL g0 hm.b.ne),zV (wO g0 hm.b.ne),QC (wO g0 hm.b.ne) (Wv m),ZG g0,kY,e0]
  rw[hTe]at hr;exact wH.runs hr (.inr rfl) hc rfl
 by_cases k6:6<m.kind
 ·rw[zN (.inr k6)];have e0:=zK k0;have e6:=zL k6;conv at hr=>
   rhs;rw[hTe];simp only[wH.code,wH.rs,jc,reduceIte,zk,zn,zo,zq,yE,jE,jU,wM,wP,jX,wY,wQ,wz,jA g0,jV g0,wo g0,wG g0,jO g0,wV g0,wX g0,wL g0 hm.b.ne,wO g0 hm.b.ne,zV (jE _ _ _),zV (jU _ _ _),zV (wM _ _ _),zV (wP _ _ _),zV (jX _ _ _),zV (wY _ _ _),zV (wQ _ _ _),zV (wz _ _ _),zV (jA g0),zV (jV g0),zV (wo g0),zV (wG g0),zV (jO g0),zV (wV g0),zV (wX g0),zV (wL g0 hm.b.ne),zV (wO g0 hm.b.ne),QC (wO g0 hm.b.ne) (Wv m),ZG g0,kY,e0,e6]
  rw[hTe]at hr;exact wH.runs hr (.inr rfl) hc rfl
 rw[zM (by omega)]
 have e0:=zK k0;have e6:=zK k6;have c1:=fun S=>jC.v hm (by omega) (by omega) S
 have c2:=fun S=>qp.v hm (Iw hm) S
 obtain⟨c,hc0⟩:∃b,((decide (m.frm<0) ||decide (7≤m.frm)) || !Zj m (wU m))=b:=⟨_,rfl⟩;rw[hc0];cases c
 ·rw[zM (by decide)]
  by_cases z0:m.kind=0
  ·rw[zN z0];conv at hr=>
    rhs;rw[hTe];simp only[wH.code,wH.rs,jc,reduceIte,zk,zn,zo,zq,yE,jE,jU,wM,wP,jX,wY,wQ,wz,jA g0,jV g0,wo g0,wG g0,jO g0,wV g0,wX g0,wL g0 hm.b.ne,wO g0 hm.b.ne,zV (jE _ _ _),zV (jU _ _ _),zV (wM _ _ _),zV (wP _ _ _),zV (jX _ _ _),zV (wY _ _ _),zV (wQ _ _ _),zV (wz _ _ _),zV (jA g0),zV (jV g0),zV (wo g0),zV (wG g0),zV (jO g0),zV (wV g0),zV (wX g0),zV (wL g0 hm.b.ne),zV (wO g0 hm.b.ne),QC (wO g0 hm.b.ne) (Wv m),ZG g0,kY,e0,e6,c1,c2,zV (c1 _),zV (c2 _),hc0,zL z0,c3]
   rw[hTe]at hr;exact wH.runs hr (.inr rfl) hc rfl
  rw[zM z0];by_cases z1:m.kind=1
  ·rw[zN z1];conv at hr=>
    rhs;rw[hTe];simp only[wH.code,wH.rs,jc,reduceIte,zk,zn,zo,zq,yE,jE,jU,wM,wP,jX,wY,wQ,wz,jA g0,jV g0,wo g0,wG g0,jO g0,wV g0,wX g0,wL g0 hm.b.ne,wO g0 hm.b.ne,zV (jE _ _ _),zV (jU _ _ _),zV (wM _ _ _),zV (wP _ _ _),zV (jX _ _ _),zV (wY _ _ _),zV (wQ _ _ _),zV (wz _ _ _),zV (jA g0),zV (jV g0),zV (wo g0),zV (wG g0),zV (jO g0),zV (wV g0),zV (wX g0),zV (wL g0 hm.b.ne),zV (wO g0 hm.b.ne),QC (wO g0 hm.b.ne) (Wv m),ZG g0,kY,e0,e6,c1,c2,zV (c1 _),zV (c2 _),hc0,zK z0,zL z1,c4]
   rw[hTe]at hr;exact wH.runs hr (.inr rfl) hc rfl
  rw[zM z1];by_cases z3:m.kind=3
  ·obtain⟨d,hd0⟩:∃b,(decide (m.prep < -1) ||decide (m.view≤m.prep))=b:=⟨_,rfl⟩;rw[hd0];cases d
   ·rw[zM (by simp)]
    conv at hr=>
     rhs;rw[hTe];simp only[wH.code,wH.rs,jc,reduceIte,zk,zn,zo,zq,yE,jE,jU,wM,wP,jX,wY,wQ,wz,jA g0,jV g0,wo g0,wG g0,jO g0,wV g0,wX g0,wL g0 hm.b.ne,wO g0 hm.b.ne,zV (jE _ _ _),zV (jU _ _ _),zV (wM _ _ _),zV (wP _ _ _),zV (jX _ _ _),zV (wY _ _ _),zV (wQ _ _ _),zV (wz _ _ _),zV (jA g0),zV (jV g0),zV (wo g0),zV (wG g0),zV (jO g0),zV (wV g0),zV (wX g0),zV (wL g0 hm.b.ne),zV (wO g0 hm.b.ne),QC (wO g0 hm.b.ne) (Wv m),ZG g0,kY,e0,e6,c1,c2,zV (c1 _),zV (c2 _),hc0,zK z0,zK z1,zL z3,hd0,c5,zV (c5 _)]
    rw[hTe]at hr;exact wH.runs hr (.inr rfl) hc rfl
   ·rw[zN ⟨z3,rfl⟩];conv at hr=>
     rhs;rw[hTe];simp only[wH.code,wH.rs,jc,reduceIte,zk,zn,zo,zq,yE,jE,jU,wM,wP,jX,wY,wQ,wz,jA g0,jV g0,wo g0,wG g0,jO g0,wV g0,wX g0,wL g0 hm.b.ne,wO g0 hm.b.ne,zV (jE _ _ _),zV (jU _ _ _),zV (wM _ _ _),zV (wP _ _ _),zV (jX _ _ _),zV (wY _ _ _),zV (wQ _ _ _),zV (wz _ _ _),zV (jA g0),zV (jV g0),zV (wo g0),zV (wG g0),zV (jO g0),zV (wV g0),zV (wX g0),zV (wL g0 hm.b.ne),zV (wO g0 hm.b.ne),QC (wO g0 hm.b.ne) (Wv m),ZG g0,kY,e0,e6,c1,c2,zV (c1 _),zV (c2 _),hc0,zK z0,zK z1,zL z3,hd0]
    rw[hTe]at hr;exact wH.runs hr (.inr rfl) hc rfl
  rw[zM (fun h=>z3 h.1)]
  conv at hr=>
   rhs;rw[hTe];simp only[wH.code,wH.rs,jc,reduceIte,zk,zn,zo,zq,yE,jE,jU,wM,wP,jX,wY,wQ,wz,jA g0,jV g0,wo g0,wG g0,jO g0,wV g0,wX g0,wL g0 hm.b.ne,wO g0 hm.b.ne,zV (jE _ _ _),zV (jU _ _ _),zV (wM _ _ _),zV (wP _ _ _),zV (jX _ _ _),zV (wY _ _ _),zV (wQ _ _ _),zV (wz _ _ _),zV (jA g0),zV (jV g0),zV (wo g0),zV (wG g0),zV (jO g0),zV (wV g0),zV (wX g0),zV (wL g0 hm.b.ne),zV (wO g0 hm.b.ne),QC (wO g0 hm.b.ne) (Wv m),ZG g0,kY,e0,e6,c1,c2,zV (c1 _),zV (c2 _),hc0,zK z0,zK z1,zK z3,c5,zV (c5 _)]
  rw[hTe]at hr;exact wH.runs hr (.inr rfl) hc rfl
 ·rw[zN rfl];conv at hr=>
   rhs;rw[hTe];simp only[wH.code,wH.rs,jc,reduceIte,zk,zn,zo,zq,yE,jE,jU,wM,wP,jX,wY,wQ,wz,jA g0,jV g0,wo g0,wG g0,jO g0,wV g0,wX g0,wL g0 hm.b.ne,wO g0 hm.b.ne,zV (jE _ _ _),zV (jU _ _ _),zV (wM _ _ _),zV (wP _ _ _),zV (jX _ _ _),zV (wY _ _ _),zV (wQ _ _ _),zV (wz _ _ _),zV (jA g0),zV (jV g0),zV (wo g0),zV (wG g0),zV (jO g0),zV (wV g0),zV (wX g0),zV (wL g0 hm.b.ne),zV (wO g0 hm.b.ne),QC (wO g0 hm.b.ne) (Wv m),ZG g0,kY,e0,e6,c1,c2,zV (c1 _),zV (c2 _),hc0]
  rw[hTe]at hr;exact wH.runs hr (.inr rfl) hc rfl
theorem QY (b:jR):vG b b=true:=by simp[vG]
theorem right_eq (m:ji):qj m=ZV m:=by
 unfold qj ZV Z8;by_cases hk:m.kind<0∨6<m.kind
 ·rw[zN hk];have:vX m=false:=by simp only[vX,zM (show ¬m.kind=0 by omega),zM (show ¬m.kind=1 by omega),zM (show ¬m.kind=2 by omega),zM (show ¬m.kind=3 by omega),zM (show ¬(m.kind=4∨m.kind=5) by omega),zM (show ¬m.kind=6 by omega)]
  rw[this];simp
 rw[zM hk];by_cases f0:m.frm<0
 ·simp[f0]
 by_cases f7:6<m.frm
 ·simp[f0,f7,show 7≤m.frm by omega]
 have f8:¬7≤m.frm:=by omega
 have hv:decide (0<Ql m.value)=Zq m.value:=Uy m.value;have:m.kind=0∨m.kind=1∨m.kind=2∨m.kind=3∨m.kind=4∨m.kind=5∨m.kind=6:=by omega
 rcases this with h |h |h |h |h |h |h
 ·simp only[Zj,wU,vX,h,decide_true,decide_false,Bool.true_and,Bool.false_and,Bool.not_true,Bool.not_false,zn,zo,if_true,if_false,reduceIte,Jd,Ju,xM,J7,nameB,hv,f0,f7,f8,or_true,true_or,or_false,false_or,or_self,Bool.or_false,Bool.false_or,QY,false_and,true_and]
  grind
 ·simp only[Zj,wU,vX,h,decide_true,decide_false,Bool.true_and,Bool.false_and,Bool.not_true,Bool.not_false,zn,zo,if_true,if_false,reduceIte,Jd,Ju,xM,J7,nameB,hv,f0,f7,f8,or_true,true_or,or_false,false_or,or_self,Bool.or_false,Bool.false_or,QY,false_and,true_and]
  grind
 ·simp only[Zj,wU,vX,h,decide_true,decide_false,Bool.true_and,Bool.false_and,Bool.not_true,Bool.not_false,zn,zo,if_true,if_false,reduceIte,Jd,Ju,xM,J7,nameB,hv,f0,f7,f8,or_true,true_or,or_false,false_or,or_self,Bool.or_false,Bool.false_or,QY,false_and,true_and]
  grind
 ·simp only[Zj,wU,vX,h,decide_true,decide_false,Bool.true_and,Bool.false_and,Bool.not_true,Bool.not_false,zn,zo,if_true,if_false,reduceIte,Jd,Ju,xM,J7,nameB,hv,f0,f7,f8,or_true,true_or,or_false,false_or,or_self,Bool.or_false,Bool.false_or,QY,false_and,true_and]
  grind
 ·simp only[Zj,wU,vX,h,decide_true,decide_false,Bool.true_and,Bool.false_and,Bool.not_true,Bool.not_false,zn,zo,if_true,if_false,reduceIte,Jd,Ju,xM,J7,nameB,hv,f0,f7,f8,or_true,true_or,or_false,false_or,or_self,Bool.or_false,Bool.false_or,QY,false_and,true_and]
  grind
 ·simp only[Zj,wU,vX,h,decide_true,decide_false,Bool.true_and,Bool.false_and,Bool.not_true,Bool.not_false,zn,zo,if_true,if_false,reduceIte,Jd,Ju,xM,J7,nameB,hv,f0,f7,f8,or_true,true_or,or_false,false_or,or_self,Bool.or_false,Bool.false_or,QY,false_and,true_and]
  grind
 ·simp only[Zj,wU,vX,h,decide_true,decide_false,Bool.true_and,Bool.false_and,Bool.not_true,Bool.not_false,zn,zo,if_true,if_false,reduceIte,Jd,Ju,xM,J7,nameB,hv,f0,f7,f8,or_true,true_or,or_false,false_or,or_self,Bool.or_false,Bool.false_or,QY,false_and,true_and]
  grind
theorem Pv {n:Int}(h:nameB n=true):0≤n∧n≤268435455:=by
 unfold nameB at h;simp only[Bool.or_eq_true,decide_eq_true_eq]at h;rcases h with h |h
 ·omega
 ·have:=YK.1 h;omega
structure XP (m:ji):Prop where
 kind:0≤m.kind∧m.kind≤6
 frm:0≤m.frm∧m.frm≤6
 index:0≤m.index∧m.index≤1000
 view:0≤m.view∧m.view≤1000
 value:-1≤m.value∧m.value≤268435455
 prep:-1≤m.prep∧m.prep≤1000
 tx:m.kind=0→qG m.tx=true
 blk:m.kind=1→jP m.b=true
 notx:m.kind≠0→m.tx=⟨0,0⟩
 noblk:m.kind≠1→vG m.b jm=true
 noprep:m.kind≠3→m.prep=0
theorem JZ {m:ji}(h:qj m=true):XP m:=by
 rw[right_eq]at h;unfold ZV at h;split at h
 ·cases h
 rename_i hf;split at h
 ·cases h
 rename_i ho;simp only[Bool.or_eq_true,decide_eq_true_eq,not_or]at hf;have ho:(m.kind≠0→m.tx=⟨0,0⟩)∧(m.kind≠1→vG m.b jm=true)∧(m.kind≠3→m.prep=0):=by
  unfold Z8 at ho;simp only[Bool.or_eq_true,zG,Bool.not_eq_true',decide_eq_false_iff_not,not_or,not_and,Decidable.not_not,Bool.not_eq_false]at ho;exact⟨ho.1.1,ho.1.2,ho.2⟩
 unfold vX Jd Ju at h;have nr:=fun hn=>Pv (n:=m.value) hn
 have k:m.kind=0∨m.kind=1∨m.kind=2∨m.kind=3∨m.kind=4∨m.kind=5∨m.kind=6:=by
  by_cases a:m.kind=0∨m.kind=1∨m.kind=2∨m.kind=3∨m.kind=4∨m.kind=5∨m.kind=6
  ·exact a
  ·simp only[zM (show ¬m.kind=0 by omega),zM (show ¬m.kind=1 by omega),zM (show ¬m.kind=2 by omega),zM (show ¬m.kind=3 by omega),zM (show ¬(m.kind=4∨m.kind=5) by omega),zM (show ¬m.kind=6 by omega)]at h
   cases h
 rcases k with k |k |k |k |k |k |k
 ·simp only[k,zn,if_true,if_false,reduceIte,or_true,true_or,or_false,or_self,zG,Bool.or_eq_true,decide_eq_true_eq]at h;have hp:=ho.2.2;have hv:-1≤m.value∧m.value≤268435455:=by grind
  refine⟨by omega,by omega,by omega,by omega,hv,by grind,fun e=>by grind,fun e=>by grind,ho.1,ho.2.1,ho.2.2⟩
 ·simp only[k,zn,if_true,if_false,reduceIte,or_true,true_or,or_false,or_self,zG,Bool.or_eq_true,decide_eq_true_eq]at h;have hp:=ho.2.2;have hv:-1≤m.value∧m.value≤268435455:=by grind
  refine⟨by omega,by omega,by omega,by omega,hv,by grind,fun e=>by grind,fun e=>by grind,ho.1,ho.2.1,ho.2.2⟩
 ·simp only[k,zn,if_true,if_false,reduceIte,or_true,true_or,or_false,or_self,zG,Bool.or_eq_true,decide_eq_true_eq]at h;have hp:=ho.2.2;have hv:-1≤m.value∧m.value≤268435455:=by grind
  refine⟨by omega,by omega,by omega,by omega,hv,by grind,fun e=>by grind,fun e=>by grind,ho.1,ho.2.1,ho.2.2⟩
 ·simp only[k,zn,if_true,if_false,reduceIte,or_true,true_or,or_false,or_self,zG,Bool.or_eq_true,decide_eq_true_eq]at h;have hp:=ho.2.2;have hv:-1≤m.value∧m.value≤268435455:=by grind
  refine⟨by omega,by omega,by omega,by omega,hv,by grind,fun e=>by grind,fun e=>by grind,ho.1,ho.2.1,ho.2.2⟩
 ·simp only[k,zn,if_true,if_false,reduceIte,or_true,true_or,or_false,or_self,zG,Bool.or_eq_true,decide_eq_true_eq]at h;have hp:=ho.2.2;have hv:-1≤m.value∧m.value≤268435455:=by grind
  refine⟨by omega,by omega,by omega,by omega,hv,by grind,fun e=>by grind,fun e=>by grind,ho.1,ho.2.1,ho.2.2⟩
 ·simp only[k,zn,if_true,if_false,reduceIte,or_true,true_or,or_false,or_self,zG,Bool.or_eq_true,decide_eq_true_eq]at h;have hp:=ho.2.2;have hv:-1≤m.value∧m.value≤268435455:=by grind
  refine⟨by omega,by omega,by omega,by omega,hv,by grind,fun e=>by grind,fun e=>by grind,ho.1,ho.2.1,ho.2.2⟩
 ·simp only[k,zn,if_true,if_false,reduceIte,or_true,true_or,or_false,or_self,zG,Bool.or_eq_true,decide_eq_true_eq]at h;have hp:=ho.2.2;have hv:-1≤m.value∧m.value≤268435455:=by grind
  refine⟨by omega,by omega,by omega,by omega,hv,by grind,fun e=>by grind,fun e=>by grind,ho.1,ho.2.1,ho.2.2⟩
def Zy (m:ji):List UInt8:=if m.kind=0 then Yp m.tx else if m.kind=1 then ZA m.b else []
def JC (m:ji):List Int:=[m.kind,m.frm,m.index,m.view,m.value,m.prep]
def qX (m:ji):List UInt8:=encs (JC m)++Zy m
def Yh (m:ji):Nat:=(JA (ZH m.frm) (qX m)).toNat
def kE (m:ji):List UInt8:=enc (Yh m)++qX m
def KN (m:ji):zu:=if qj m then .tuple #[jk 2 (kE m),.int .i64 0]else .tuple #[.slice none 0 0,.int .i64 121]
theorem CO (key:Int) (b:List UInt8):0≤JA key b∧JA key b<18446744073709551616:=GR _ _
theorem CS (key:Int) (b:List UInt8):((JA key b).toNat:Int)=JA key b:=Int.toNat_of_nonneg (CO key b).1
theorem lJ (key:Int) (b:List UInt8):(JA key b).toNat<2 ^ 64:=by have:=CO key b;omega
theorem lQ {m:ji}(h:XP m):∀n∈JC m,-1≤n∧n≤268435455:=by
 intro n hn;have h1:=h.kind;have h2:=h.frm;have h3:=h.index;have h4:=h.view;have h5:=h.value;have h6:=h.prep;simp only[JC,List.mem_cons,List.not_mem_nil,or_false]at hn;rcases hn with rfl |rfl |rfl |rfl |rfl |rfl<;>omega
theorem lS {m:ji}(h:XP m):(encs (JC m)).length≤60:=by
 have h1:=lQ h;exact Qz (l:=JC m) (fun n hn=>by have:=h1 n hn;omega)
theorem oV {b:jR}(h:jP b=true):(ZA b).length≤140:=by
 have hh:headB b=true∧Za b.txs=true:=by simpa [jP]using h
 unfold ZA;have:=aW hh.1;have:=dK hh.2;rw[List.length_append];omega
theorem UQ {m:ji}(h:XP m):(Zy m).length≤140:=by
 unfold Zy;split
 ·rename_i h0;have:=ny (h.tx h0);omega
 split
 ·rename_i h1;exact oV (h.blk h1)
 ·simp
theorem fK {m:ji}(h:XP m):(qX m).length≤200:=by
 unfold qX;have:=lS h;have:=UQ h;rw[List.length_append];omega
theorem fO (a b c d e f:Int) (S:zS):yO zi 24 6 [(0,.int .i64 a),(1,.int .i64 b),(2,.int .i64 c),(3,.int .i64 d),(4,.int .i64 e),(5,.int .i64 f)] S=some (iz 2 [a,b,c,d,e,f],S):=by kernel_rfl
theorem yN.v {m:ji}(hm:m.Ok) (S:zS):zU zi O yN.id [mv m] S=some (KN m,S):=by
 obtain⟨T,hTe⟩:∃T,T=(mv m::zh::[zh,zh,zh,zh,zh,zh,zh,zh,zh,zh,zh,zh,zh,zh,zh,zh,zh,zh,zh,zh,zh,zh,zh,zh,zh,zh,zh,zh,zh,zh,zh,zh,zh,zh,zh,zh,zh,zh,zh,zh,zh,zh,zh,zh,zh,zh,zh,zh,zh,zh,zh,zh,zh,zh,zh,zh,zh,zh,zh,zh]):=⟨_,rfl⟩;have hr:=Eq.refl (zX zi O false yN.code T zS.empty);have g0:=JV m;have hc:[mv m].all (jw 16)=true:=all1 (kL hm.b.okl.le);have c0:∀S,zU zi O 34 [mv m] S=some (.bool (qj m),S):=fun S=>by rw[right_eq];exact jo.v hm S
 unfold KN;cases hR:qj m
 ·rw[hR]at c0;conv at hr=>
   rhs;rw[hTe];simp only[yN.code,yN.rs,jc,reduceIte,zk,zn,zo,zq,yE,jE,jU,wM,wP,jX,wY,wQ,wz,jA g0,jV g0,wo g0,wG g0,jO g0,wV g0,wX g0,wL g0 hm.b.ne,wO g0 hm.b.ne,c0]
  rw[hTe]at hr;exact yN.runs hr (.inr rfl) rfl rfl hc rfl
 ·rw[hR]at c0;have hf:=JZ hR;have few:=lQ hf;have c2:∀S,zU zi O 35 [iz 1 [m.kind,m.frm,m.index,m.view,m.value,m.prep]] S=some (.tuple #[jk 2 (encs (JC m)),.int .i64 0],S):=fun S=>by
   rw[wF.v (l:=[m.kind,m.frm,m.index,m.view,m.value,m.prep]) je.read (by decide) (fun n hn=>by have:=few n hn;omega) S,KO (l:=[m.kind,m.frm,m.index,m.view,m.value,m.prep]) (by simp) (fun n hn=>(few n hn).1) (by simp)];rfl
  have ck:∀S,zU zi O 40 [.int .i64 m.frm] S=some (.int .u64 (ZH m.frm),S):=fun S=>YL.v hf.frm.1 hf.frm.2 S
  have cn:∀b S,zU zi O 38 [.int .u64 (JA (ZH m.frm) b)] S=some (jk 2 (enc (JA (ZH m.frm) b).toNat),S):=fun b S=>by
   have:=qF.v (JA (ZH m.frm) b).toNat (lJ _ _) S;rw[CS]at this;exact this
  have a0:∀S,yF zi 33 33 (jk 2 (enc (Yh m))) (jk 1 (qX m)) S=some (jk 2 (kE m),S):=fun S=>by
   rw[Wj je.own (by decide) je.read (by have:=fK hf;have:=Xn (lJ (ZH m.frm) (qX m));unfold Yh;omega)];rfl
  have em:enc (JA (ZH m.frm) (qX m)).toNat=enc (Yh m):=rfl;have cof:∀S,zU zi O 39 [.int .u64 (ZH m.frm),jk 1 (qX m)] S=some (.int .u64 (JA (ZH m.frm) (qX m)),S):=fun S=>yG.v je.read (by decide) (by have:=fK hf;omega) S
  have hcv:jw 16 (.tuple #[jk 2 (kE m),.int .i64 0])=true:=Zx (all2 (vU (k:=2) (Nat.le_refl 2)) rfl);by_cases k0:m.kind=0
  ·have c3:∀S,zU zi O 36 [tv m.tx] S=some (.tuple #[jk 2 (Yp m.tx),.int .i64 0],S):=fun S=>by
    rw[xU.v m.tx S,KT,zN (hf.tx k0)]
   have a1:∀S,yF zi 33 33 (jk 2 (encs (JC m))) (jk 1 (Yp m.tx)) S=some (jk 2 (qX m),S):=fun S=>by
    rw[Wj je.own (by decide) je.read (by have:=lS hf;have:=ny (hf.tx k0);omega)]
    rw[zM (by omega)];simp only[qX,Zy,zN k0]
   conv at hr=>
    rhs;rw[hTe];simp only[yN.code,yN.rs,jc,reduceIte,zk,zn,zo,zq,yE,jE,jU,wM,wP,jX,wY,wQ,wz,jA g0,jV g0,wo g0,wG g0,jO g0,wV g0,wX g0,wL g0 hm.b.ne,wO g0 hm.b.ne,c0,fO,c2,zL k0,zK (show ¬m.kind=1 by omega),c3,a1,ck,aA,cof,cn,em,a0]
   rw[hTe]at hr;exact yN.runs hr (.inr rfl) (by simp only[List.getD_cons_succ,List.getD_cons_zero,qQ,kH,kJ,kG,kF]) rfl hc hcv
  by_cases k1:m.kind=1
  ·have c3:∀S,zU zi O 37 [bv m.b] S=some (.tuple #[jk 2 (ZA m.b),.int .i64 0],S):=fun S=>by
    rw[kP.v hm.b S,Kz,zN (hf.blk k1)]
   have a1:∀S,yF zi 33 33 (jk 2 (encs (JC m))) (jk 1 (ZA m.b)) S=some (jk 2 (qX m),S):=fun S=>by
    rw[Wj je.own (by decide) je.read (by have:=lS hf;have:=oV (hf.blk k1);omega)]
    rw[zM (by omega)];simp only[qX,Zy,zM k0,zN k1]
   conv at hr=>
    rhs;rw[hTe];simp only[yN.code,yN.rs,jc,reduceIte,zk,zn,zo,zq,yE,jE,jU,wM,wP,jX,wY,wQ,wz,jA g0,jV g0,wo g0,wG g0,jO g0,wV g0,wX g0,wL g0 hm.b.ne,wO g0 hm.b.ne,c0,fO,c2,zK k0,zL k1,c3,a1,ck,aA,cof,cn,em,a0]
   rw[hTe]at hr;exact yN.runs hr (.inr rfl) (by simp only[List.getD_cons_succ,List.getD_cons_zero,qQ,kH,kJ,kG,kF]) rfl hc hcv
  have eb:encs (JC m)=qX m:=by simp only[qX,Zy,zM k0,zM k1,List.append_nil]
  conv at hr=>
   rhs;rw[hTe];simp only[yN.code,yN.rs,jc,reduceIte,zk,zn,zo,zq,yE,jE,jU,wM,wP,jX,wY,wQ,wz,jA g0,jV g0,wo g0,wG g0,jO g0,wV g0,wX g0,wL g0 hm.b.ne,wO g0 hm.b.ne,c0,fO,c2,zK k0,zK k1,eb,ck,aA,cof,cn,em,a0]
  rw[hTe]at hr;exact yN.runs hr (.inr rfl) (by simp only[List.getD_cons_succ,List.getD_cons_zero,qQ,kH,kJ,kG,kF]) rfl hc hcv
theorem Qi {a b:jR}:vG a b=true↔a.slot=b.slot∧a.miner=b.miner∧a.variant=b.variant∧a.parent=b.parent∧a.txs=b.txs:=by
 simp[vG]
theorem bY {m:ji}{b:jR}(h:vG m.b b=true):qj { m with b:=b }=qj m:=by
 rw[right_eq,right_eq];obtain⟨k,f,i,v,w,p,t,c⟩:=m;obtain⟨c1,c2,c3,c4,c5,c6⟩:=c;obtain⟨b1,b2,b3,b4,b5,b6⟩:=b;obtain⟨e1,e2,e3,e4,e5⟩:=Qi.1 h;dsimp only at e1 e2 e3 e4 e5;subst e1 e2 e3 e4 e5;rfl
theorem Eh (l:List UInt8):qh 6 l=none∨∃a b c d e f r,qh 6 l=some ([a,b,c,d,e,f],r)∧r.length≤l.length:=by
 cases h:qh 6 l with
 |none=>exact .inl rfl
 |some ar=>
  obtain⟨a,r⟩:=ar;obtain⟨h1,h2⟩:=bW h
  match a,h1 with
  | [x,y,z,w,u,v],_=>exact .inr ⟨x,y,z,w,u,v,r,rfl,h2⟩
theorem XW {x:ji}(hx:qj x=true):qh 6 (qX x)=some (JC x,Zy x):=by
 have f1:=lQ (JZ hx);exact(ZF _ _ _ _).mpr ⟨rfl,rfl,fun n hn=>by have:=f1 n hn;unfold Zk;omega⟩
theorem Qv {l r:List UInt8} {a b c d e f:Int}(h:qh 6 l=some ([a,b,c,d,e,f],r)) {x:ji}(hx:qj x=true) (hl:l=qX x) :
  x.kind=a∧x.frm=b∧x.index=c∧x.view=d∧x.value=e∧x.prep=f∧Zy x=r:=by
 have:=XW hx;rw[←hl,h]at this;simp only[Option.some.injEq,Prod.mk.injEq,JC,List.cons.injEq,and_true]at this;obtain⟨⟨h1,h2,h3,h4,h5,h6⟩,h7⟩:=this;exact⟨h1.symm,h2.symm,h3.symm,h4.symm,h5.symm,h6.symm,h7.symm⟩
def Ku (l:List UInt8) (m:ji) (ok:Bool):Prop:=m.Ok∧m.b.txs.length≤3∧((ok=true∧qj m=true∧l=qX m)∨(ok=false∧∀x,qj x=true→l≠qX x))
theorem Wu :m0.Ok:=by
 have z:Big 0:=⟨by omega,by omega⟩
 exact⟨ok0,⟨z,z⟩,z,z,z,z,z,z⟩
theorem qC {n:Int}(h:Zk n):Big n:=by unfold Zk at h;unfold Big;omega
theorem Ew {t:jG}(h:qG t=true):t.Ok:=by
 have:=YR.1 h;exact⟨⟨by omega,by omega⟩,⟨by omega,by omega⟩⟩
section
variable {l r:List UInt8} {a b c d e f:Int}
theorem RJ {t:jG}(h:qh 6 l=some ([a,b,c,d,e,f],r)) (ha:a=0) (ht:Yq r=some t):Ku l ⟨a,b,c,d,e,f,t,jm⟩ (qj ⟨a,b,c,d,e,f,t,jm⟩):=by
 obtain⟨_,g2,few⟩:=(ZF _ _ _ _).mp h;obtain⟨t1,t2⟩:=(KU r t).1 ht;refine⟨⟨ok0,Ew t1,qC (few _ (by simp)),qC (few _ (by simp)),qC (few _ (by simp)),qC (few _ (by simp)),qC (few _ (by simp)),qC (few _ (by simp))⟩,by simp,?_⟩
 cases hR:qj ⟨a,b,c,d,e,f,t,jm⟩
 ·refine .inr ⟨rfl,fun x hx hl=>?_⟩
  obtain⟨i1,i2,i3,i4,i5,i6,i7⟩:=Qv h hx hl;have hf:=JZ hx;have k0:x.kind=0:=by omega
  have h3:=(KU r x.tx).2 ⟨hf.tx k0,by rw[←i7,Zy,zN k0]⟩
  rw[ht]at h3;have:=bY (m:=x) (b:=jm) (hf.noblk (by omega))
  rw[hx]at this;have e:({ x with b:=jm }:ji)=⟨a,b,c,d,e,f,t,jm⟩:=mk_eq i1 i2 i3 i4 i5 i6 (by injection h3 with h3;exact h3.symm) rfl
  rw[e,hR]at this;cases this
 ·refine .inl ⟨rfl,rfl,?_⟩;rw[g2,t2];simp only[qX,JC,Zy,zN ha]
theorem RN {t:jG}(h:qh 6 l=some ([a,b,c,d,e,f],r)) (ha:a=0) (ht:Yq r=none):Ku l ⟨a,b,c,d,e,f,⟨0,0⟩,jm⟩ false:=by
 obtain⟨_,g2,few⟩:=(ZF _ _ _ _).mp h;refine⟨⟨ok0,Wu.tx,qC (few _ (by simp)),qC (few _ (by simp)),qC (few _ (by simp)),qC (few _ (by simp)),qC (few _ (by simp)),qC (few _ (by simp))⟩,by simp,.inr ⟨rfl,fun x hx hl=>?_⟩⟩
 obtain⟨i1,i2,i3,i4,i5,i6,i7⟩:=Qv h hx hl;have k0:x.kind=0:=by omega
 have h3:=(KU r x.tx).2 ⟨(JZ hx).tx k0,by rw[←i7,Zy,zN k0]⟩
 rw[ht]at h3;cases h3
theorem RF {y:jR}(h:qh 6 l=some ([a,b,c,d,e,f],r)) (ha:a=1) (hy:y.Ok) (hy3:y.txs.length≤3) (hb:Yy r=some ⟨y.slot,y.miner,y.variant,y.parent,0,y.txs⟩):Ku l ⟨a,b,c,d,e,f,⟨0,0⟩,y⟩ (qj ⟨a,b,c,d,e,f,⟨0,0⟩,y⟩):=by
 obtain⟨_,g2,few⟩:=(ZF _ _ _ _).mp h;obtain⟨⟨t1,_⟩,t2⟩:=(Xi r _).1 hb;refine⟨⟨hy,Wu.tx,qC (few _ (by simp)),qC (few _ (by simp)),qC (few _ (by simp)),qC (few _ (by simp)),qC (few _ (by simp)),qC (few _ (by simp))⟩,hy3,?_⟩
 cases hR:qj ⟨a,b,c,d,e,f,⟨0,0⟩,y⟩
 ·refine .inr ⟨rfl,fun x hx hl=>?_⟩
  obtain⟨i1,i2,i3,i4,i5,i6,i7⟩:=Qv h hx hl;have hf:=JZ hx;have k1:x.kind=1:=by omega
  have h3:=(Xi r ⟨x.b.slot,x.b.miner,x.b.variant,x.b.parent,0,x.b.txs⟩).2 ⟨⟨hf.blk k1,rfl⟩,by rw[←i7,Zy,zM (by omega),zN k1];rfl⟩
  rw[hb]at h3;simp only[Option.some.injEq,jR.mk.injEq,true_and]at h3;have:=bY (m:=x) (b:=y) (Qi.2 ⟨h3.1.symm,h3.2.1.symm,h3.2.2.1.symm,h3.2.2.2.1.symm,h3.2.2.2.2.symm⟩);rw[hx]at this;have e:({ x with b:=y }:ji)=⟨a,b,c,d,e,f,⟨0,0⟩,y⟩:=mk_eq i1 i2 i3 i4 i5 i6 (hf.notx (by omega)) rfl
  rw[e,hR]at this;cases this
 ·refine .inl ⟨rfl,rfl,?_⟩;rw[g2,t2];simp only[qX,JC,Zy,zN ha,zM (show ¬a=0 by omega)]
  rfl
theorem RG (h:qh 6 l=some ([a,b,c,d,e,f],r)) (ha:a=1) (hb:Yy r=none):Ku l ⟨a,b,c,d,e,f,⟨0,0⟩,jm⟩ false:=by
 obtain⟨_,g2,few⟩:=(ZF _ _ _ _).mp h;refine⟨⟨ok0,Wu.tx,qC (few _ (by simp)),qC (few _ (by simp)),qC (few _ (by simp)),qC (few _ (by simp)),qC (few _ (by simp)),qC (few _ (by simp))⟩,by simp,.inr ⟨rfl,fun x hx hl=>?_⟩⟩
 obtain⟨i1,i2,i3,i4,i5,i6,i7⟩:=Qv h hx hl;have k1:x.kind=1:=by omega
 have h3:=(Xi r ⟨x.b.slot,x.b.miner,x.b.variant,x.b.parent,0,x.b.txs⟩).2 ⟨⟨(JZ hx).blk k1,rfl⟩,by rw[←i7,Zy,zM (by omega),zN k1];rfl⟩
 rw[hb]at h3;cases h3
theorem RH (h:qh 6 l=some ([a,b,c,d,e,f],r)) (h0:a≠0) (h1:a≠1):Ku l ⟨a,b,c,d,e,f,⟨0,0⟩,jm⟩ (decide ((r.length:Int)=0)&&qj ⟨a,b,c,d,e,f,⟨0,0⟩,jm⟩):=by
 obtain⟨_,g2,few⟩:=(ZF _ _ _ _).mp h;refine⟨⟨ok0,Wu.tx,qC (few _ (by simp)),qC (few _ (by simp)),qC (few _ (by simp)),qC (few _ (by simp)),qC (few _ (by simp)),qC (few _ (by simp))⟩,by simp,?_⟩
 cases hR:(decide ((r.length:Int)=0)&&qj ⟨a,b,c,d,e,f,⟨0,0⟩,jm⟩)
 ·refine .inr ⟨rfl,fun x hx hl=>?_⟩
  obtain⟨i1,i2,i3,i4,i5,i6,i7⟩:=Qv h hx hl;have hf:=JZ hx;rw[Zy,zM (by omega),zM (by omega)]at i7
  have:=bY (m:=x) (b:=jm) (hf.noblk (by omega))
  rw[hx]at this;have e:({ x with b:=jm }:ji)=⟨a,b,c,d,e,f,⟨0,0⟩,jm⟩:=mk_eq i1 i2 i3 i4 i5 i6 (hf.notx (by omega)) rfl
  rw[e]at this;rw[this,←i7]at hR;simp at hR
 ·rw[zG,decide_eq_true_eq]at hR;refine .inl ⟨rfl,hR.2,?_⟩;have hr0:r=[]:=List.length_eq_zero_iff.1 (by omega)
  rw[g2,hr0];simp only[qX,JC,Zy,zM h0,zM h1]
theorem RI (h:qh 6 l=none):Ku l m0 false:=⟨Wu,by simp,.inr ⟨rfl,fun x hx hl=>by
 have:=XW hx;rw[←hl,h]at this;cases this⟩⟩
end
theorem jW.v {k:Nat}{l:List UInt8} (hk:je k l) (k2:k≠2) (hl:l.length≤140737488355328):∃m ok,Ku l m ok∧∀S,zU zi O jW.id [jk k l] S=some (.tuple #[mv m,.bool ok],S):=by
 have a1:wR zi 48 zS.empty=some (.pointer (some ⟨0,0,none⟩),vw m0):=Zv zS.empty;have g1:=JV m0;have ne0:(0:Nat)≠2:=by decide
 have cl:[jk k l].all (jw 16)=true:=all1 (vU (k:=k) hk.le);obtain⟨T,hTe⟩:∃T,T=(jk k l::zh::zh::zh::zh::zh::zh::zh::zh::[zh,zh,zh,zh,zh,zh,zh,zh,zh,zh,zh,zh,zh,zh,zh,zh,zh,zh,zh,zh,zh,zh,zh,zh,zh,zh,zh,zh,zh,zh,zh,zh,zh,zh,zh,zh,zh,zh,zh,zh,zh,zh,zh,zh,zh,zh,zh,zh,zh,zh,zh,zh,zh,zh,zh,zh,zh,zh,zh,zh]):=⟨_,rfl⟩;have hr:=Eq.refl (zX zi O false jW.code T zS.empty);have c1:=fun S=>jT.v (many:=6) hk k2 hl S
 have r1:∀k0 k1,JY k0 k1 6 l=_:=fun k0 k1=>QU (m:=6) (by decide) (by decide)
 rw[r1]at c1;rcases Eh l with h |⟨a,b,c,d,e,f,r,h,hlr⟩
 ·rw[h]at c1;refine⟨m0,false,RI h,fun S=>?_⟩
  have s1:=vS g1 m0;conv at hr=>
   rhs;rw[hTe];simp only[jW.code,jW.rs,jc,reduceIte,zk,zn,zo,zq,zM k2,a1,c1,wO g1 (by decide),s1]
  rw[hTe]at hr;exact jW.runs hr (.inr rfl) (wO (yU _ 0 m0) (by decide)) rfl rfl cl rfl
 ·rw[h]at c1;have i0:=fun S=>ZC (k:=1) (i:=0) (m:=0) (l:=[a,b,c,d,e,f]) je.read rfl rfl S
  have i1:=fun S=>ZC (k:=1) (i:=1) (m:=1) (l:=[a,b,c,d,e,f]) je.read rfl rfl S
  have i2:=fun S=>ZC (k:=1) (i:=2) (m:=2) (l:=[a,b,c,d,e,f]) je.read rfl rfl S
  have i3:=fun S=>ZC (k:=1) (i:=3) (m:=3) (l:=[a,b,c,d,e,f]) je.read rfl rfl S
  have i4:=fun S=>ZC (k:=1) (i:=4) (m:=4) (l:=[a,b,c,d,e,f]) je.read rfl rfl S
  have i5:=fun S=>ZC (k:=1) (i:=5) (m:=5) (l:=[a,b,c,d,e,f]) je.read rfl rfl S
  have bd:=fun S=>oO (y0:=.int .i64 a) (y1:=.int .i64 b) (y2:=.int .i64 c) (y3:=.int .i64 d) (y4:=.int .i64 e) (y5:=.int .i64 f) vJ vJ vJ vJ vJ vJ S
  have s1:jI zi 48 (.pointer (some ⟨0,0,none⟩)) (.agg [Value.int .i64 a,.int .i64 b,.int .i64 c,.int .i64 d,.int .i64 e,.int .i64 f,.int .i64 0,.int .i64 0,.int .i64 0,.int .i64 0,.int .i64 0,.int .i64 0,.slice none 0 0].toArray) (vw m0)=some (zh,jQ (vw m0) 0 ⟨a,b,c,d,e,f,⟨0,0⟩,jm⟩):=vS g1 ⟨a,b,c,d,e,f,⟨0,0⟩,jm⟩;have g2:=yU (vw m0) 0 ⟨a,b,c,d,e,f,⟨0,0⟩,jm⟩;generalize jQ (vw m0) 0 ⟨a,b,c,d,e,f,⟨0,0⟩,jm⟩=A2 at s1 g2;by_cases k0:a=0
  ·obtain⟨t,x,o1,o2⟩:=Fj r;have c2:=fun S=>qV.v (k:=1) (l:=r) je.read (by decide) (by omega) S
   rw[o1]at c2;have s2:=mY g2 t;have g3:=yU A2 0 ⟨a,b,c,d,e,f,t,jm⟩;dsimp only at s2;generalize jQ A2 0 ⟨a,b,c,d,e,f,t,jm⟩=A3 at s2 g3;have s3:=vS g3 ⟨a,b,c,d,e,f,t,jm⟩;have fin:=wO (yU A3 0 ⟨a,b,c,d,e,f,t,jm⟩) (by show(0:Nat)≠2;decide)
   rcases o2 with ⟨rfl,o2⟩ |⟨rfl,o2,rfl⟩
   ·have hP:=RJ h k0 o2;have c3:=fun S=>wH.v hP.1 S
    refine⟨_,_,hP,fun S=>?_⟩
    conv at hr=>
     rhs;rw[hTe];simp only[jW.code,jW.rs,jc,reduceIte,zk,zn,zo,zq,zM k2,a1,c1,i0,i1,i2,i3,i4,i5,kS,bd,s1,jE,jA g2,zL k0,c2,wQ,s2,wO g3 ne0,qy (Wv _),c3,ZG g3,s3]
    rw[hTe]at hr;exact jW.runs hr (.inr rfl) fin rfl rfl cl (Zx (all2 (kL hP.1.b.okl.le) rfl))
   ·have hP:=RN (t:=⟨0,0⟩) h k0 o2;refine⟨_,_,hP,fun S=>?_⟩
    conv at hr=>
     rhs;rw[hTe];simp only[jW.code,jW.rs,jc,reduceIte,zk,zn,zo,zq,zM k2,a1,c1,i0,i1,i2,i3,i4,i5,kS,bd,s1,jE,jA g2,zL k0,c2,wQ,s2,wO g3 ne0,qy (Wv _),ZG g3,s3]
    rw[hTe]at hr;exact jW.runs hr (.inr rfl) fin rfl rfl cl (Zx (all2 (kL hP.1.b.okl.le) rfl))
  by_cases k1:a=1
  ·obtain⟨y,x,⟨hy,hy3,o2⟩,c2⟩:=yI.v (k:=1) (l:=r) je.read (by decide) (by omega)
   have s2:=mZ g2 y;have g3:=yU A2 0 ⟨a,b,c,d,e,f,⟨0,0⟩,y⟩;dsimp only at s2;generalize jQ A2 0 ⟨a,b,c,d,e,f,⟨0,0⟩,y⟩=A3 at s2 g3;have s3:=vS g3 ⟨a,b,c,d,e,f,⟨0,0⟩,y⟩;have fin:=wO (yU A3 0 ⟨a,b,c,d,e,f,⟨0,0⟩,y⟩) hy.ne;rcases o2 with ⟨rfl,o2,_⟩ |⟨rfl,o2,rfl⟩
   ·have hP:=RF h k1 hy hy3 o2;have c3:=fun S=>wH.v hP.1 S
    refine⟨_,_,hP,fun S=>?_⟩
    conv at hr=>
     rhs;rw[hTe];simp only[jW.code,jW.rs,jc,reduceIte,zk,zn,zo,zq,zM k2,a1,c1,i0,i1,i2,i3,i4,i5,kS,bd,s1,jE,jA g2,zK k0,zL k1,c2,wz,s2,wO g3 hy.ne,qy (Wv _),c3,ZG g3,s3]
    rw[hTe]at hr;exact jW.runs hr (.inr rfl) fin rfl rfl cl (Zx (all2 (kL hP.1.b.okl.le) rfl))
   ·have hP:=RG h k1 o2;refine⟨_,_,hP,fun S=>?_⟩
    conv at hr=>
     rhs;rw[hTe];simp only[jW.code,jW.rs,jc,reduceIte,zk,zn,zo,zq,zM k2,a1,c1,i0,i1,i2,i3,i4,i5,kS,bd,s1,jE,jA g2,zK k0,zL k1,c2,wz,s2,wO g3 ne0,qy (Wv _),ZG g3,s3]
    rw[hTe]at hr;exact jW.runs hr (.inr rfl) fin rfl rfl cl (Zx (all2 (kL hP.1.b.okl.le) rfl))
  have hP:=RH h k0 k1;have c3:=fun S=>wH.v hP.1 S
  have ln:∀S,yK zi 33 (jk 1 r) S=some (.int .i64 r.length,S):=fun S=>Jm je.read
  have s3:=vS g2 ⟨a,b,c,d,e,f,⟨0,0⟩,jm⟩;have fin:=wO (yU A2 0 ⟨a,b,c,d,e,f,⟨0,0⟩,jm⟩) (by show(0:Nat)≠2;decide)
  refine⟨_,_,hP,fun S=>?_⟩
  conv at hr=>
   rhs;rw[hTe];simp only[jW.code,jW.rs,jc,reduceIte,zk,zn,zo,zq,zM k2,a1,c1,i0,i1,i2,i3,i4,i5,kS,bd,s1,jE,jA g2,zK k0,zK k1,ln,wO g2 ne0,zV (wO g2 ne0),zV (c3 _),kY,qy (Wv _),ZG g2,s3]
  rw[hTe]at hr;exact jW.runs hr (.inr rfl) fin rfl rfl cl (Zx (all2 (kL hP.1.b.okl.le) rfl))
theorem Qj {x y:ji}:Zj x y=true↔x.kind=y.kind∧x.frm=y.frm∧x.index=y.index∧x.view=y.view∧x.value=y.value∧x.prep=y.prep∧x.tx=y.tx∧vG x.b y.b=true:=by
 simp[Zj]
theorem Tq {a b:jR}(h:vG a b=true):vG b a=true:=by
 rw[Qi]at h ⊢;exact⟨h.1.symm,h.2.1.symm,h.2.2.1.symm,h.2.2.2.1.symm,h.2.2.2.2.symm⟩
theorem Tt {a b c:jR}(h:vG a b=true) (k:vG b c=true):vG a c=true:=by
 rw[Qi]at h k ⊢;exact⟨h.1.trans k.1,h.2.1.trans k.2.1,h.2.2.1.trans k.2.2.1,h.2.2.2.1.trans k.2.2.2.1,h.2.2.2.2.trans k.2.2.2.2⟩
theorem Tv (m:ji):Zj m m=true:=Qj.2 ⟨rfl,rfl,rfl,rfl,rfl,rfl,rfl,QY _⟩
theorem like {x y:ji}(h:Zj x y=true):qj y=qj x∧qX y=qX x∧kE y=kE x:=by
 obtain⟨h1,h2,h3,h4,h5,h6,h7,h8⟩:=Qj.1 h;have e:y={ x with b:=y.b }:=mk_eq h1.symm h2.symm h3.symm h4.symm h5.symm h6.symm h7.symm rfl
 have hb:qX y=qX x:=by
  obtain⟨s1,s2,s3,s4,s5⟩:=Qi.1 h8;simp only[qX,JC,Zy,ZA,←h1,←h2,←h3,←h4,←h5,←h6,←h7,←s1,←s2,←s3,←s4,←s5]
 refine⟨?_,hb,?_⟩
 ·rw[e];exact bY h8
 ·simp only[kE,Yh,hb,←h2]
theorem pG {x y:ji}(hx:qj x=true) (hy:qj y=true) (h:qX x=qX y):Zj x y=true:=by
 have e:=XW hx;rw[h,XW hy]at e;simp only[Option.some.injEq,Prod.mk.injEq,JC,List.cons.injEq,and_true]at e;obtain⟨⟨h1,h2,h3,h4,h5,h6⟩,h7⟩:=e;have fx:=JZ hx;have fy:=JZ hy;refine Qj.2 ⟨h1.symm,h2.symm,h3.symm,h4.symm,h5.symm,h6.symm,?_,?_⟩
 ·by_cases k:x.kind=0
  ·have ky:y.kind=0:=by omega
   rw[Zy,Zy,zN k,zN ky]at h7;exact(Fh (r:=[]) (s:=[]) (fx.tx k) (fy.tx ky) (by rw[List.append_nil,List.append_nil,h7])).1
  ·rw[fx.notx k,fy.notx (by omega)]
 ·by_cases k:x.kind=1
  ·have ky:y.kind=1:=by omega
   rw[Zy,Zy,zM (show ¬y.kind=0 by omega),zM (show ¬x.kind=0 by omega),zN ky,zN k]at h7
   exact Qi.2 (fH (r:=[]) (s:=[]) (fx.blk k) (fy.blk ky) (by rw[List.append_nil,List.append_nil,h7])).1
  ·exact Tt (fx.noblk k) (Tq (fy.noblk (by omega)))
theorem Vr (m:ji):Yh m<2 ^ 64:=lJ _ _
theorem CW {x y:ji}(hx:qj x=true) (hy:qj y=true) (h:kE x=kE y):Zj x y=true :=
 pG hx hy (MQ (Vr x) (Vr y) h).2
def ZY (l:List UInt8) (m:ji) (e:Int):Prop:=m.Ok∧m.b.txs.length≤3∧((e=0∧qj m=true∧l=kE m)∨(e=121∧m=m0∧∀x,qj x=true→l≠kE x))
theorem En {l:List UInt8} (h:scan 0 0 l=none):ZY l m0 121:=⟨Wu,by simp,.inr ⟨rfl,rfl,fun x hx hl=>by
 have:=VG (Vr x) (qX x);rw[show enc (Yh x)++qX x=l from hl.symm,h]at this
 cases this⟩⟩
theorem cO {l r:List UInt8} {n:Nat}(h:scan 0 0 l=some (n,r)) {x:ji}(hl:l=kE x):n=Yh x∧r=qX x:=by
 have:=VG (Vr x) (qX x);rw[show enc (Yh x)++qX x=l from hl.symm,h]at this
 simpa using this
theorem y9.v {k:Nat}{l:List UInt8} (hk:je k l) (k2:k≠2) (hl:l.length≤140737488355328):∃m e,ZY l m e∧∀S,zU zi O y9.id [jk k l] S=some (.tuple #[mv m,.int .i64 e],S):=by
 have a1:wR zi 48 zS.empty=some (.pointer (some ⟨0,0,none⟩),vw m0):=Zv zS.empty;have g1:=JV m0;have ne0:(0:Nat)≠2:=by decide
 have cl:[jk k l].all (jw 16)=true:=all1 (vU (k:=k) hk.le);obtain⟨T,hTe⟩:∃T,T=(jk k l::[zh,zh,zh,zh,zh,zh,zh,zh,zh,zh,zh,zh,zh,zh,zh,zh,zh,zh,zh,zh,zh,zh,zh,zh,zh,zh,zh,zh,zh,zh,zh,zh,zh,zh,zh]):=⟨_,rfl⟩;have hr:=Eq.refl (zX zi O false y9.code T zS.empty);have c1:=fun S=>yL.v hk k2 hl S
 unfold YP at c1;have z0:∀S,wS zi 48 [] S=some (mv m0,S):=fun S=>oN S
 cases h:scan 0 0 l with
 |none=>
  rw[h]at c1;have s1:=vS g1 m0;refine⟨m0,121,En h,fun S=>?_⟩
  conv at hr=>
   rhs;rw[hTe];simp only[y9.code,y9.rs,jc,reduceIte,zk,zn,zo,zq,zM k2,a1,c1,z0,s1]
  rw[hTe]at hr;exact y9.runs hr (.inr rfl) (wO (yU _ 0 m0) ne0) rfl rfl cl rfl
 |some nr=>
  obtain⟨n,r⟩:=nr;rw[h]at c1;obtain⟨hn,hlr⟩:=VH l 0 0 (by decide) (by decide) n r h
  obtain⟨m,ok,⟨mo,m3,hP⟩,c2⟩:=jW.v (k:=1) (l:=r) je.read (by decide) (by omega)
  have a2:wR zi 48 (vw m0)=some (.pointer (some ⟨1,0,none⟩),Ws m0 m0):=Zv (vw m0);have s1:=vS (lF m0 m0) m;have g2:=yU (Ws m0 m0) 1 m;have g3:(jQ (Ws m0 m0) 1 m).get 0=some (.cells (fM m0) (.own []) 0):=(qg (by decide)).trans (lD m0 m0)
  generalize jQ (Ws m0 m0) 1 m=A2 at s1 g2 g3;have s2:=vS g3 m0;have f2:=wO (yU A2 0 m0) ne0;have s3:=vS g3 m;have f3:=wO (yU A2 0 m) mo.b.ne;rcases hP with ⟨rfl,hR,hb⟩ |⟨rfl,hP⟩
  ·have ck:=fun S=>ZL.v m.frm S
   have ct:=fun S=>ZM.v (k:=1) (l:=r) je.read rfl (by omega) (key:=ZH m.frm) (mark:=n) S
   have em:JA (ZH m.frm) r=(Yh m:Nat):=by rw[hb];exact(CS _ _).symm
   by_cases hq:JA (ZH m.frm) r=n
   ·refine⟨m,0,⟨mo,m3,.inl ⟨rfl,hR,?_⟩⟩,fun S=>?_⟩
    ·rw[(EG h).1,kE,←hb]
     congr 2
     omega
    rw[zL hq]at ct;conv at hr=>
     rhs;rw[hTe];simp only[y9.code,y9.rs,jc,reduceIte,zk,zn,zo,zq,zM k2,a1,c1,c2,a2,s1,jU,jV g2,ck,ct,wO g2 mo.b.ne,s3]
    rw[hTe]at hr;exact y9.runs hr (.inr rfl) f3 rfl rfl cl (Zx (all2 (kL mo.b.okl.le) rfl))
   ·refine⟨m0,121,⟨Wu,by simp,.inr ⟨rfl,rfl,fun x hx hl=>?_⟩⟩,fun S=>?_⟩
    ·obtain⟨i1,i2⟩:=cO h hl;have hs:=pG hx hR (by rw[←i2,hb])
     refine hq ?_;rw[em,i1];simp only[Yh,(like hs).2.1,(Qj.1 hs).2.1]
    rw[zK hq]at ct;conv at hr=>
     rhs;rw[hTe];simp only[y9.code,y9.rs,jc,reduceIte,zk,zn,zo,zq,zM k2,a1,c1,c2,a2,s1,jU,jV g2,ck,ct,z0,s2]
    rw[hTe]at hr;exact y9.runs hr (.inr rfl) f2 rfl rfl cl rfl
  ·refine⟨m0,121,⟨Wu,by simp,.inr ⟨rfl,rfl,fun x hx hl=>hP x hx (cO h hl).2⟩⟩,fun S=>?_⟩
   conv at hr=>
    rhs;rw[hTe];simp only[y9.code,y9.rs,jc,reduceIte,zk,zn,zo,zq,zM k2,a1,c1,c2,a2,s1,z0,s2]
   rw[hTe]at hr;exact y9.runs hr (.inr rfl) f2 rfl rfl cl rfl
theorem mF {l r:List UInt8} {n:Nat}(h:scan 0 0 l=some (n,r)) {m:ji}(hm:m.Ok) (h3:m.b.txs.length≤3) (hP:∀x,qj x=true→r=qX x→Zj x m=true) :
  ZY l (if qj m=true∧kE m=l then m else m0) (if qj m=true∧kE m=l then 0 else 121):=by
 by_cases hq:qj m=true∧kE m=l
 ·rw[zN hq,zN hq];exact⟨hm,h3,.inl ⟨rfl,hq.1,hq.2.symm⟩⟩
 ·rw[zM hq,zM hq];refine⟨Wu,by simp,.inr ⟨rfl,rfl,fun x hx hl=>hq ?_⟩⟩
  have hs:=like (hP x hx (cO h hl).2);exact⟨hs.1.trans hx,hs.2.2.trans hl.symm⟩
theorem jM.v {k:Nat}{l:List UInt8} (hk:je k l) (k2:k≠2) (hl:l.length≤140737488355328):∃m e,ZY l m e∧∀S,zU zi O jM.id [jk k l] S=some (.tuple #[mv m,.int .i64 e],S):=by
 have a1:wR zi 48 zS.empty=some (.pointer (some ⟨0,0,none⟩),vw m0):=Zv zS.empty;have g1:=JV m0;have ne0:(0:Nat)≠2:=by decide
 have cl:[jk k l].all (jw 16)=true:=all1 (vU (k:=k) hk.le);obtain⟨T,hTe⟩:∃T,T=(jk k l::zh::zh::zh::zh::zh::zh::zh::zh::zh::zh::zh::zh::zh::zh::zh::zh::zh::zh::zh::zh::zh::zh::zh::[zh,zh,zh,zh,zh,zh,zh,zh,zh,zh,zh,zh,zh,zh,zh,zh,zh,zh,zh,zh,zh,zh,zh,zh,zh,zh,zh,zh,zh,zh,zh,zh,zh,zh,zh,zh,zh,zh,zh,zh,zh,zh,zh,zh,zh,zh,zh,zh,zh,zh,zh,zh,zh,zh,zh,zh,zh,zh,zh,zh]):=⟨_,rfl⟩;have hr:=Eq.refl (zX zi O false jM.code T zS.empty);have c1:=fun S=>wK.v hk k2 hl S
 unfold YP at c1;have z0:∀S,wS zi 48 [] S=some (mv m0,S):=fun S=>oN S
 cases h:scan 0 0 l with
 |none=>
  rw[h]at c1;have s1:=vS g1 m0;refine⟨m0,121,En h,fun S=>?_⟩
  conv at hr=>
   rhs;rw[hTe];simp only[jM.code,jM.rs,jc,reduceIte,zk,zn,zo,zq,zM k2,a1,c1,z0,s1]
  rw[hTe]at hr;exact jM.runs hr (.inr rfl) (wO (yU _ 0 m0) ne0) rfl rfl cl rfl
 |some nr=>
  obtain⟨n,r0⟩:=nr;rw[h]at c1;obtain⟨hn,hlr⟩:=VH l 0 0 (by decide) (by decide) n r0 h
  have c2:=fun S=>jS.v (k:=1) (l:=r0) (many:=6) je.read (by decide) (by omega) S
  have r1:∀k0 k1,JY k0 k1 6 r0=_:=fun k0 k1=>QU (m:=6) (by decide) (by decide)
  rw[r1]at c2;rcases Eh r0 with h6 |⟨a,b,c,d,e,f,r,h6,hlr6⟩
  ·rw[h6]at c2;have s1:=vS g1 m0;refine⟨m0,121,⟨Wu,by simp,.inr ⟨rfl,rfl,fun x hx hl=>?_⟩⟩,fun S=>?_⟩
   ·have:=XW hx;rw[←(cO h hl).2,h6]at this;cases this
   conv at hr=>
    rhs;rw[hTe];simp only[jM.code,jM.rs,jc,reduceIte,zk,zn,zo,zq,zM k2,a1,c1,c2,z0,s1]
   rw[hTe]at hr;exact jM.runs hr (.inr rfl) (wO (yU _ 0 m0) ne0) rfl rfl cl rfl
  ·rw[h6]at c2;have few:=((ZF _ _ _ _).mp h6).2.2;have i0:=fun S=>ZC (k:=1) (i:=0) (m:=0) (l:=[a,b,c,d,e,f]) je.read rfl rfl S
   have i1:=fun S=>ZC (k:=1) (i:=1) (m:=1) (l:=[a,b,c,d,e,f]) je.read rfl rfl S
   have i2:=fun S=>ZC (k:=1) (i:=2) (m:=2) (l:=[a,b,c,d,e,f]) je.read rfl rfl S
   have i3:=fun S=>ZC (k:=1) (i:=3) (m:=3) (l:=[a,b,c,d,e,f]) je.read rfl rfl S
   have i4:=fun S=>ZC (k:=1) (i:=4) (m:=4) (l:=[a,b,c,d,e,f]) je.read rfl rfl S
   have i5:=fun S=>ZC (k:=1) (i:=5) (m:=5) (l:=[a,b,c,d,e,f]) je.read rfl rfl S
   have bd:=fun S=>oO (y0:=.int .i64 a) (y1:=.int .i64 b) (y2:=.int .i64 c) (y3:=.int .i64 d) (y4:=.int .i64 e) (y5:=.int .i64 f) vJ vJ vJ vJ vJ vJ S
   have a2:wR zi 48 (vw m0)=some (.pointer (some ⟨1,0,none⟩),Ws m0 m0):=Zv (vw m0);have s1:jI zi 48 (.pointer (some ⟨1,0,none⟩)) (.agg [Value.int .i64 a,.int .i64 b,.int .i64 c,.int .i64 d,.int .i64 e,.int .i64 f,.int .i64 0,.int .i64 0,.int .i64 0,.int .i64 0,.int .i64 0,.int .i64 0,.slice none 0 0].toArray) (Ws m0 m0)=some (zh,jQ (Ws m0 m0) 1 ⟨a,b,c,d,e,f,⟨0,0⟩,jm⟩):=vS (lF m0 m0) ⟨a,b,c,d,e,f,⟨0,0⟩,jm⟩;have g2:=yU (Ws m0 m0) 1 ⟨a,b,c,d,e,f,⟨0,0⟩,jm⟩;have g3:(jQ (Ws m0 m0) 1 ⟨a,b,c,d,e,f,⟨0,0⟩,jm⟩).get 0=some (.cells (fM m0) (.own []) 0):=(qg (by decide)).trans (lD m0 m0)
   generalize jQ (Ws m0 m0) 1 ⟨a,b,c,d,e,f,⟨0,0⟩,jm⟩=A2 at s1 g2 g3;have okA:kQ 3 (.agg [Value.int .i64 a,.int .i64 b,.int .i64 c,.int .i64 d,.int .i64 e,.int .i64 f,.int .i64 0,.int .i64 0,.int .i64 0,.int .i64 0,.int .i64 0,.int .i64 0,.slice none 0 0].toArray)=true:=rfl;have fin:∀(m:ji) (A:zS),A.get 1=some (.cells (fM m) (.own []) 0)→A.get 0=some (.cells (fM m0) (.own []) 0)→m.Ok→∀S,
     jI zi 48 (.pointer (some ⟨0,0,none⟩)) (mv m) A=some (zh,jQ A 0 m)∧jI zi 48 (.pointer (some ⟨0,0,none⟩)) (mv m0) A=some (zh,jQ A 0 m0)∧zU zi O 19 [mv m] S=some (KN m,S) :=
    fun m A h1 h0 hm S=>⟨vS h0 m,vS h0 m0,yN.v hm S⟩
   have cs1:∀S,Ja zi 33 9 (jk k l) S=some (.string ⟨l.toArray⟩,S):=fun S=>Y2 hk
   have cs2:∀(x:List UInt8) S,Ja zi 33 9 (jk 1 x) S=some (.string ⟨x.toArray⟩,S):=fun x S=>Y2 je.read
   have tb:∀t:jG,t.Ok→ji.Ok ⟨a,b,c,d,e,f,t,jm⟩:=fun t ht=>⟨ok0,ht,qC (few _ (by simp)),qC (few _ (by simp)),qC (few _ (by simp)),qC (few _ (by simp)),qC (few _ (by simp)),qC (few _ (by simp))⟩
   by_cases k0:a=0
   ·obtain⟨t,x,o1,o2⟩:=Fj r;have c3:=fun S=>yS.v (k:=1) (l:=r) je.read (by decide) (by omega) S
    rw[o1]at c3;have s2:=mY g2 t;have q1:=yU A2 1 ⟨a,b,c,d,e,f,t,jm⟩;have q0:(jQ A2 1 ⟨a,b,c,d,e,f,t,jm⟩).get 0=some (.cells (fM m0) (.own []) 0):=(qg (by decide)).trans g3
    dsimp only at s2;generalize jQ A2 1 ⟨a,b,c,d,e,f,t,jm⟩=A3 at s2 q1 q0;have ht:t.Ok:=by
     rcases o2 with ⟨_,o2⟩ |⟨_,_,rfl⟩
     ·exact Ew ((KU r t).1 o2).1
     ·exact Wu.tx
    have hm:=tb t ht;have hP:∀x,qj x=true→r0=qX x→Zj x ⟨a,b,c,d,e,f,t,jm⟩=true:=fun x hx hl=>by
     obtain⟨i1,i2,i3,i4,i5,i6,i7⟩:=Qv h6 hx hl;have hf:=JZ hx;have k0:x.kind=0:=by omega
     have h3:=(KU r x.tx).2 ⟨hf.tx k0,by rw[←i7,Zy,zN k0]⟩
     refine Qj.2 ⟨i1,i2,i3,i4,i5,i6,?_,hf.noblk (by omega)⟩
     rcases o2 with ⟨_,o2⟩ |⟨_,o2,_⟩
     ·rw[o2]at h3;injection h3 with h3;exact h3.symm
     ·rw[o2]at h3;cases h3
    have hR:=mF h hm (by simp) hP
    obtain⟨w0,w1,_⟩:=fin _ A3 q1 q0 hm zS.empty;have w2:=fun S=>(fin _ A3 q1 q0 hm S).2.2
    have kk:=zL k0;have kl:decide (a=1)=false:=zK (by omega)
    have hcm:=kL (d:=9) hm.b.okl.le;refine⟨_,_,hR,fun S=>?_⟩
    unfold KN at w2;by_cases hb:qj (⟨a,b,c,d,e,f,t,jm⟩:ji)=true
    ·simp only[zN hb]at w2;by_cases hq:kE (⟨a,b,c,d,e,f,t,jm⟩:ji)=l
     ·rw[zN ⟨hb,hq⟩,zN ⟨hb,hq⟩];have dq:=zL hq;conv at hr=>
       rhs;rw[hTe];simp only[jM.code,jM.rs,jc,reduceIte,zk,zn,zo,zq,zM k2,a1,c1,c2,i0,i1,i2,i3,i4,i5,kS,qy (Yj (d:=3)),qy okA,bd,a2,s1,Yo,jE,jA g2,kk,c3,wQ,s2,kl,jA q1,wO q1 ne0,w2,cs1,cs2,Y0,dq,w0]
      rw[hTe]at hr;exact jM.runs hr (.inr rfl) (wO (yU A3 0 (⟨a,b,c,d,e,f,t,jm⟩:ji)) ne0) rfl rfl cl (Zx (all2 hcm rfl))
     ·rw[zM (fun h=>hq h.2),zM (fun h=>hq h.2)]
      have dq:=zK hq;conv at hr=>
       rhs;rw[hTe];simp only[jM.code,jM.rs,jc,reduceIte,zk,zn,zo,zq,zM k2,a1,c1,c2,i0,i1,i2,i3,i4,i5,kS,qy (Yj (d:=3)),qy okA,bd,a2,s1,Yo,jE,jA g2,kk,c3,wQ,s2,kl,jA q1,wO q1 ne0,w2,cs1,cs2,Y0,dq,z0,w1]
      rw[hTe]at hr;exact jM.runs hr (.inr rfl) (wO (yU A3 0 m0) ne0) rfl rfl cl rfl
    ·simp only[zM hb]at w2;rw[zM (fun h=>hb h.1),zM (fun h=>hb h.1)]
     conv at hr=>
      rhs;rw[hTe];simp only[jM.code,jM.rs,jc,reduceIte,zk,zn,zo,zq,zM k2,a1,c1,c2,i0,i1,i2,i3,i4,i5,kS,qy (Yj (d:=3)),qy okA,bd,a2,s1,Yo,jE,jA g2,kk,c3,wQ,s2,kl,jA q1,wO q1 ne0,w2,cs1,cs2,Y0,z0,w1]
     rw[hTe]at hr;exact jM.runs hr (.inr rfl) (wO (yU A3 0 m0) ne0) rfl rfl cl rfl
   by_cases k1:a=1
   ·obtain⟨y,x,⟨hy,hy3,o2⟩,c3⟩:=yJ.v (k:=1) (l:=r) je.read (by decide) (by omega)
    have s2:=mZ g2 y;have q1:=yU A2 1 ⟨a,b,c,d,e,f,⟨0,0⟩,y⟩;have q0:(jQ A2 1 ⟨a,b,c,d,e,f,⟨0,0⟩,y⟩).get 0=some (.cells (fM m0) (.own []) 0):=(qg (by decide)).trans g3
    dsimp only at s2;generalize jQ A2 1 ⟨a,b,c,d,e,f,⟨0,0⟩,y⟩=A3 at s2 q1 q0;have hm:ji.Ok ⟨a,b,c,d,e,f,⟨0,0⟩,y⟩:=⟨hy,Wu.tx,qC (few _ (by simp)),qC (few _ (by simp)),qC (few _ (by simp)),qC (few _ (by simp)),qC (few _ (by simp)),qC (few _ (by simp))⟩
    have hP:∀x,qj x=true→r0=qX x→Zj x ⟨a,b,c,d,e,f,⟨0,0⟩,y⟩=true:=fun x hx hl=>by
     obtain⟨i1,i2,i3,i4,i5,i6,i7⟩:=Qv h6 hx hl;have hf:=JZ hx;have k1:x.kind=1:=by omega
     have h3:=(Xi r ⟨x.b.slot,x.b.miner,x.b.variant,x.b.parent,0,x.b.txs⟩).2 ⟨⟨hf.blk k1,rfl⟩,by rw[←i7,Zy,zM (by omega),zN k1];rfl⟩
     refine Qj.2 ⟨i1,i2,i3,i4,i5,i6,hf.notx (by omega),?_⟩
     rcases o2 with ⟨_,o2,_⟩ |⟨_,o2,_⟩
     ·rw[o2]at h3;simp only[Option.some.injEq,jR.mk.injEq,true_and]at h3;exact Qi.2 ⟨h3.1.symm,h3.2.1.symm,h3.2.2.1.symm,h3.2.2.2.1.symm,h3.2.2.2.2.symm⟩
     ·rw[o2]at h3;cases h3
    have hR:=mF h hm hy3 hP;obtain⟨w0,w1,_⟩:=fin _ A3 q1 q0 hm zS.empty;have w2:=fun S=>(fin _ A3 q1 q0 hm S).2.2
    have kk:=zL k1;have kl:decide (a=0)=false:=zK k0;have hcm:=kL (d:=9) hm.b.okl.le;refine⟨_,_,hR,fun S=>?_⟩
    unfold KN at w2;by_cases hb:qj (⟨a,b,c,d,e,f,⟨0,0⟩,y⟩:ji)=true
    ·simp only[zN hb]at w2;by_cases hq:kE (⟨a,b,c,d,e,f,⟨0,0⟩,y⟩:ji)=l
     ·rw[zN ⟨hb,hq⟩,zN ⟨hb,hq⟩];have dq:=zL hq;conv at hr=>
       rhs;rw[hTe];simp only[jM.code,jM.rs,jc,reduceIte,zk,zn,zo,zq,zM k2,a1,c1,c2,i0,i1,i2,i3,i4,i5,kS,qy (Yj (d:=3)),qy okA,bd,a2,s1,Yo,jE,jA g2,kk,c3,wz,s2,kl,jA q1,wO q1 hy.ne,w2,cs1,cs2,Y0,dq,w0]
      rw[hTe]at hr;exact jM.runs hr (.inr rfl) (wO (yU A3 0 (⟨a,b,c,d,e,f,⟨0,0⟩,y⟩:ji)) hy.ne) rfl rfl cl (Zx (all2 hcm rfl))
     ·rw[zM (fun h=>hq h.2),zM (fun h=>hq h.2)]
      have dq:=zK hq;conv at hr=>
       rhs;rw[hTe];simp only[jM.code,jM.rs,jc,reduceIte,zk,zn,zo,zq,zM k2,a1,c1,c2,i0,i1,i2,i3,i4,i5,kS,qy (Yj (d:=3)),qy okA,bd,a2,s1,Yo,jE,jA g2,kk,c3,wz,s2,kl,jA q1,wO q1 hy.ne,w2,cs1,cs2,Y0,dq,z0,w1]
      rw[hTe]at hr;exact jM.runs hr (.inr rfl) (wO (yU A3 0 m0) ne0) rfl rfl cl rfl
    ·simp only[zM hb]at w2;rw[zM (fun h=>hb h.1),zM (fun h=>hb h.1)]
     conv at hr=>
      rhs;rw[hTe];simp only[jM.code,jM.rs,jc,reduceIte,zk,zn,zo,zq,zM k2,a1,c1,c2,i0,i1,i2,i3,i4,i5,kS,qy (Yj (d:=3)),qy okA,bd,a2,s1,Yo,jE,jA g2,kk,c3,wz,s2,kl,jA q1,wO q1 hy.ne,w2,cs1,cs2,Y0,z0,w1]
     rw[hTe]at hr;exact jM.runs hr (.inr rfl) (wO (yU A3 0 m0) ne0) rfl rfl cl rfl
   have hm:=tb ⟨0,0⟩ Wu.tx;have hP:∀x,qj x=true→r0=qX x→Zj x ⟨a,b,c,d,e,f,⟨0,0⟩,jm⟩=true:=fun x hx hl=>by
    obtain⟨i1,i2,i3,i4,i5,i6,i7⟩:=Qv h6 hx hl;have hf:=JZ hx;exact Qj.2 ⟨i1,i2,i3,i4,i5,i6,hf.notx (by omega),hf.noblk (by omega)⟩
   have hR:=mF h hm (by simp) hP
   obtain⟨w0,w1,_⟩:=fin _ A2 g2 g3 hm zS.empty;have w2:=fun S=>(fin _ A2 g2 g3 hm S).2.2
   have kk:=zK k0;have kl:=zK k1;have hcm:=kL (d:=9) hm.b.okl.le;refine⟨_,_,hR,fun S=>?_⟩
   unfold KN at w2;by_cases hb:qj (⟨a,b,c,d,e,f,⟨0,0⟩,jm⟩:ji)=true
   ·simp only[zN hb]at w2;by_cases hq:kE (⟨a,b,c,d,e,f,⟨0,0⟩,jm⟩:ji)=l
    ·rw[zN ⟨hb,hq⟩,zN ⟨hb,hq⟩];have dq:=zL hq;conv at hr=>
      rhs;rw[hTe];simp only[jM.code,jM.rs,jc,reduceIte,zk,zn,zo,zq,zM k2,a1,c1,c2,i0,i1,i2,i3,i4,i5,kS,qy (Yj (d:=3)),qy okA,bd,a2,s1,Yo,jE,jA g2,kk,kl,wO g2 ne0,w2,cs1,cs2,Y0,dq,w0]
     rw[hTe]at hr;exact jM.runs hr (.inr rfl) (wO (yU A2 0 (⟨a,b,c,d,e,f,⟨0,0⟩,jm⟩:ji)) ne0) rfl rfl cl (Zx (all2 hcm rfl))
    ·rw[zM (fun h=>hq h.2),zM (fun h=>hq h.2)]
     have dq:=zK hq;conv at hr=>
      rhs;rw[hTe];simp only[jM.code,jM.rs,jc,reduceIte,zk,zn,zo,zq,zM k2,a1,c1,c2,i0,i1,i2,i3,i4,i5,kS,qy (Yj (d:=3)),qy okA,bd,a2,s1,Yo,jE,jA g2,kk,kl,wO g2 ne0,w2,cs1,cs2,Y0,dq,z0,w1]
     rw[hTe]at hr;exact jM.runs hr (.inr rfl) (wO (yU A2 0 m0) ne0) rfl rfl cl rfl
   ·simp only[zM hb]at w2;rw[zM (fun h=>hb h.1),zM (fun h=>hb h.1)]
    conv at hr=>
     rhs;rw[hTe];simp only[jM.code,jM.rs,jc,reduceIte,zk,zn,zo,zq,zM k2,a1,c1,c2,i0,i1,i2,i3,i4,i5,kS,qy (Yj (d:=3)),qy okA,bd,a2,s1,Yo,jE,jA g2,kk,kl,wO g2 ne0,w2,cs1,cs2,Y0,z0,w1]
    rw[hTe]at hr;exact jM.runs hr (.inr rfl) (wO (yU A2 0 m0) ne0) rfl rfl cl rfl
theorem bH (m:ji) (S:zS):∃S2,jI zi 48 (.pointer (some ⟨S.next,0,none⟩)) (mv m) (S.push (.cells (fM m0) (.own []) 0))=some (zh,S2)∧S2.get S.next=some (.cells (fM m) (.own []) 0)∧Ext S S2∧S.next<S2.next :=
 bI S (by rw[Zf];rfl) mO rfl (DL m)
theorem Ep {l:List UInt8} {x y:ji}{e f:Int}(h:ZY l x e) (g:ZY l y f):Zj x y=true∧e=f:=by
 obtain⟨_,_,⟨rfl,h1,h2⟩ |⟨rfl,rfl,h2⟩⟩:=h<;>obtain⟨_,_,⟨rfl,g1,g2⟩ |⟨rfl,rfl,g2⟩⟩:=g
 ·exact⟨CW h1 g1 (h2.symm.trans g2),rfl⟩
 ·exact absurd h2 (g2 _ h1)
 ·exact absurd g2 (h2 _ g1)
 ·exact⟨Tv _,rfl⟩
theorem CX {m:ji}(h:qj m=true):(kE m).length≤210:=by
 unfold kE;have:=fK (JZ h);have:=Xn (Vr m);rw[List.length_append];omega
abbrev encS (s:List UInt8):zu:=.string ⟨s.toArray⟩
abbrev encI (n:Int):zu:=.int .i64 n
theorem BP :Xd encS .string:=⟨fun _=>rfl,fun a b=>by
 show some (a.toArray==b.toArray)=_
 congr 1
 by_cases h:a=b
 ·subst h;simp
 ·rw[zK h];refine beq_eq_false_iff_ne.2 fun h2=>h ?_
  have:=congrArg Array.toList h2;exact this⟩
abbrev QX (l:List (List UInt8)):List (List UInt8×zu):=l.map fun s=>(s,.bool true)
abbrev QH (l:List (Int×List UInt8)):List (Int×zu):=l.map fun p=>(p.1,encS p.2)
theorem Tm (l:List (List UInt8)) (s:List UInt8):(ZU (QX l) s).getD (.bool false)=.bool (decide (s∈l)):=by
 induction l with
 |nil=>rfl
 |cons a l ih=>
  simp only[List.map_cons,ZU];by_cases h:a=s
  ·simp[h]
  ·rw[zM h,ih];have:s≠a:=fun h2=>h h2.symm
   simp[this]
theorem Tn (l:List (List UInt8)) (s:List UInt8):Qd (QX l) s (.bool true)=QX (if s∈l then l else l++[s]):=by
 induction l with
 |nil=>rfl
 |cons a l ih=>
  simp only[List.map_cons,Qd];by_cases h:a=s
  ·simp[h]
  ·rw[zM h,ih];have:s≠a:=fun h2=>h h2.symm
   by_cases h2:s∈l<;>simp[h2,this]
def Wp :List (Int×List UInt8)→Int→Option (List UInt8)
 | [],_=>none
 |(a,t)::l,n=>if a=n then some t else Wp l n
theorem iW (l:List (Int×List UInt8)) (n:Int):ZU (QH l) n=(Wp l n).map encS:=by
 induction l with
 |nil=>rfl
 |cons a l ih=>
  simp only[List.map_cons,ZU,Wp];by_cases h:a.1=n
  ·rw[zN h,zN h];rfl
  ·rw[zM h,zM h,ih]
theorem OG {l:List (Int×List UInt8)}{n:Int}(h:Wp l n=none) (t:List UInt8):Qd (QH l) n (encS t)=QH (l++[(n,t)]):=by
 rw[lK (by rw[iW,h];rfl)]
 simp
structure Gt (S:zS) (q:Nat) (bad:List Int) (said:List (List UInt8)) (known:List (Int×List UInt8)):Prop where
 lt:q<S.next
 cell:∃k a b,je k bad∧k≠2∧bad.length≤17592186044416∧a<S.next∧b<S.next∧a≠b∧S.get q=some (.cells [iz k bad,.map (some a),.map (some b)] (.own []) 0)∧MapAt encS S a (QX said)∧MapAt encI S b (QH known)
theorem Gt.ext {S S1:zS}{q:Nat}{bad:List Int}{said:List (List UInt8)}{known:List (Int×List UInt8)}(h:Gt S q bad said known) (k:Ext S S1):Gt S1 q bad said known:=by
 obtain⟨k0,a,b,h1,h2,h3,h4,h5,h6,h7,h8,h9⟩:=h.cell;exact⟨Nat.lt_of_lt_of_le h.lt k.1,k0,a,b,h1,h2,h3,Nat.lt_of_lt_of_le h4 k.1,Nat.lt_of_lt_of_le h5 k.1,h6,by rw[k.2 q h.lt];exact h7,h8.keep (k.2 a h4),h9.keep (k.2 b h5)⟩
section
variable {S:zS}{q:Nat}{bad:List Int}{said:List (List UInt8)}{known:List (Int×List UInt8)}
theorem vV.v (h:Gt S q bad said known) (n:Int):zU zi O vV.id [.pointer (some ⟨q,0,none⟩),.int .i64 n] S=some (.bool (bad.any fun x=>decide (n=x)),S):=by
 obtain⟨T,hTe⟩:∃T,T=(.pointer (some ⟨q,0,none⟩)::.int .i64 n::[zh,zh,zh,zh,zh,zh,zh,zh,zh]):=⟨_,rfl⟩;have hr:=Eq.refl (zX zi O false vV.code T S);obtain⟨k0,a,b,h1,h2,h3,h4,h5,h6,h7,h8,h9⟩:=h.cell;have l1:zZ zi false 24 (.pointer (some ⟨q,0+0,none⟩)) S=some (iz k0 bad,S):=by
  have:=QK (t:=24) (o:=0+0) h7 uH rfl (by intro l;unfold iz vs sv;split<;>(intro hh;cases hh))
  rwa [WQ,zM h2]at this
 have c1:=fun S=>slices_Contains.v h1 h2 h3 (v:=n) S
 conv at hr=>
  rhs;rw[hTe];simp only[vV.code,vV.rs,jc,reduceIte,zk,zn,zo,zq,Yi,Nb,l1,zM h2,c1]
 rw[hTe]at hr;exact vV.runs hr (.inr rfl)
end
def vY (b:jR):List UInt8:=if jP b then ZA b else []
theorem Zg.v {b:jR}(hb:b.Ok) (S:zS):zU zi O Zg.id [bv b] S=some (encS (vY b),S):=by
 obtain⟨T,hTe⟩:∃T,T=(bv b::[zh,zh,zh,zh,zh,zh,zh,zh,zh,zh,zh]):=⟨_,rfl⟩;have hr:=Eq.refl (zX zi O false Zg.code T zS.empty);obtain⟨k,x,e,h1,_,h3,h4⟩:=IJ b;have c1:=fun S=>kK.v hb S
 rw[h3]at c1;have hx:vY b=x:=by
  unfold vY;rcases h4 with ⟨_,g1,g2,_⟩ |⟨_,g1,g2,_⟩
  ·rw[zN g1,g2]
  ·rw[g1,g2];rfl
 have s1:∀S,Ja zi 33 9 (jk (if k=2 then 1 else k) x) S=some (.string ⟨x.toArray⟩,S):=fun S=>Y2 h1.zQ
 have lb:=vM (xC b) hb.ne;rw[hx];conv at hr=>
  rhs;rw[hTe];simp only[Zg.code,Zg.rs,jc,reduceIte,zk,zn,zo,zq,qM,lb,c1,WQ,s1]
 rw[hTe]at hr;exact Zg.runs hr (.inr rfl) (all1 (qR hb.okl.le)) rfl
theorem xW.v {k:Nat}{l:List Int}(hk:je k l) (k2:k≠2) (hl:l.length≤17592186044416) (S:zS):zU zi O xW.id [iz k l] S=some (iz (if k=0 then 0 else 2) l,S):=by
 obtain⟨T,hTe⟩:∃T,T=(iz k l::[zh,zh,zh,zh,zh,zh,zh]):=⟨_,rfl⟩;have hr:=Eq.refl (zX zi O false xW.code T S);by_cases h0:k=0
 ·subst h0;have:=hk.nil rfl;subst this;conv at hr=>
   rhs;rw[hTe];simp only[xW.code,xW.rs,jc,reduceIte,zk,zn,zo,zq,iz]
  rw[hTe]at hr;exact xW.runs hr (.inr rfl)
 ·have cp:∀S,yF zi 24 24 (iz 2 []) (iz k l) S=some (iz 2 l,S):=fun S=>by
   rw[iV je.own (by decide) hk (by simp;omega),zM (fun h=>by have:=h.1;omega),List.nil_append]
  have iz0:∀S,yO zi 24 0 [] S=some (iz 2 [],S):=fun S=>by rw[pK];rfl
  rw[zM h0];conv at hr=>
   rhs;rw[hTe];simp only[xW.code,xW.rs,jc,reduceIte,zk,zn,zo,zq,zM k2,OE hk,zK h0,cp,iz0]
  rw[hTe]at hr;exact xW.runs hr (.inr rfl)
theorem ZB.v {k:Nat}{l:List Int}(hk:je k l) (k2:k≠2) (hl:l.length≤17592186044416) (S:zS):∃q S1,zU zi O ZB.id [iz k l] S=some (.pointer (some ⟨q,0,none⟩),S1)∧Gt S1 q l [] []∧Ext S S1∧S.next≤q:=by
 obtain⟨T,hTe⟩:∃T,T=(iz k l::[zh,zh,zh,zh,zh,zh,zh,zh]):=⟨_,rfl⟩;have hr:=Eq.refl (zX zi O false ZB.code T S);have c1:=fun S=>xW.v hk k2 hl S
 have hk0:je (if k=0 then 0 else 2) l:=⟨by split<;>omega,fun h=>by split at h<;>first |(exact hk.nil ‹_›) |omega⟩
 generalize(if k=0 then 0 else 2)=k0 at c1 hk0;obtain⟨S2,m1,m2,m3,m4,m5⟩:=lu (P:=zi) (t:=59) encS S;obtain⟨S3,n1,n2,n3,n4,n5⟩:=lu (P:=zi) (t:=60) encI S2;have bd:=fun S=>oP (y0:=iz (if k0=2 then 1 else k0) l) (y1:=.map (some S.next)) (y2:=.map (some S2.next)) WM rfl rfl S
 have bd:∀S5,wS zi 62 [(0,iz (if k0=2 then 1 else k0) l),(1,.map (some S.next)),(2,.map (some S2.next))] S5=some (.agg [iz (if k0=2 then 1 else k0) l,.map (some S.next),.map (some S2.next)].toArray,S5):=fun S5=>oP WM rfl rfl S5
 obtain⟨S4,b1,b2,b3,b4⟩:=ak (.agg [iz (if k0=2 then 1 else k0) l,.map (some S.next),.map (some S2.next)].toArray) S3;have dm:zQ (iz k0 l)=iz (if k0=2 then 1 else k0) l:=WQ;refine⟨S3.next,S4,?_,⟨b4,_,S.next,S2.next,hk0.zQ,Qy _,hl,by omega,by omega,by omega,b2,?_,?_⟩,m5.trans (n5.trans b3),by omega⟩
 ·conv at hr=>
   rhs;rw[hTe];simp only[ZB.code,ZB.rs,jc,reduceIte,zk,zn,zo,zq,zM k2,c1,dm,m1,n1,bd,b1]
  rw[hTe]at hr;exact ZB.runs hr (.inr rfl)
 ·exact(m2.keep (n4 _ (by omega))).keep (b3.2 _ (by omega))
 ·exact n2.keep (b3.2 _ (by omega))
def yw (S S1:zS):Prop:=S.next≤S1.next∧∀p cs own e,p<S.next→S.get p=some (.cells cs own e)→S1.get p=S.get p
theorem yw.refl (S:zS):yw S S:=⟨Nat.le_refl _,fun _ _ _ _ _ _=>rfl⟩
theorem yw.trans {S S1 S2:zS}(h:yw S S1) (k:yw S1 S2):yw S S2:=⟨Nat.le_trans h.1 k.1,fun p cs own e hp hg=>by
 have h1:=h.2 p cs own e hp hg;rw[k.2 p cs own e (Nat.lt_of_lt_of_le hp h.1) (h1.trans hg),h1]⟩
theorem yw.ext {S S1:zS}(h:Ext S S1):yw S S1:=⟨h.1,fun p _ _ _ hp _=>h.2 p hp⟩
def Yn (said:List (List UInt8)) (data:List UInt8):List (List UInt8):=if data∈said then said else said++[data]
def Vo (known:List (Int×List UInt8)) (b:jR):List (Int×List UInt8):=if(Wp known (nameOf b)).isSome then known else known++[(nameOf b,vY b)]
def J4 (known:List (Int×List UInt8)) (m:ji) (e:Int):List (Int×List UInt8):=if e=0∧m.kind=1 then Vo known m.b else known
theorem bJ (b:jR):[bv b].all (fun x=>!Z7 x)=true:=by
 have h:Z7 (bv b)=false:=by
  show [Value.int .i64 b.slot,.int .i64 b.miner,.int .i64 b.variant,.int .i64 b.parent,tl b.k b.txs].any xQ=false;have ht:xQ (tl b.k b.txs)=false:=Dc;simp only[List.any_cons,List.any_nil,ht,Bool.or_false];rfl
 simp only[List.all_cons,List.all_nil,h];rfl
theorem CY {k:Nat}{l:List UInt8}:[jk k l].all (fun x=>!Z7 x)=true:=by
 have h:Z7 (jk k l)=false:=by show Z7 (sv k 1 l.length (l.flatMap cb))=false;unfold sv;split<;>rfl
 simp only[List.all_cons,List.all_nil,h];rfl
section
variable {S:zS}{q:Nat}{bad:List Int}{said:List (List UInt8)}{known:List (Int×List UInt8)}
theorem Gt.say (h:Gt S q bad said known) {a b k:Nat}(h1:je k bad) (h2:k≠2) (h3:bad.length≤17592186044416) (h4:a<S.next) (h5:b<S.next) (h6:a≠b) (h7:S.get q=some (.cells [iz k bad,.map (some a),.map (some b)] (.own []) 0)) (h8:MapAt encS S a (QX said)) (h9:MapAt encI S b (QH known)) (data:List UInt8) :
  ∃S1,ZQ zi 59 (.map (some a)) (encS data) (.bool true) S=some (zh,S1)∧S1.next=S.next∧S1.get q=some (.cells [iz k bad,.map (some a),.map (some b)] (.own []) 0)∧MapAt encS S1 a (QX (Yn said data))∧MapAt encI S1 b (QH known)∧yw S S1:=by
 obtain⟨S1,m1,m2,m3,m4,_⟩:=lC BP h8 FH dN data (.bool true);obtain⟨es,c,g,_⟩:=h8;have hne:∀p cs own e,S.get p=some (.cells cs own e)→p≠a:=fun p cs own e hp hpa=>by rw[hpa,g]at hp;cases hp
 rw[Tn]at m2;exact⟨S1,m1,m3,(m4 q (hne q _ _ _ h7)).trans h7,m2,h9.keep (m4 b (fun h=>h6 h.symm)),Nat.le_of_eq m3.symm,fun p cs own e _ hg=>m4 p (hne p _ _ _ hg)⟩
theorem Gt.know {a b k:Nat}(h4:a<S.next) (h5:b<S.next) (h6:a≠b) (h7:S.get q=some (.cells [iz k bad,.map (some a),.map (some b)] (.own []) 0)) (h8:MapAt encS S a (QX said)) (h9:MapAt encI S b (QH known)) {n:Int}{t:List UInt8} (hn:Wp known n=none) :
  ∃S1,ZQ zi 60 (.map (some b)) (encI n) (encS t) S=some (zh,S1)∧S1.next=S.next∧S1.get q=some (.cells [iz k bad,.map (some a),.map (some b)] (.own []) 0)∧MapAt encS S1 a (QX said)∧MapAt encI S1 b (QH (known++[(n,t)]))∧yw S S1:=by
 obtain⟨S1,m1,m2,m3,m4,_⟩:=lC Vm h9 nC Q9 n (encS t);obtain⟨es,c,g,_⟩:=h9;have hne:∀p cs own e,S.get p=some (.cells cs own e)→p≠b:=fun p cs own e hp hpa=>by rw[hpa,g]at hp;cases hp
 rw[OG hn]at m2;exact⟨S1,m1,m3,(m4 q (hne q _ _ _ h7)).trans h7,h8.keep (m4 a h6),m2,Nat.le_of_eq m3.symm,fun p cs own e _ hg=>m4 p (hne p _ _ _ hg)⟩
theorem yx.g (h:Gt S q bad said known) {d:zu}{data:List UInt8} (hd:zQ d=d) {m:ji}{e:Int}(hR:ZY data m e) (s2:∀S1,yw S S1→qB zi true false 33 9 d S1=some (.string ⟨data.toArray⟩,S1)) (c1:∀S1,yw S S1→qN (zU zi O) 22 [d] S1=some (.tuple #[mv m,.int .i64 e],S1)) :
  ∃S1,zU zi O yx.id [.pointer (some ⟨q,0,none⟩),d] S=some (.tuple #[],S1)∧Gt S1 q bad (Yn said data) (J4 known m e)∧yw S S1:=by
 obtain⟨T,hTe⟩:∃T,T=(.pointer (some ⟨q,0,none⟩)::d::[zh,zh,zh,zh,zh,zh,zh,zh,zh,zh,zh,zh,zh,zh,zh,zh,zh,zh,zh,zh,zh,zh,zh,zh,zh,zh,zh,zh,zh,zh,zh,zh,zh,zh,zh,zh,zh,zh,zh,zh,zh,zh,zh,zh,zh,zh,zh]):=⟨_,rfl⟩;have hr:=Eq.refl (zX zi O true yx.code T S);obtain⟨k0,a,b,h1,h2,h3,h4,h5,h6,h7,h8,h9⟩:=h.cell;have l1:zZ zi false 59 (.pointer (some ⟨q,0+1,none⟩)) S=some (.map (some a),S):=bg (t:=59) (o:=0+1) h7 uJ rfl;have s2:=s2 S (yw.refl S);obtain⟨S1,m1,m2,m3,m4,m5,m6⟩:=h.say h1 h2 h3 h4 h5 h6 h7 h8 h9 data;have c1:=c1 S1 m6;obtain⟨S2,n1,n2,n3,n4⟩:=bH m S1;have am:wR zi 48 S1=some (.pointer (some ⟨S1.next,0,none⟩),S1.push (.cells (fM m0) (.own []) 0)):=Zv S1;have hq1:q<S1.next:=by rw[m2];exact h.lt
 have st2:yw S S2:=m6.trans (yw.ext n3);have G2:Gt S2 q bad (Yn said data) known:=⟨Nat.lt_of_lt_of_le hq1 n3.1,k0,a,b,h1,h2,h3,by have:=n3.1;omega,by have:=n3.1;omega,h6,(n3.2 q hq1).trans m3,m4.keep (n3.2 a (by omega)),m5.keep (n3.2 b (by omega))⟩
 have hR2:=hR;obtain⟨ok,_,hcase⟩:=hR2;by_cases he:e=0
 ·subst he;have d1:=jA n2;by_cases hkd:m.kind=1
  ·have dk:=zL hkd;have g2q:=(n3.2 q hq1).trans m3;have l2:zZ zi false 60 (.pointer (some ⟨q,0+2,none⟩)) S2=some (.map (some b),S2):=bg (t:=60) (o:=0+2) g2q uI rfl;have c2:∀S,qN (zU zi O) 23 [bv m.b] S=some (.int .i64 (nameOf m.b),S):=fun S=>Wl (xJ.v ok.b S) (bJ _)
   have lk:=CJ Vm (m5.keep (n3.2 b (by omega))) nC Q9 Dj rfl (nameOf m.b)
   rw[iW]at lk;cases hf:Wp known (nameOf m.b)with
   |some t=>
    rw[hf]at lk;simp only[Option.map_some,Option.map_none,Option.getD_some,Option.getD_none,Option.isSome_some,Option.isSome_none]at lk;refine⟨S2,?_,?_,st2⟩
    ·conv at hr=>
      rhs;rw[hTe];simp only[yx.code,yx.rs,jc,reduceIte,zk,zn,zo,zq,hd,Yi,YA,l1,s2,m1,c1,am,n1,jE,d1,dk,wz,wL n2 ok.b.ne,c2,Vd,l2,lk]
     rw[hTe]at hr;exact yx.runs hr (.inl rfl)
    ·rw[J4,zN ⟨rfl,hkd⟩,Vo,hf];exact G2
   |none=>
    rw[hf]at lk;simp only[Option.map_some,Option.map_none,Option.getD_some,Option.getD_none,Option.isSome_some,Option.isSome_none]at lk;obtain⟨S3,p1,p2,p3,p4,p5,p6⟩:=Gt.know (t:=vY m.b) (by have:=n3.1;omega) (by have:=n3.1;omega) h6 g2q (m4.keep (n3.2 a (by omega))) (m5.keep (n3.2 b (by omega))) hf
    have c3:∀S,qN (zU zi O) 24 [bv m.b] S=some (encS (vY m.b),S):=fun S=>Wl (Zg.v ok.b S) (bJ _)
    have okm:kQ 3 (.map (some b))=true:=rfl;refine⟨S3,?_,?_,st2.trans p6⟩
    ·conv at hr=>
      rhs;rw[hTe];simp only[yx.code,yx.rs,jc,reduceIte,zk,zn,zo,zq,hd,Yi,YA,l1,s2,m1,c1,am,n1,jE,d1,dk,wz,wL n2 ok.b.ne,c2,Vd,l2,lk,qy okm,WT,c3,ZG g2q,p1]
     rw[hTe]at hr;exact yx.runs hr (.inl rfl)
    ·rw[J4,zN ⟨rfl,hkd⟩,Vo,hf];exact⟨by rw[p2];exact G2.lt,k0,a,b,h1,h2,h3,by have:=n3.1;omega,by have:=n3.1;omega,h6,p3,p4,p5⟩
  ·have dk:=zK hkd;refine⟨S2,?_,?_,st2⟩
   ·conv at hr=>
     rhs;rw[hTe];simp only[yx.code,yx.rs,jc,reduceIte,zk,zn,zo,zq,hd,Yi,YA,l1,s2,m1,c1,am,n1,jE,d1,dk]
    rw[hTe]at hr;exact yx.runs hr (.inr rfl)
   ·rw[J4,zM (fun hh=>hkd hh.2)];exact G2
 ·have de:=zK he;refine⟨S2,?_,?_,st2⟩
  ·conv at hr=>
    rhs;rw[hTe];simp only[yx.code,yx.rs,jc,reduceIte,zk,zn,zo,zq,hd,Yi,YA,l1,s2,m1,c1,am,n1,de]
   rw[hTe]at hr;exact yx.runs hr (.inr rfl)
  ·rw[J4,zM (fun hh=>he hh.1)];exact G2
def isBad (bad:List Int) (n:Int):Bool:=bad.any fun x=>decide (n=x)
def xH (bad:List Int) (said:List (List UInt8)) (known:List (Int×List UInt8)) (data:List UInt8) (m:ji) (e:Int):Bool×List (Int×List UInt8) :=
 if e=0 then(if data∈said then(true,known)else if isBad bad m.frm then(if m.kind=1 then(match Wp known (nameOf m.b)with
  |some t=>(decide (t=vY m.b),known)
  |none=>if isBad bad m.b.miner then(true,known++[(nameOf m.b,vY m.b)])else(false,known))else(true,known))else(false,known))else(false,known)
theorem jJ.g (h:Gt S q bad said known) {d:zu}{data:List UInt8} (hd:zQ d=d) {m:ji}{e:Int}(hR:ZY data m e) (s2:∀S1,yw S S1→qB zi true false 33 9 d S1=some (.string ⟨data.toArray⟩,S1)) (c1:∀S1,yw S S1→qN (zU zi O) 22 [d] S1=some (.tuple #[mv m,.int .i64 e],S1)) :
  ∃S1,zU zi O jJ.id [.pointer (some ⟨q,0,none⟩),d] S=some (.bool (xH bad said known data m e).1,S1)∧Gt S1 q bad said (xH bad said known data m e).2∧yw S S1:=by
 obtain⟨T,hTe⟩:∃T,T=(.pointer (some ⟨q,0,none⟩)::d::zh::zh::zh::zh::zh::zh::[zh,zh,zh,zh,zh,zh,zh,zh,zh,zh,zh,zh,zh,zh,zh,zh,zh,zh,zh,zh,zh,zh,zh,zh,zh,zh,zh,zh,zh,zh,zh,zh,zh,zh,zh,zh,zh,zh,zh,zh,zh,zh,zh,zh,zh,zh,zh,zh,zh,zh,zh,zh,zh,zh,zh,zh,zh,zh,zh,zh]):=⟨_,rfl⟩;have hr:=Eq.refl (zX zi O true jJ.code T S);have c1:=c1 S (yw.refl S);obtain⟨S2,n1,n2,n3,n4⟩:=bH m S;have am:wR zi 48 S=some (.pointer (some ⟨S.next,0,none⟩),S.push (.cells (fM m0) (.own []) 0)):=Zv S;have st2:yw S S2:=yw.ext n3;have G2:=h.ext n3;obtain⟨k0,a,b,h1,h2,h3,h4,h5,h6,h7,h8,h9⟩:=G2.cell;have hR2:=hR;obtain⟨ok,_,hcase⟩:=hR2;by_cases he:e=0
 ·subst he;have l1:zZ zi false 59 (.pointer (some ⟨q,0+1,none⟩)) S2=some (.map (some a),S2):=bg (t:=59) (o:=0+1) h7 uJ rfl;have s2:=s2 S2 st2;have lk:=CG BP h8 FH dN Dh rfl data;rw[Tm]at lk;by_cases hs:data∈said
  ·have ds:=zL hs;rw[ds]at lk;have hp:xH bad said known data m 0=(true,known):=by rw[xH,zN rfl,zN hs]
   refine⟨S2,?_,by rw[hp];exact G2,st2⟩
   rw[hp];conv at hr=>
    rhs;rw[hTe];simp only[jJ.code,jJ.rs,jc,reduceIte,zk,zn,zo,zq,hd,c1,am,n1,Yi,YA,l1,s2,lk]
   rw[hTe]at hr;exact jJ.runs hr (.inr rfl)
  ·have ds:=zK hs;rw[ds]at lk;have cb:qN (zU zi O) 11 [.pointer (some ⟨q,0,none⟩),.int .i64 m.frm] S2=some (.bool (bad.any fun x=>decide (m.frm=x)),S2):=Wl (vV.v G2 m.frm) rfl
   have d1:=jV n2;have d0:=jA n2;cases hb:isBad bad m.frm
   ·have hb2:(bad.any fun x=>decide (m.frm=x))=false:=hb
    rw[hb2]at cb;have hp:xH bad said known data m 0=(false,known):=by rw[xH,zN rfl,zM hs,hb];rfl
    refine⟨S2,?_,by rw[hp];exact G2,st2⟩
    rw[hp];conv at hr=>
     rhs;rw[hTe];simp only[jJ.code,jJ.rs,jc,reduceIte,zk,zn,zo,zq,hd,c1,am,n1,Yi,YA,l1,s2,lk,jU,d1,cb]
    rw[hTe]at hr;exact jJ.runs hr (.inr rfl)
   ·have hb2:(bad.any fun x=>decide (m.frm=x))=true:=hb
    rw[hb2]at cb;by_cases hkd:m.kind=1
    ·have dk:=zL hkd;have l2:zZ zi false 60 (.pointer (some ⟨q,0+2,none⟩)) S2=some (.map (some b),S2):=bg (t:=60) (o:=0+2) h7 uI rfl;have c2:∀S,qN (zU zi O) 23 [bv m.b] S=some (.int .i64 (nameOf m.b),S):=fun S=>Wl (xJ.v ok.b S) (bJ _)
     have c3:∀S,qN (zU zi O) 24 [bv m.b] S=some (encS (vY m.b),S):=fun S=>Wl (Zg.v ok.b S) (bJ _)
     have lk2:=CJ Vm h9 nC Q9 Dj rfl (nameOf m.b);rw[iW]at lk2;cases hf:Wp known (nameOf m.b)with
     |some t=>
      rw[hf]at lk2;simp only[Option.map_some,Option.map_none,Option.getD_some,Option.getD_none,Option.isSome_some,Option.isSome_none]at lk2;have hp:xH bad said known data m 0=(decide (t=vY m.b),known):=by rw[xH,zN rfl,zM hs,hb,zN rfl,zN hkd,hf]
      have cq:∀S,jd zi .eql 9 (encS t) (encS (vY m.b)) S=some (.bool (decide (t=vY m.b)),S):=fun S=>dJ (t:=9)
      refine⟨S2,?_,by rw[hp];exact G2,st2⟩
      rw[hp];conv at hr=>
       rhs;rw[hTe];simp only[jJ.code,jJ.rs,jc,reduceIte,zk,zn,zo,zq,hd,c1,am,n1,Yi,YA,l1,s2,lk,jU,d1,cb,jE,d0,dk,wz,wL n2 ok.b.ne,c2,Vd,l2,lk2,c3,cq]
      rw[hTe]at hr;exact jJ.runs hr (.inr rfl)
     |none=>
      rw[hf]at lk2;simp only[Option.map_some,Option.map_none,Option.getD_some,Option.getD_none,Option.isSome_some,Option.isSome_none]at lk2;have cb2:qN (zU zi O) 11 [.pointer (some ⟨q,0,none⟩),.int .i64 m.b.miner] S2=some (.bool (bad.any fun x=>decide (m.b.miner=x)),S2):=Wl (vV.v G2 m.b.miner) rfl
      have d2:zZ zi false 3 (.pointer (some ⟨S.next,0+8+1,none⟩)) S2=some (.int .i64 m.b.miner,S2):=Zp (t:=3) (o:=0+8+1) n2 Zo rfl;cases hb3:isBad bad m.b.miner
      ·have hb4:(bad.any fun x=>decide (m.b.miner=x))=false:=hb3
       rw[hb4]at cb2;have hp:xH bad said known data m 0=(false,known):=by rw[xH,zN rfl,zM hs,hb,zN rfl,zN hkd,hf];dsimp only;rw[hb3];rfl
       refine⟨S2,?_,by rw[hp];exact G2,st2⟩
       rw[hp];conv at hr=>
        rhs;rw[hTe];simp only[jJ.code,jJ.rs,jc,reduceIte,zk,zn,zo,zq,hd,c1,am,n1,Yi,YA,l1,s2,lk,jU,d1,cb,jE,d0,dk,wz,wL n2 ok.b.ne,c2,Vd,l2,lk2,qY,d2,cb2]
       rw[hTe]at hr;exact jJ.runs hr (.inr rfl)
      ·have hb4:(bad.any fun x=>decide (m.b.miner=x))=true:=hb3
       rw[hb4]at cb2;have hp:xH bad said known data m 0=(true,known++[(nameOf m.b,vY m.b)]):=by rw[xH,zN rfl,zM hs,hb,zN rfl,zN hkd,hf];dsimp only;rw[hb3];rfl
       obtain⟨S3,p1,p2,p3,p4,p5,p6⟩:=Gt.know (t:=vY m.b) h4 h5 h6 h7 h8 h9 hf;have okm:kQ 3 (.map (some b))=true:=rfl;refine⟨S3,?_,?_,st2.trans p6⟩
       ·rw[hp];conv at hr=>
         rhs;rw[hTe];simp only[jJ.code,jJ.rs,jc,reduceIte,zk,zn,zo,zq,hd,c1,am,n1,Yi,YA,l1,s2,lk,jU,d1,cb,jE,d0,dk,wz,wL n2 ok.b.ne,c2,Vd,l2,lk2,qY,d2,cb2,c3,qy okm,WT,ZG h7,p1]
        rw[hTe]at hr;exact jJ.runs hr (.inr rfl)
       ·rw[hp];exact⟨by rw[p2];exact G2.lt,k0,a,b,h1,h2,h3,by omega,by omega,h6,p3,p4,p5⟩
    ·have dk:=zK hkd;have hp:xH bad said known data m 0=(true,known):=by rw[xH,zN rfl,zM hs,hb,zN rfl,zM hkd]
     refine⟨S2,?_,by rw[hp];exact G2,st2⟩
     rw[hp];conv at hr=>
      rhs;rw[hTe];simp only[jJ.code,jJ.rs,jc,reduceIte,zk,zn,zo,zq,hd,c1,am,n1,Yi,YA,l1,s2,lk,jU,d1,cb,jE,d0,dk]
     rw[hTe]at hr;exact jJ.runs hr (.inr rfl)
 ·have de:=zK he;have hp:xH bad said known data m e=(false,known):=by rw[xH,zM he]
  refine⟨S2,?_,by rw[hp];exact G2,st2⟩
  rw[hp];conv at hr=>
   rhs;rw[hTe];simp only[jJ.code,jJ.rs,jc,reduceIte,zk,zn,zo,zq,hd,c1,am,n1,de]
  rw[hTe]at hr;exact jJ.runs hr (.inr rfl)
theorem yx.v (h:Gt S q bad said known) {k:Nat}{data:List UInt8} (hk:je k data) (k2:k≠2) (hl:data.length≤140737488355328) :
  ∃m e S1,ZY data m e∧zU zi O yx.id [.pointer (some ⟨q,0,none⟩),jk k data] S=some (.tuple #[],S1)∧Gt S1 q bad (Yn said data) (J4 known m e)∧yw S S1∧True:=by
 obtain⟨m,e,hR,c⟩:=y9.v hk k2 hl;obtain⟨S1,h1,h2,h3⟩:=yx.g h (d:=jk k data) (by rw[WQ,zM k2]) hR (fun S1 _=>by rw[XK];exact Y2 hk) (fun S1 _=>Wl (c S1) CY)
 exact⟨m,e,S1,hR,h1,h2,h3,trivial⟩
theorem jJ.v (h:Gt S q bad said known) {k:Nat}{data:List UInt8} (hk:je k data) (k2:k≠2) (hl:data.length≤140737488355328) :
  ∃m e S1,ZY data m e∧zU zi O jJ.id [.pointer (some ⟨q,0,none⟩),jk k data] S=some (.bool (xH bad said known data m e).1,S1)∧Gt S1 q bad said (xH bad said known data m e).2∧yw S S1∧True:=by
 obtain⟨m,e,hR,c⟩:=y9.v hk k2 hl;obtain⟨S1,h1,h2,h3⟩:=jJ.g h (d:=jk k data) (by rw[WQ,zM k2]) hR (fun S1 _=>by rw[XK];exact Y2 hk) (fun S1 _=>Wl (c S1) CY)
 exact⟨m,e,S1,hR,h1,h2,h3,trivial⟩
end
theorem Eo {x m:ji}{e:Int}(hx:qj x=true) (h:ZY (kE x) m e):e=0∧Zj x m=true:=by
 obtain⟨_,_,⟨h1,h2,h3⟩ |⟨_,_,h3⟩⟩:=h
 ·exact⟨h1,CW hx h2 h3⟩
 ·exact absurd rfl (h3 x hx)
theorem fJ {a b:jR}(h:vG a b=true):nameOf a=nameOf b∧vY a=vY b∧a.miner=b.miner:=by
 obtain⟨h1,h2,h3,h4,h5⟩:=Qi.1 h;have hr:jP a=jP b:=by unfold jP headB;rw[h1,h2,h3,h4,h5]
 refine⟨by unfold nameOf;rw[hr,h1,h2,h3],?_,h2⟩
 unfold vY ZA;rw[hr,h1,h2,h3,h4,h5]
theorem DW {x m:ji}(h:Zj x m=true) (bad:List Int) (said:List (List UInt8)) (known:List (Int×List UInt8)) (d:List UInt8) (e:Int):xH bad said known d m e=xH bad said known d x e:=by
 obtain⟨h1,h2,_,_,_,_,_,h8⟩:=Qj.1 h;obtain⟨g1,g2,g3⟩:=fJ h8;unfold xH;rw[h1,h2,g1,g2,g3]
theorem EF {x m:ji}(h:Zj x m=true) (known:List (Int×List UInt8)) (e:Int):J4 known m e=J4 known x e:=by
 obtain⟨h1,h2,_,_,_,_,_,h8⟩:=Qj.1 h;obtain⟨g1,g2,g3⟩:=fJ h8;unfold J4 Vo;rw[h1,g1,g2]
section
variable {S:zS}{q:Nat}{bad:List Int}{said:List (List UInt8)}{known:List (Int×List UInt8)}
theorem VA (h:Gt S q bad said known) {x:ji}(hx:qj x=true):∃S1,zU zi O jJ.id [.pointer (some ⟨q,0,none⟩),jk 1 (kE x)] S=some (.bool (xH bad said known (kE x) x 0).1,S1)∧Gt S1 q bad said (xH bad said known (kE x) x 0).2∧yw S S1:=by
 obtain⟨m,e,S1,h1,h2,h3,h4,_⟩:=jJ.v h (k:=1) (data:=kE x) je.read (by decide) (by have:=CX hx;omega)
 obtain⟨rfl,hs⟩:=Eo hx h1;rw[DW hs]at h2 h3;exact⟨S1,h2,h3,h4⟩
theorem TD (h:Gt S q bad said known) {x:ji}(hx:qj x=true):∃S1,zU zi O yx.id [.pointer (some ⟨q,0,none⟩),jk 1 (kE x)] S=some (.tuple #[],S1)∧Gt S1 q bad (Yn said (kE x)) (J4 known x 0)∧yw S S1:=by
 obtain⟨m,e,S1,h1,h2,h3,h4,_⟩:=yx.v h (k:=1) (data:=kE x) je.read (by decide) (by have:=CX hx;omega)
 obtain⟨rfl,hs⟩:=Eo hx h1;rw[EF hs]at h3;exact⟨S1,h2,h3,h4⟩
end
abbrev ZI (f:Int) (b:jR):ji:=⟨1,f,0,0,0,0,⟨0,0⟩,b⟩
theorem vC.v {f:Int}{b:jR}(hb:b.Ok) (hf:Big f) (hR:qj (ZI f b)=true) (S:zS):∃S1,zU zi O vC.id [.int .i64 f,bv b] S=some (jk 2 (kE (ZI f b)),S1)∧Ext S S1:=by
 obtain⟨T,hTe⟩:∃T,T=(.int .i64 f::bv b::[zh,zh,zh,zh,zh,zh,zh,zh,zh,zh,zh,zh,zh]):=⟨_,rfl⟩;have hr:=Eq.refl (zX zi O false vC.code T S);obtain⟨S2,b1,b2,b3,b4⟩:=ak (bv b) S;have b2:S2.get S.next=some (.cells (yP b) (.own []) 0):=b2;have z0:Big 0:=by unfold Big;decide
 have z1:Big 1:=by unfold Big;decide
 have ok:(ZI f b).Ok:=⟨hb,⟨z0,z0⟩,z1,hf,z0,z0,z0,z0⟩;have bd:∀S,wS zi 48 [(0,.int .i64 1),(1,.int .i64 f),(7,bv b)] S=some (mv (ZI f b),S):=fun S=>IB rfl rfl S
 have c1:=fun S=>yN.v ok S
 unfold KN at c1;rw[hR]at c1;refine⟨S2,?_,b3⟩;conv at hr=>
  rhs;rw[hTe];simp only[vC.code,vC.rs,jc,reduceIte,zk,zn,zo,zq,b1,vM b2 hb.ne,bd,c1]
 rw[hTe]at hr;exact vC.runs hr (.inr rfl)
abbrev Zw :jR:=⟨1,1,0,0,0,[]⟩
abbrev Y3 :jR:=⟨1,1,0,0,1,[⟨1,0⟩]⟩
theorem YM :Zw.Ok:=⟨je.none,by decide,by decide,by decide⟩
theorem DK :Y3.Ok:=⟨je.read,by decide,by decide,by decide⟩
theorem bU :qj (ZI 1 Zw)=true:=by kernel_rfl
theorem bV :qj (ZI 2 Zw)=true:=by kernel_rfl
theorem Ee :qj (ZI 3 Zw)=true:=by kernel_rfl
theorem Ec :qj (ZI 2 Y3)=true:=by kernel_rfl
abbrev K1 :List (Int×List UInt8):=[(nameOf Zw,vY Zw)]
abbrev XQ :List (List UInt8):=[kE (ZI 1 Zw)]
theorem Rw :xH [2] [] [] (kE (ZI 2 Zw)) (ZI 2 Zw) 0=(false,[]):=by kernel_rfl
theorem Rx :xH [2] XQ K1 (kE (ZI 2 Zw)) (ZI 2 Zw) 0=(true,K1):=by kernel_rfl
theorem pa3 :xH [2] XQ K1 (kE (ZI 2 Y3)) (ZI 2 Y3) 0=(false,K1):=by kernel_rfl
theorem Ry :xH [2] XQ K1 (kE (ZI 3 Zw)) (ZI 3 Zw) 0=(false,K1):=by kernel_rfl
theorem Rz :xH [2] XQ K1 (kE (ZI 1 Zw)) (ZI 1 Zw) 0=(true,K1):=by kernel_rfl
theorem sa1 :Yn [] (kE (ZI 1 Zw))=XQ:=rfl
theorem Tj :J4 [] (ZI 1 Zw) 0=K1:=by kernel_rfl
theorem qU.v (S:zS):zU zi O qU.id [] S=some (.bool true,S):=by
 obtain⟨T,hTe⟩:∃T,T=([zh,zh,zh,zh,zh,zh,zh,zh,zh,zh,zh,zh,zh,zh,zh,zh,zh,zh,zh,zh,zh,zh,zh,zh,zh,zh,zh,zh,zh,zh,zh,zh,zh,zh,zh,zh,zh,zh,zh,zh,zh,zh,zh,zh,zh,zh,zh,zh,zh,zh,zh,zh,zh,zh,zh,zh,zh,zh]):=⟨_,rfl⟩;have hr:=Eq.refl (zX zi O false qU.code T zS.empty);have i0:∀S,yO zi 24 1 [(0,.int .i64 2)] S=some (iz 2 [2],S):=fun S=>by kernel_rfl
 obtain⟨q,S1,c1,G1,_,_⟩:=ZB.v (k:=1) (l:=[2]) je.read (by decide) (by decide) zS.empty
 have pn:∀S,jd zi .eql 22 (.pointer (some ⟨q,0,none⟩)) (.pointer none) S=some (.bool false,S):=fun S=>rfl
 have bb:∀S,wS zi 46 [(0,.int .i64 1),(1,.int .i64 1)] S=some (bv Zw,S):=fun S=>Iy rfl rfl S
 have bt:∀S,wS zi 43 [(0,.int .i64 1)] S=some (tv ⟨1,0⟩,S):=fun S=>IC rfl S
 have bs:=fun S=>fQ ⟨1,0⟩ S
 have bc:∀S,wS zi 46 [(0,.int .i64 1),(1,.int .i64 1),(4,tl 1 [⟨1,0⟩])] S=some (bv Y3,S):=fun S=>Iz rfl rfl WM S
 have a1:=Jc S1;obtain⟨A1,hA1⟩:∃A1,A1=S1.push (.cells (yP jm) (.own []) 0):=⟨_,rfl⟩;rw[←hA1]at a1;have a2:=Jc A1;have n1:A1.next=S1.next+1:=by rw[hA1];rfl
 obtain⟨A2,hA2⟩:∃A2,A2=A1.push (.cells (yP jm) (.own []) 0):=⟨_,rfl⟩;rw[←hA2]at a2;have E1:Ext S1 A1:=by rw[hA1];exact Ext.push _ _
 have E2:Ext A1 A2:=by rw[hA2];exact Ext.push _ _
 have g1:A2.get S1.next=some (.cells (yP jm) (.own []) 0):=by rw[E2.2 _ (by omega),hA1,zS.qO,zN rfl]
 have g2:A2.get A1.next=some (.cells (yP jm) (.own []) 0):=by rw[hA2,zS.qO,zN rfl]
 obtain⟨A3,s1,s2,s3,s4,s5⟩:=WU Zw g1 (E1.trans E2) (Nat.le_refl _);have g3:A3.get A1.next=some (.cells (yP jm) (.own []) 0):=(s5 _ (by omega)).trans g2
 obtain⟨A4,t1,t2,t3,t4,t5⟩:=WU Y3 g3 s3 (by omega)
 have G4:=G1.ext t3;have m4:A2.next=A1.next+1:=by rw[hA2];rfl
 have hb4:A4.get S1.next=some (.cells (yP Zw) (.own []) 0):=(t5 _ (by omega)).trans s2
 have hn4:A1.next<A4.next:=by omega
 have kp:∀{X Y:zS},yw X Y→(A1.next<X.next∧X.get S1.next=some (.cells (yP Zw) (.own []) 0)∧X.get A1.next=some (.cells (yP Y3) (.own []) 0))→(A1.next<Y.next∧Y.get S1.next=some (.cells (yP Zw) (.own []) 0)∧Y.get A1.next=some (.cells (yP Y3) (.own []) 0)):=fun h k=>⟨Nat.lt_of_lt_of_le k.1 h.1,(h.2 _ _ _ _ (by omega) k.2.1).trans k.2.1,(h.2 _ _ _ _ k.1 k.2.2).trans k.2.2⟩
 have k4:A1.next<A4.next∧A4.get S1.next=some (.cells (yP Zw) (.own []) 0)∧A4.get A1.next=some (.cells (yP Y3) (.own []) 0):=⟨hn4,hb4,t2⟩;have z1:Big 1:=by unfold Big;decide
 have z2:Big 2:=by unfold Big;decide
 have z3:Big 3:=by unfold Big;decide
 have l4:=vM k4.2.1 YM.ne;obtain⟨B1,c2,x1⟩:=vC.v YM z2 bV A4;obtain⟨B2,c3,G5,y1⟩:=VA (G4.ext x1) bV;rw[Rw]at c3 G5;have k5:=kp y1 (kp (yw.ext x1) k4);have l5:=vM k5.2.1 YM.ne;obtain⟨B3,c4,x2⟩:=vC.v YM z1 bU B2;obtain⟨B4,c5,G6,y2⟩:=TD (G5.ext x2) bU;rw[sa1,Tj]at G6;have k6:=kp y2 (kp (yw.ext x2) k5);have l6:=vM k6.2.1 YM.ne;obtain⟨B5,c6,x3⟩:=vC.v YM z2 bV B4;obtain⟨B6,c7,G7,y3⟩:=VA (G6.ext x3) bV;rw[Rx]at c7 G7;have k7:=kp y3 (kp (yw.ext x3) k6);have l7:=vM k7.2.2 DK.ne;obtain⟨B7,c8,x4⟩:=vC.v DK z2 Ec B6;obtain⟨B8,c9,G8,y4⟩:=VA (G7.ext x4) Ec;rw[pa3]at c9 G8;have k8:=kp y4 (kp (yw.ext x4) k7);have l8:=vM k8.2.1 YM.ne;obtain⟨B9,c10,x5⟩:=vC.v YM z3 Ee B8;obtain⟨B10,c11,G9,y5⟩:=VA (G8.ext x5) Ee;rw[Ry]at c11 G9;have k9:=kp y5 (kp (yw.ext x5) k8);have l9:=vM k9.2.1 YM.ne;obtain⟨B11,c12,x6⟩:=vC.v YM z1 bU B10;obtain⟨B12,c13,G10,y6⟩:=VA (G9.ext x6) bU;rw[Rz]at c13 G10;have c14:zU zi O vV.id [.pointer (some ⟨q,0,none⟩),.int .i64 2] B12=some (.bool true,B12):=vV.v G10 2;have c15:zU zi O vV.id [.pointer (some ⟨q,0,none⟩),.int .i64 1] B12=some (.bool false,B12):=vV.v G10 1;conv at hr=>
  rhs;rw[hTe];simp only[qU.code,qU.rs,jc,reduceIte,zk,zn,zo,zq,i0,c1,pn,bb,bt,bs,bc,a1,a2,s1,t1,l4,c2,c3,l5,c4,c5,l6,c6,c7,l7,c8,c9,l8,c10,c11,l9,c12,c13,c14,c15]
 rw[hTe]at hr;exact qU.runs hr (.inr rfl) rfl rfl
end Go.Proofs.Ytfjogganfjkckaa
