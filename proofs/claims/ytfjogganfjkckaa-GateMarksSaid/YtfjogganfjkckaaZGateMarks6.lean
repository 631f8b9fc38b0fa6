/-
The law GateMarks returns true for every input, and leaves it as it was; no condition. Part 6 of 7 of the texts (put together by a program: own names are short, what isn't needed is left out).
-/
import Derived.Test.YtfjogganfjkckaaZGateMarks5

set_option linter.unusedVariables false
set_option linter.unusedSimpArgs false
set_option maxRecDepth 100000
open Go renaming undef → zh
open Go.Proofs.Try renaming prog → zi
open Nat renaming reduceEqDiff → zk
open Int renaming reduceEq → zn
open Int renaming reduceLT → zo
open Int renaming reduceLE → zq
namespace Go.Proofs.Ytfjogganfjkckaa
open Go.Abs
theorem TxV.ext_iff' {t u:TxV}:t=u ↔ t.id=u.id∧t.fee=u.fee:=by cases t;cases u;simp
theorem ahu (t u:TxV) (S:zx):wH zi .eql 43 (tv t) (tv u) S=some (.bool (decide (t=u)),S)∧wH zi .neq 43 (tv t) (tv u) S=some (.bool (!decide (t=u)),S):=by
 have h:=aeg (S:=S) (xs:=#[Value.int .i64 t.id,.int .i64 t.fee]) (ys:=#[Value.int .i64 u.id,.int .i64 u.fee]) (bs:=[t.id == u.id,t.fee == u.fee]) ah9 (by kernel_rfl) (by kernel_rfl)
  ⟨⟨by decide,.int .i64 t.id,.int .i64 u.id,by kernel_rfl,by kernel_rfl,by kernel_rfl⟩,⟨by decide,.int .i64 t.fee,.int .i64 u.fee,by kernel_rfl,by kernel_rfl,by kernel_rfl⟩,trivial⟩ rfl rfl
 have e:[t.id == u.id,t.fee == u.fee].all id=decide (t=u):=by
  rw [Bool.eq_iff_iff]
  simp [TxV.ext_iff']
 rw [e] at h
 exact h
theorem zK.round {k j:Nat} {a b:List TxV} (hk:Okl k a) (hj:Okl j b) (k2:k≠2) (j2:j≠2) (hab:a.length=b.length) (hlen:a.length≤17592186044416) {S:zx}:∀ (sa sb pa pb:List TxV) {T:List Value} {r:St},qR (zL zi O false zK.jS) T S=r→T.length=26 →
  T.getD 0 zh=tl k a→T.getD 1 zh=tl j b→T.getD 12 zh=.int .i64 a.length→T.getD 13 zh=.int .i64 pa.length→a=pa++sa→b=pb++sb→pa.length=pb.length→pa=pb →
  ∃ e T',r=some (e,T',S)∧if a=b then e=.exit 0∧T'.length=26 else e=.ret∧T'.getD 4 zh=.bool false:=by
 intro sa
 induction sa with
 | nil =>
  intro sb pa pb T r hL hT h0 h1 h12 h13 ha hb hp hpp
  have hTe:=zK.eta hT
  rw [h0,h1,h12,h13] at hTe
  have hr:zL zi O false zK.jS T S=zL zi O false zK.jS T S:=rfl
  have hd:¬ (pa.length:Int) < (a.length:Int):=by rw [ha];simp
  conv at hr =>
   rhs
   rw [hTe]
   simp only [zK.jS,zK.code,zK.rs,zSs,reduceIte,zk,zn,zo,zq,hd]
  have hsb:sb=[]:=by rw [ha,hb] at hab;simp [hp] at hab;exact hab
  refine ⟨_,_,hL.symm.trans (wI hr (by simp)),?_⟩
  rw [if_pos (by rw [ha,hb,hsb,hpp])]
  exact ⟨rfl,rfl⟩
 | cons x sa ih =>
  intro sb pa pb T r hL hT h0 h1 h12 h13 ha hb hp hpp
  have hTe:=zK.eta hT
  rw [h0,h1,h12,h13] at hTe
  have hr:zL zi O false zK.jS T S=zL zi O false zK.jS T S:=rfl
  have hd:(pa.length:Int) < (a.length:Int):=by rw [ha];simp;omega
  cases sb with
  | nil=>rw [ha,hb] at hab;simp [hp] at hab
  | cons y sb =>
   have e1:=fun S=>Qy (S:=S) hk ha
   have e2:∀ S,jr zi 44 (tl j b) (.int .i64 pa.length) S=some (EP [.int .i64 y.id,.int .i64 y.fee],S):=fun S=>by rw [hp];exact Qy hj hb
   have wi:IntKind.i64.wrap ((pa.length:Int)+1)=((pa++[x]).length:Int):=by rw [wrap_i64 (by omega) (by omega)];simp
   have q:∀ S,wH zi .neq 43 (.agg [Value.int .i64 x.id,.int .i64 x.fee].toArray) (.agg [Value.int .i64 y.id,.int .i64 y.fee].toArray) S=some (.bool (!decide (x=y)),S):=fun S=>(ahu x y S).2
   by_cases hxy:x=y
   ·
    conv at hr =>
     rhs
     rw [hTe]
     simp only [zK.jS,zK.code,zK.rs,zSs,reduceIte,zk,zn,zo,zq,hd,if_neg k2,if_neg j2,e1,e2,xw,q,decide_eq_true hxy,wi]
    subst hxy
    exact ih sb (pa++[x]) (pb++[x]) ((yH hr).symm.trans hL) rfl rfl rfl rfl rfl (by simp [ha]) (by simp [hb]) (by simp [hp]) (by rw [hpp])
   ·
    conv at hr =>
     rhs
     rw [hTe]
     simp only [zK.jS,zK.code,zK.rs,zSs,reduceIte,zk,zn,zo,zq,hd,if_neg k2,if_neg j2,e1,e2,xw,q,decide_eq_false hxy]
    refine ⟨_,_,hL.symm.trans (wI hr (by simp)),?_⟩
    rw [if_neg (by rw [ha,hb,hpp];simp [hxy])]
    exact ⟨rfl,rfl⟩
theorem zK.v {k j:Nat} {a b:List TxV} (hk:Okl k a) (hj:Okl j b) (k2:k≠2) (j2:j≠2) (hlen:a.length≤17592186044416) (S:zx):jd zi O zK.id [tl k a,tl j b] S=some (.bool (decide (a=b)),S):=by
 obtain ⟨T,hTe⟩:∃ T,T=(tl k a::tl j b::zh::zh::zh::zh::zh::zh::zh::zh::zh::zh::zh::zh::zh::zh::zh::zh::zh::zh::zh::zh::zh::zh::zh::zh::[]):=⟨_,rfl⟩
 have hr:zL zi O false zK.code T S=zL zi O false zK.code T S:=rfl
 by_cases hab:a.length=b.length
 ·
  have d1:¬ (a.length:Int)≠(b.length:Int):=by omega
  conv at hr =>
   rhs
   rw [hTe]
   simp only [zK.code,zK.rs,zSs,reduceIte,zk,zn,zo,zq,if_neg k2,if_neg j2,Jq hk,Jq hj,hab]
  rw [← hab] at hr
  generalize hL:qR (zL zi O false zK.jS) _ _=r at hr
  obtain ⟨e,T',rfl,g⟩:=zK.round hk hj k2 j2 hab hlen a b [] [] hL rfl rfl rfl rfl rfl rfl rfl rfl rfl
  by_cases h:a=b
  ·
   rw [if_pos h] at g
   obtain ⟨rfl,g2⟩:=g
   have hTe':=zK.eta g2
   conv at hr =>
    rhs
    rw [hTe']
    simp only [zK.code,zK.rs,zSs,reduceIte,zk,zn,zo,zq]
   rw [hTe] at hr
   rw [decide_eq_true h]
   exact zK.runs hr (.inr rfl)
  ·
   rw [if_neg h] at g
   obtain ⟨rfl,g2⟩:=g
   conv at hr =>
    rhs
    simp only [zSs,reduceIte,zk,zn,zo,zq]
   rw [hTe] at hr
   have hrun:=zK.runs hr (.inr rfl)
   rw [g2] at hrun
   rw [decide_eq_false h]
   exact hrun
 ·
  have d1:¬ (a.length:Int)=(b.length:Int):=by omega
  conv at hr =>
   rhs
   rw [hTe]
   simp only [zK.code,zK.rs,zSs,reduceIte,zk,zn,zo,zq,if_neg k2,if_neg j2,Jq hk,Jq hj,d1]
  rw [hTe] at hr
  rw [decide_eq_false (fun h:a=b=>hab (by rw [h]))]
  exact zK.runs hr (.inr rfl)
theorem slices_Equal.round {k j:Nat} {a b:List TxV} (hk:Okl k a) (hj:Okl j b) (k2:k≠2) (j2:j≠2) (hab:a.length=b.length) (hlen:a.length≤17592186044416) {S:zx}:∀ (sa sb pa pb:List TxV) {T:List Value} {r:St},qR (zL zi O false slices_Equal.jS) T S=r→T.length=26 →
  T.getD 0 zh=tl k a→T.getD 1 zh=tl j b→T.getD 12 zh=.int .i64 a.length→T.getD 13 zh=.int .i64 pa.length→a=pa++sa→b=pb++sb→pa.length=pb.length→pa=pb →
  ∃ e T',r=some (e,T',S)∧if a=b then e=.exit 0∧T'.length=26 else e=.ret∧T'.getD 4 zh=.bool false:=by
 intro sa
 induction sa with
 | nil =>
  intro sb pa pb T r hL hT h0 h1 h12 h13 ha hb hp hpp
  have hTe:=slices_Equal.eta hT
  rw [h0,h1,h12,h13] at hTe
  have hr:zL zi O false slices_Equal.jS T S=zL zi O false slices_Equal.jS T S:=rfl
  have hd:¬ (pa.length:Int) < (a.length:Int):=by rw [ha];simp
  conv at hr =>
   rhs
   rw [hTe]
   simp only [slices_Equal.jS,slices_Equal.code,slices_Equal.rs,zSs,reduceIte,zk,zn,zo,zq,hd]
  have hsb:sb=[]:=by rw [ha,hb] at hab;simp [hp] at hab;exact hab
  refine ⟨_,_,hL.symm.trans (wI hr (by simp)),?_⟩
  rw [if_pos (by rw [ha,hb,hsb,hpp])]
  exact ⟨rfl,rfl⟩
 | cons x sa ih =>
  intro sb pa pb T r hL hT h0 h1 h12 h13 ha hb hp hpp
  have hTe:=slices_Equal.eta hT
  rw [h0,h1,h12,h13] at hTe
  have hr:zL zi O false slices_Equal.jS T S=zL zi O false slices_Equal.jS T S:=rfl
  have hd:(pa.length:Int) < (a.length:Int):=by rw [ha];simp;omega
  cases sb with
  | nil=>rw [ha,hb] at hab;simp [hp] at hab
  | cons y sb =>
   have e1:=fun S=>Qy (S:=S) hk ha
   have e2:∀ S,jr zi 44 (tl j b) (.int .i64 pa.length) S=some (EP [.int .i64 y.id,.int .i64 y.fee],S):=fun S=>by rw [hp];exact Qy hj hb
   have wi:IntKind.i64.wrap ((pa.length:Int)+1)=((pa++[x]).length:Int):=by rw [wrap_i64 (by omega) (by omega)];simp
   have q:∀ S,wH zi .neq 43 (.agg [Value.int .i64 x.id,.int .i64 x.fee].toArray) (.agg [Value.int .i64 y.id,.int .i64 y.fee].toArray) S=some (.bool (!decide (x=y)),S):=fun S=>(ahu x y S).2
   by_cases hxy:x=y
   ·
    conv at hr =>
     rhs
     rw [hTe]
     simp only [slices_Equal.jS,slices_Equal.code,slices_Equal.rs,zSs,reduceIte,zk,zn,zo,zq,hd,if_neg k2,if_neg j2,e1,e2,xw,q,decide_eq_true hxy,wi]
    subst hxy
    exact ih sb (pa++[x]) (pb++[x]) ((yH hr).symm.trans hL) rfl rfl rfl rfl rfl (by simp [ha]) (by simp [hb]) (by simp [hp]) (by rw [hpp])
   ·
    conv at hr =>
     rhs
     rw [hTe]
     simp only [slices_Equal.jS,slices_Equal.code,slices_Equal.rs,zSs,reduceIte,zk,zn,zo,zq,hd,if_neg k2,if_neg j2,e1,e2,xw,q,decide_eq_false hxy]
    refine ⟨_,_,hL.symm.trans (wI hr (by simp)),?_⟩
    rw [if_neg (by rw [ha,hb,hpp];simp [hxy])]
    exact ⟨rfl,rfl⟩
theorem slices_Equal.v {k j:Nat} {a b:List TxV} (hk:Okl k a) (hj:Okl j b) (k2:k≠2) (j2:j≠2) (hlen:a.length≤17592186044416) (S:zx):jd zi O slices_Equal.id [tl k a,tl j b] S=some (.bool (decide (a=b)),S):=by
 obtain ⟨T,hTe⟩:∃ T,T=(tl k a::tl j b::zh::zh::zh::zh::zh::zh::zh::zh::zh::zh::zh::zh::zh::zh::zh::zh::zh::zh::zh::zh::zh::zh::zh::zh::[]):=⟨_,rfl⟩
 have hr:zL zi O false slices_Equal.code T S=zL zi O false slices_Equal.code T S:=rfl
 by_cases hab:a.length=b.length
 ·
  have d1:¬ (a.length:Int)≠(b.length:Int):=by omega
  conv at hr =>
   rhs
   rw [hTe]
   simp only [slices_Equal.code,slices_Equal.rs,zSs,reduceIte,zk,zn,zo,zq,if_neg k2,if_neg j2,Jq hk,Jq hj,hab]
  rw [← hab] at hr
  generalize hL:qR (zL zi O false slices_Equal.jS) _ _=r at hr
  obtain ⟨e,T',rfl,g⟩:=slices_Equal.round hk hj k2 j2 hab hlen a b [] [] hL rfl rfl rfl rfl rfl rfl rfl rfl rfl
  by_cases h:a=b
  ·
   rw [if_pos h] at g
   obtain ⟨rfl,g2⟩:=g
   have hTe':=slices_Equal.eta g2
   conv at hr =>
    rhs
    rw [hTe']
    simp only [slices_Equal.code,slices_Equal.rs,zSs,reduceIte,zk,zn,zo,zq]
   rw [hTe] at hr
   rw [decide_eq_true h]
   exact slices_Equal.runs hr (.inr rfl)
  ·
   rw [if_neg h] at g
   obtain ⟨rfl,g2⟩:=g
   conv at hr =>
    rhs
    simp only [zSs,reduceIte,zk,zn,zo,zq]
   rw [hTe] at hr
   have hrun:=slices_Equal.runs hr (.inr rfl)
   rw [g2] at hrun
   rw [decide_eq_false h]
   exact hrun
 ·
  have d1:¬ (a.length:Int)=(b.length:Int):=by omega
  conv at hr =>
   rhs
   rw [hTe]
   simp only [slices_Equal.code,slices_Equal.rs,zSs,reduceIte,zk,zn,zo,zq,if_neg k2,if_neg j2,Jq hk,Jq hj,d1]
  rw [hTe] at hr
  rw [decide_eq_false (fun h:a=b=>hab (by rw [h]))]
  exact slices_Equal.runs hr (.inr rfl)
theorem aaD:∀ {a b:List TxV},flat a=flat b→a=b:=by
 intro a
 induction a with
 | nil=>intro b h;cases b with
  | nil=>rfl
  | cons u b=>simp [flat] at h
 | cons t a ih =>
  intro b h
  cases b with
  | nil=>simp [flat] at h
  | cons u b =>
   have h':[t.id,t.fee]++flat a=[u.id,u.fee]++flat b:=h
   simp at h'
   rw [ih h'.2.2,TxV.ext_iff'.mpr ⟨h'.1,h'.2.1⟩]
theorem afw {l:List TxV} (h:∀ t ∈ l,qF t=true):∀ n ∈ flat l,Few n:=fun n hn=>by have:=aag h n hn;unfold Few;omega
theorem agW {a b:List TxV} {r s:List UInt8} (la:a.length≤1000) (lb:b.length≤1000) (ha:∀ t ∈ a,qF t=true) (hb:∀ t ∈ b,qF t=true) (h:aaU a++r=aaU b++s):a=b∧r=s:=by
 rw [Zz,Zz,List.append_assoc,List.append_assoc] at h
 obtain ⟨h1,h2⟩:=WW (a:=[(a.length:Int)]) (c:=[(b.length:Int)]) rfl (by simp [Few];omega) (by simp [Few];omega) h
 simp at h1
 obtain ⟨h3,h4⟩:=WW (by rw [JL,JL];omega) (afw ha) (afw hb) h2
 exact ⟨aaD h3,h4⟩
theorem adJ {a b:List TxV} {r s:List UInt8} (ha:ZJ a=true) (hb:ZJ b=true) (h:aaU a++r=aaU b++s):a=b∧r=s:=by
 obtain ⟨h1,h2⟩:=xY.mp ha
 obtain ⟨h3,h4⟩:=xY.mp hb
 exact agW (by omega) (by omega) h1.2 h3.2 h
noncomputable def Zq (l:List UInt8):Option (List TxV):=rd (fun t=>ZJ t=true) aaU l
theorem xW (l:List UInt8) (t:List TxV):Zq l=some t ↔ ZJ t=true∧l=aaU t :=
 afd (fun x y hx hy h=>(adJ (r:=[]) (s:=[]) hx hy (by simpa using h)).1) l t
theorem aej {l:List UInt8} (h:∀ t,¬ (ZJ t=true∧l=aaU t)):Zq l=none:=by
 cases hr:Zq l with
 | none=>rfl
 | some t=>exact absurd ((xW l t).mp hr) (h t)
noncomputable def X7 (k:Nat) (l:List UInt8):Value:=match Zq l with
 | some t=>.tuple #[tl (if t=[] then k else 2) t,.int .i64 0]
 | none=>.tuple #[.slice none 0 0,.int .i64 61]
def Yg:Nat→List UInt8→Option (List TxV×List UInt8)
 | 0,l=>some ([],l)
 | m+1,l=>match qm 2 l with
  | some ([a,b],r)=>if qF ⟨a,b⟩ then (match Yg m r with
   | some (x,y)=>some (⟨a,b⟩::x,y)
   | none=>none) else none
  | _=>none
theorem Va:∀ (m:Nat) (l:List UInt8) (a:List TxV) (b:List UInt8),Yg m l=some (a,b) ↔ a.length=m∧(∀ t ∈ a,qF t=true)∧l=encs (flat a)++b:=by
 intro m
 induction m with
 | zero =>
  intro l a b
  constructor
  ·
   intro h;cases h;exact ⟨rfl,(fun t h=>by cases h),rfl⟩
  ·
   rintro ⟨h1,h2,h3⟩
   have:a=[]:=List.length_eq_zero_iff.mp h1
   subst this
   rw [h3];rfl
 | succ m ih =>
  intro l a b
  rw [Yg]
  constructor
  ·
   intro h
   rcases KL l with hn | ⟨x,y,r,hn,hlr⟩
   ·
    rw [hn] at h;cases h
   ·
    rw [hn] at h
    dsimp only at h
    split at h
    ·
     rename_i hok
     cases hr:Yg m r with
     | none=>rw [hr] at h;cases h
     | some ab =>
      obtain ⟨a',b'⟩:=ab
      rw [hr] at h
      obtain ⟨h1,h2,h3⟩:=(ih r a' b').mp hr
      cases h
      obtain ⟨f1,f2,f3⟩:=(yY _ _ _ _).mp hn
      refine ⟨by simp [h1],fun t ht=>?_,?_⟩
      ·
       rcases List.mem_cons.1 ht with rfl | ht
       ·
        exact hok
       ·
        exact h2 t ht
      ·
       rw [f2,h3,show flat (⟨x,y⟩::a')=[x,y]++flat a' from rfl,ZE,List.append_assoc]
    ·
     cases h
  ·
   rintro ⟨h1,h2,h3⟩
   cases a with
   | nil=>simp at h1
   | cons t a =>
    have ht:=h2 t (by simp)
    obtain ⟨b1,b2,b3,b4⟩:=xC.mp ht
    have hn:=(yY 2 l [t.id,t.fee] (encs (flat a)++b)).mpr ⟨rfl,by rw [h3,show flat (t::a)=[t.id,t.fee]++flat a from rfl,ZE,List.append_assoc],by simp [Few];omega⟩
    rw [hn]
    dsimp only
    rw [if_pos ht,(ih (encs (flat a)++b) a b).mpr ⟨by simpa using h1,fun u hu=>h2 u (by simp [hu]),rfl⟩]
theorem ajo (l:List UInt8):qm 1 l=none∨∃ a r,qm 1 l=some ([a],r)∧r.length≤l.length:=by
 cases h:qm 1 l with
 | none=>exact .inl rfl
 | some ar =>
  obtain ⟨a,r⟩:=ar
  obtain ⟨h1,h2⟩:=WM h
  match a,h1 with
  | [x],_=>exact .inr ⟨x,r,rfl,h2⟩
theorem WU {l r:List UInt8} {n:Int} (h:qm 1 l=some ([n],r)) (t:List TxV):Zq l=some t ↔ 0≤n∧n≤3∧Yg n.toNat r=some (t,[])∧unl t=true:=by
 obtain ⟨_,h2,h3⟩:=(yY _ _ _ _).mp h
 rw [xW,Va]
 constructor
 ·
  rintro ⟨g1,g2⟩
  obtain ⟨h5,h6⟩:=xY.mp g1
  rw [Zz,h2] at g2
  obtain ⟨h7,h8⟩:=WW (a:=[n]) (c:=[(t.length:Int)]) rfl h3 (by simp [Few];omega) g2
  simp at h7
  refine ⟨by omega,by omega,⟨by omega,h5.2,by simpa using h8⟩,?_⟩
  unfold ZJ at g1
  simp at g1
  exact g1.1
 ·
  rintro ⟨g1,g2,⟨g3,g4,g5⟩,g6⟩
  refine ⟨?_,?_⟩
  ·
   unfold ZJ
   rw [g6,Bool.true_and,List.all_eq_true]
   exact g4
  ·
   have:n=(t.length:Int):=by omega
   rw [h2,g5,List.append_nil,Zz,this]
theorem VH {l:List UInt8} (h:qm 1 l=none):Zq l=none:=by
 refine aej fun t ht=>?_
 obtain ⟨h5,h6⟩:=xY.mp ht.1
 have:=(yY 1 l [(t.length:Int)] (encs (flat t))).mpr ⟨rfl,by rw [ht.2,Zz],by simp [Few];omega⟩
 rw [h] at this
 cases this
end Go.Proofs.Ytfjogganfjkckaa
namespace Go.Proofs.Ytfjogganfjkckaa
open Go.Abs
theorem afx (t:TxV) (S:zx):jU zi 44 1 [(0,tv t)] S=some (tl 2 [t],S):=by kernel_rfl
theorem alT (k:Nat) (hk:k≤2) (a:Int) (h:k≠0) (S:zx):jr zi 24 (iz k [a]) (.int .i64 0) S=some (EP [.int .i64 a],S):=acS ⟨hk,fun h0=>absurd h0 h⟩ (by decide) (by simp)
theorem agp {k:Nat} (hk:k≤2) (l:List TxV):Okl (if l=[] then k else 2) l:=⟨by split <;> omega,fun h=>by split at h <;> first | assumption | omega⟩
theorem zW.round {n:Int} (hn:n≤3):∀ (m:Nat) (i:Int) (rest:List UInt8) (out:List TxV) {T:List Value} {S:zx} {r:St},qR (zL zi O false zW.jS) T S=r→T.length=59 →
  T.getD 5 zh=by_ 2 rest→T.getD 7 zh=tl (if out=[] then 0 else 2) out→T.getD 33 zh=.int .i64 n→T.getD 34 zh=.int .i64 i→0≤i→n=i+m→out.length≤3 - m→rest.length≤140737488355328 →
  ∃ e T' S',r=some (e,T',S')∧match Yg m rest with
   | some (ts,r')=>e=.exit 0∧T'.length=59∧T'.getD 5 zh=by_ 2 r'∧T'.getD 7 zh=tl (if out++ts=[] then 0 else 2) (out++ts)
   | none=>e=.ret∧T'.getD 2 zh=.slice none 0 0∧T'.getD 3 zh=.int .i64 61:=by
 intro m
 induction m with
 | zero =>
  intro i rest out T S r hL hT h5 h7 h33 h34 hi hm ho hl
  have hTe:=zW.eta hT
  rw [h5,h7,h33,h34] at hTe
  have hr:zL zi O false zW.jS T S=zL zi O false zW.jS T S:=rfl
  have d1:¬ i < n:=by omega
  conv at hr =>
   rhs
   rw [hTe]
   simp only [zW.jS,zW.code,zW.rs,zSs,reduceIte,zk,zn,zo,zq,d1]
  refine ⟨_,_,_,hL.symm.trans (wI hr (by simp)),?_⟩
  rw [Yg]
  exact ⟨rfl,rfl,rfl,by rw [List.append_nil];rfl⟩
 | succ m ih =>
  intro i rest out T S r hL hT h5 h7 h33 h34 hi hm ho hl
  have hTe:=zW.eta hT
  rw [h5,h7,h33,h34] at hTe
  have hr:zL zi O false zW.jS T S=zL zi O false zW.jS T S:=rfl
  have d1:i < n:=by omega
  have c1:=fun S=>yj.v (k:=1) (l:=rest) Okl.read (by decide) hl S
  unfold aix at c1
  rw [Yg]
  rcases KL rest with h | ⟨a,b,q,h,hlr⟩
  ·
   rw [h] at c1
   rw [h]
   obtain ⟨S2,p1,p2,p3,p4⟩:=XF S ⟨0,0⟩
   conv at hr =>
    rhs
    rw [hTe]
    simp only [zW.jS,zW.code,zW.rs,zSs,reduceIte,zk,zn,zo,zq,d1,c1,JY,p1]
   exact ⟨_,_,_,hL.symm.trans (wI hr (by simp)),rfl,rfl,rfl⟩
  ·
   rw [h] at c1
   rw [h]
   obtain ⟨S2,p1,p2,p3,p4⟩:=XF S ⟨a,b⟩
   by_cases hok:qF ⟨a,b⟩=true
   ·
    have wi:IntKind.i64.wrap (i+1)=i+1:=wrap_i64 (by omega) (by omega)
    have ap:∀ S,yB zi 44 44 (tl (if out=[] then 0 else 2) out) (tl 2 [⟨a,b⟩]) S=some (tl 2 (out++[⟨a,b⟩]),S):=fun S=>ag6 ⟨by split <;> omega,fun h=>by split at h <;> first | assumption | omega⟩ (by split <;> omega) (by omega)
    have c2:∀ S,jU zi 44 1 [(0,.agg [Value.int .i64 a,.int .i64 b].toArray)] S=some (tl 2 [⟨a,b⟩],S):=fun S=>afx ⟨a,b⟩ S
    have c3:jl zi false 43 (.pointer (some ⟨S.next,0,none⟩)) S2=some (.agg [Value.int .i64 a,.int .i64 b].toArray,S2):=Wu p2
    conv at hr =>
     rhs
     rw [hTe]
     simp only [zW.jS,zW.code,zW.rs,zSs,reduceIte,zk,zn,zo,zq,d1,c1,JY,p1,hok,c3,c2,ap,wi]
    obtain ⟨e,T',S',j1,j2⟩:=ih (i+1) q (out++[⟨a,b⟩]) ((yH hr).symm.trans hL) rfl rfl (by rw [show (if out++[TxV.mk a b]=[] then 0 else 2)=2 from if_neg (by simp)];rfl) rfl rfl (by omega) (by omega) (by simp;omega) (by omega)
    refine ⟨e,T',S',j1,?_⟩
    dsimp only
    rw [if_pos hok]
    cases hq:Yg m q with
    | none=>rw [hq] at j2;exact j2
    | some tr =>
     obtain ⟨ts,r'⟩:=tr
     rw [hq] at j2
     dsimp only at j2 ⊢
     rw [List.append_assoc] at j2
     exact j2
   ·
    dsimp only
    rw [if_neg hok]
    rw [Bool.not_eq_true] at hok
    conv at hr =>
     rhs
     rw [hTe]
     simp only [zW.jS,zW.code,zW.rs,zSs,reduceIte,zk,zn,zo,zq,d1,c1,JY,p1,hok]
    exact ⟨_,_,_,hL.symm.trans (wI hr (by simp)),rfl,rfl,rfl⟩
theorem zW.v {k:Nat} {l:List UInt8} (hk:Okl k l) (k2:k≠2) (hl:l.length≤140737488355328) (S:zx):jd zi O zW.id [by_ k l] S=some (X7 0 l,S):=by
 obtain ⟨T,hTe⟩:∃ T,T=(by_ k l::zh::zh::zh::zh::zh::zh::zh::zh::zh::zh::zh::zh::zh::zh::zh::zh::zh::zh::zh::zh::zh::zh::zh::zh::zh::zh::zh::zh::zh::zh::zh::zh::zh::zh::zh::zh::zh::zh::zh::zh::zh::zh::zh::zh::zh::zh::zh::zh::zh::zh::zh::zh::zh::zh::zh::zh::zh::zh::[]):=⟨_,rfl⟩
 have hr:zL zi O false zW.code T zx.empty=zL zi O false zW.code T zx.empty:=rfl
 have c1:=fun S=>zT.v (many:=1) hk k2 hl S
 have r1:Zm 0 (if k=0 then 0 else 2) 1 l=_:=xU (m:=1) (by decide) (by decide)
 rw [r1] at c1
 have cl:[by_ k l].all (jL 16)=true:=all1 (qH (k:=k) hk.le)
 unfold X7
 rcases ajo l with h | ⟨n,rest,h,hlr⟩
 ·
  rw [h] at c1
  rw [VH h]
  conv at hr =>
   rhs
   rw [hTe]
   simp only [zW.code,zW.rs,zSs,reduceIte,zk,zn,zo,zq,if_neg k2,c1]
  rw [hTe] at hr
  exact zW.runs hr (.inr rfl) rfl rfl cl rfl
 ·
  rw [h] at c1
  have e0:=alT 1 (by decide) n (by decide)
  by_cases h0:n < 0
  ·
   have hno:Zq l=none:=by
    cases hx:Zq l with
    | none=>rfl
    | some t=>have:=(WU h t).mp hx;omega
   rw [hno]
   conv at hr =>
    rhs
    rw [hTe]
    simp only [zW.code,zW.rs,zSs,reduceIte,zk,zn,zo,zq,if_neg k2,c1,e0,qA,h0]
   rw [hTe] at hr
   exact zW.runs hr (.inr rfl) rfl rfl cl rfl
  ·
   by_cases h3:3 < n
   ·
    have hno:Zq l=none:=by
     cases hx:Zq l with
     | none=>rfl
     | some t=>have:=(WU h t).mp hx;omega
    rw [hno]
    conv at hr =>
     rhs
     rw [hTe]
     simp only [zW.code,zW.rs,zSs,reduceIte,zk,zn,zo,zq,if_neg k2,c1,e0,qA,h0,h3]
    rw [hTe] at hr
    exact zW.runs hr (.inr rfl) rfl rfl cl rfl
   ·
    conv at hr =>
     rhs
     rw [hTe]
     simp only [zW.code,zW.rs,zSs,reduceIte,zk,zn,zo,zq,if_neg k2,c1,e0,qA,h0,h3]
    generalize hL:qR (zL zi O false zW.jS) _ _=r at hr
    obtain ⟨e,T',S',rfl,g⟩:=zW.round (n:=n) (by omega) n.toNat 0 rest [] hL rfl rfl rfl rfl rfl (by omega) (by omega) (by simp) (by omega)
    cases hts:Yg n.toNat rest with
    | none =>
     rw [hts] at g
     obtain ⟨rfl,g2,g3⟩:=g
     have hno:Zq l=none:=by
      cases hx:Zq l with
      | none=>rfl
      | some t=>have:=(WU h t).mp hx;rw [hts] at this;simp at this
     rw [hno]
     conv at hr =>
      rhs
      simp only [zSs,reduceIte,zk,zn,zo,zq]
     rw [hTe] at hr
     have hrun:=zW.runs (S:=S) hr (.inr rfl) (by rw [g2];rfl) (by rw [g3];rfl) cl (by rw [g2,g3];rfl)
     rw [g2,g3] at hrun
     exact hrun
    | some tr =>
     obtain ⟨ts,r'⟩:=tr
     rw [hts] at g
     obtain ⟨rfl,g2,g3,g4⟩:=g
     rw [List.nil_append] at g4
     have hTe':=zW.eta g2
     rw [g3,g4] at hTe'
     by_cases hr0:r'=[]
     ·
      subst hr0
      have hts3:ts.length≤3:=by have:=(Va _ _ _ _).mp hts;omega
      have c3:=fun S=>jM.v (agp (by decide) ts).dem (WJ (if ts=[] then 0 else 2)) (by omega) S
      by_cases hu:unl ts=true
      ·
       have hyes:Zq l=some ts:=(WU h ts).mpr ⟨by omega,by omega,hts,hu⟩
       rw [hyes]
       conv at hr =>
        rhs
        rw [hTe']
        simp only [zW.code,zW.rs,zSs,reduceIte,zk,zn,zo,zq,Zv Okl.read,goInt,List.length_nil,Int.natCast_zero,Int.lt_irrefl,Vg,c3,hu]
       rw [hTe] at hr
       exact zW.runs hr (.inr rfl) (by simp only [List.getD_cons_succ,List.getD_cons_zero,wG,wz,jQ,jT,wu]) rfl cl (yV (all2 (Jk (agp (by decide) ts).le fun _ _=>rfl) rfl))
      ·
       have hno:Zq l=none:=by
        cases hx:Zq l with
        | none=>rfl
        | some t=>have:=(WU h t).mp hx;rw [hts] at this;simp at this;rw [this.2.2.1] at hu;exact absurd this.2.2.2 hu
       rw [hno]
       rw [Bool.not_eq_true] at hu
       conv at hr =>
        rhs
        rw [hTe']
        simp only [zW.code,zW.rs,zSs,reduceIte,zk,zn,zo,zq,Zv Okl.read,goInt,List.length_nil,Int.natCast_zero,Int.lt_irrefl,Vg,c3,hu]
       rw [hTe] at hr
       exact zW.runs hr (.inr rfl) rfl rfl cl rfl
     ·
      have hp:(0:Int) < (r'.length:Int):=by have:=List.length_pos_iff.mpr hr0;omega
      have hno:Zq l=none:=by
       cases hx:Zq l with
       | none=>rfl
       | some t=>have:=(WU h t).mp hx;rw [hts] at this;simp at this;exact absurd this.2.2.1.2 hr0
      rw [hno]
      conv at hr =>
       rhs
       rw [hTe']
       simp only [zW.code,zW.rs,zSs,reduceIte,zk,zn,zo,zq,Zv Okl.read,goInt,decide_eq_true hp]
      rw [hTe] at hr
      exact zW.runs hr (.inr rfl) rfl rfl cl rfl
end Go.Proofs.Ytfjogganfjkckaa
namespace Go.Proofs.Ytfjogganfjkckaa
open Go.Abs
theorem ako:∀ (m:Nat) (l:List Int),l.length=2 * m→∃ ts:List TxV,l=flat ts∧ts.length=m:=by
 intro m
 induction m with
 | zero=>intro l h;exact ⟨[],List.length_eq_zero_iff.mp (by omega),rfl⟩
 | succ m ih =>
  intro l h
  match l,h with
  | a::b::l,h =>
   obtain ⟨ts,h1,h2⟩:=ih l (by simp at h;omega)
   exact ⟨⟨a,b⟩::ts,by rw [h1];rfl,by simp [h2]⟩
theorem aj6 {n0:Int} {pre suf:List TxV} {t:TxV} {l:List Int} (hl:l=n0::flat (pre++t::suf)):l[1+2 * pre.length]?=some t.id∧l[2+2 * pre.length]?=some t.fee:=by
 have e:l=(n0::flat pre)++(t.id::t.fee::flat suf):=by rw [hl,Yy];rfl
 have hlen:(n0::flat pre).length=1+2 * pre.length:=by rw [List.length_cons,JL];omega
 constructor
 ·
  rw [e,List.getElem?_append_right (by omega),hlen,Nat.sub_self];rfl
 ·
  rw [e,List.getElem?_append_right (by omega),hlen,show 2+2 * pre.length - (1+2 * pre.length)=1 by omega];rfl
theorem vJ {k:Nat} {l:List Int} {i:Int} {x:Int} {m:Nat} (h:Okl k l) (hi:i=(m:Int)) (hx:l[m]?=some x) (S:zx):jr zi 24 (iz k l) (.int .i64 i) S=some (EP [.int .i64 x],S):=by
 obtain ⟨h1,h2⟩:=List.getElem?_eq_some_iff.mp hx
 subst hi
 rw [acS h (by omega) (by omega)]
 simp [← h2]
theorem zy.inner {ns:List Int} {n0:Int} {ts:List TxV} (hns:ns=n0::flat ts) (hts:ts.length≤3):∀ (suf pre:List TxV) {T:List Value} {S:zx} {r:St},qR (zL zi O false zy.jS) T S=r→T.length=69 →
  T.getD 4 zh=.int .i64 ts.length→T.getD 5 zh=iz 2 ns→T.getD 8 zh=tl 2 pre→T.getD 9 zh=.int .i64 pre.length→ts=pre++suf →
  ∃ T',r=some (.exit 2,T',S)∧T'.length=69∧T'.getD 8 zh=tl 2 ts∧T'.getD 4 zh=.int .i64 ts.length∧T'.getD 0 zh=T.getD 0 zh:=by
 intro suf
 induction suf with
 | nil =>
  intro pre T S r hL hT h4 h5 h8 h9 hpre
  have hTe:=zy.eta hT
  rw [h4,h5,h8,h9] at hTe
  have hr:zL zi O false zy.jS T S=zL zi O false zy.jS T S:=rfl
  have d1:¬ (pre.length:Int) < (ts.length:Int):=by rw [hpre];simp
  conv at hr =>
   rhs
   rw [hTe]
   simp only [zy.jS,zy.code,zy.rs,zSs,reduceIte,zk,zn,zo,zq,d1]
  rw [List.append_nil] at hpre
  exact ⟨_,hL.symm.trans (wI hr (by simp)),rfl,by rw [hpre];rfl,rfl,rfl⟩
 | cons t suf ih =>
  intro pre T S r hL hT h4 h5 h8 h9 hpre
  have hTe:=zy.eta hT
  rw [h4,h5,h8,h9] at hTe
  have hr:zL zi O false zy.jS T S=zL zi O false zy.jS T S:=rfl
  have d1:(pre.length:Int) < (ts.length:Int):=by rw [hpre];simp;omega
  obtain ⟨f1,f2⟩:=aj6 (by rw [hns,hpre]:ns=n0::flat (pre++t::suf))
  have w1:IntKind.i64.wrap (2 * (pre.length:Int))=2 * (pre.length:Int):=wrap_i64 (by omega) (by omega)
  have w2:IntKind.i64.wrap (1+2 * (pre.length:Int))=1+2 * (pre.length:Int):=wrap_i64 (by omega) (by omega)
  have w3:IntKind.i64.wrap (2+2 * (pre.length:Int))=2+2 * (pre.length:Int):=wrap_i64 (by omega) (by omega)
  have wi:IntKind.i64.wrap ((pre.length:Int)+1)=((pre++[t]).length:Int):=by rw [wrap_i64 (by omega) (by omega)];simp
  have i1:=fun S=>vJ (k:=1) (i:=1+2 * (pre.length:Int)) Okl.read (by omega) f1 S
  have i2:=fun S=>vJ (k:=1) (i:=2+2 * (pre.length:Int)) Okl.read (by omega) f2 S
  have ap:∀ S,yB zi 44 44 (tl 2 pre) (tl 2 [t]) S=some (tl 2 (pre++[t]),S):=fun S=>ag6 Okl.own (by decide) (by omega)
  have c2:∀ S,jU zi 44 1 [(0,.agg [Value.int .i64 t.id,.int .i64 t.fee].toArray)] S=some (tl 2 [t],S):=fun S=>afx t S
  conv at hr =>
   rhs
   rw [hTe]
   simp only [zy.jS,zy.code,zy.rs,zSs,reduceIte,zk,zn,zo,zq,d1,w1,w2,w3,i1,i2,qA,ZV yS yS,c2,ap,wi]
  obtain ⟨T',j1,j2,j3,j4,j5⟩:=ih (pre++[t]) ((yH hr).symm.trans hL) rfl rfl rfl rfl rfl (by simp [hpre])
  exact ⟨T',j1,j2,j3,j4,j5⟩
theorem zy.round {k:Nat} {l:List UInt8} (hk:Okl k l) (k2:k≠2) (hl:l.length≤140737488355328):∀ (m:Nat) (n:Nat) {T:List Value} {S:zx} {r:St},qR (zL zi O false zy.Za) T S=r→T.length=69 →
  T.getD 0 zh=by_ k l→T.getD 4 zh=.int .i64 n→n+m=4→(∀ ts,Zq l=some ts→n≤ts.length) →
  ∃ e T',r=some (e,T',S)∧match Zq l with
   | some ts=>e=.ret∧T'.getD 2 zh=tl 2 ts∧T'.getD 3 zh=.int .i64 0
   | none=>e=.exit 0∧T'.length=69:=by
 intro m
 induction m with
 | zero =>
  intro n T S r hL hT h0 h4 hn hno
  have hTe:=zy.eta hT
  rw [h0,h4] at hTe
  have hr:zL zi O false zy.Za T S=zL zi O false zy.Za T S:=rfl
  have d1:¬ (n:Int)≤3:=by omega
  conv at hr =>
   rhs
   rw [hTe]
   simp only [zy.Za,zy.code,zy.rs,zSs,reduceIte,zk,zn,zo,zq,d1]
  refine ⟨_,_,hL.symm.trans (wI hr (by simp)),?_⟩
  have hx:Zq l=none:=by
   cases hx:Zq l with
   | none=>rfl
   | some ts=>have h1:=hno ts hx;have h2:=(xY.mp ((xW l ts).mp hx).1).2;omega
  rw [hx]
  exact ⟨rfl,rfl⟩
 | succ m ih =>
  intro n T S r hL hT h0 h4 hn hno
  have hTe:=zy.eta hT
  rw [h0,h4] at hTe
  have hr:zL zi O false zy.Za T S=zL zi O false zy.Za T S:=rfl
  have d1:(n:Int)≤3:=by omega
  have w1:IntKind.i64.wrap (2 * (n:Int))=2 * (n:Int):=wrap_i64 (by omega) (by omega)
  have w2:IntKind.i64.wrap (1+2 * (n:Int))=((1+2 * n:Nat):Int):=by rw [wrap_i64 (by omega) (by omega)];omega
  have wi:IntKind.i64.wrap ((n:Int)+1)=((n+1:Nat):Int):=by rw [wrap_i64 (by omega) (by omega)];omega
  have c1:=fun S=>zC.v (many:=((1+2 * n:Nat):Int)) hk k2 hl S
  have r1:Zm 2 2 ((1+2 * n:Nat):Int) l=_:=xU (by omega) (by omega)
  rw [r1] at c1
  have key:∀ ts,Zq l=some ts→ts.length=n→qm (1+2 * n) l=some ((ts.length:Int)::flat ts,[]):=by
   intro ts hx hlen
   obtain ⟨g1,g2⟩:=(xW l ts).mp hx
   obtain ⟨h5,h6⟩:=xY.mp g1
   refine (yY _ _ _ _).mpr ⟨by simp [JL];omega,by rw [g2,List.append_nil];rfl,?_⟩
   intro x hx
   rcases List.mem_cons.1 hx with rfl | hx
   ·
    unfold Few;omega
   ·
    exact afw h5.2 x hx
  cases hns:qm (1+2 * n) l with
  | none =>
   rw [hns] at c1
   conv at hr =>
    rhs
    rw [hTe]
    simp only [zy.Za,zy.code,zy.rs,zSs,reduceIte,zk,zn,zo,zq,d1,w1,w2,if_neg k2,c1,wi]
   refine ih (n+1) ((yH hr).symm.trans hL) rfl rfl rfl (by omega) ?_
   intro ts hx
   have h1:=hno ts hx
   by_cases h2:ts.length=n
   ·
    rw [key ts hx h2] at hns;cases hns
   ·
    omega
  | some nr =>
   obtain ⟨ns,rest⟩:=nr
   rw [hns] at c1
   by_cases hr0:rest=[]
   ·
    subst hr0
    obtain ⟨f1,f2,f3⟩:=(yY _ _ _ _).mp hns
    obtain ⟨n0,nl,rfl⟩:∃ n0 nl,ns=n0::nl:=by
     cases ns with
     | nil=>simp at f1;omega
     | cons a b=>exact ⟨a,b,rfl⟩
    obtain ⟨ts,t1,t2⟩:=ako n nl (by simp at f1;omega)
    subst t1
    conv at hr =>
     rhs
     rw [hTe]
     simp only [zy.Za,zy.code,zy.rs,zSs,reduceIte,zk,zn,zo,zq,d1,w1,w2,if_neg k2,c1,Zv Okl.read,goInt,List.length_nil,Int.natCast_zero,Int.lt_irrefl,V5]
    generalize hL2:qR (zL zi O false zy.jS) _ _=r2 at hr
    obtain ⟨T',rfl,g1,g2,g3,g4⟩:=zy.inner (n0:=n0) (ts:=ts) rfl (by omega) ts [] hL2 rfl (by rw [t2];rfl) rfl rfl rfl rfl
    have hTe':=zy.eta g1
    rw [g2,g3,g4,t2] at hTe'
    simp only [List.getD_cons_zero] at hTe'
    have c3:=fun S=>zB.v (k:=1) (l:=ts) Okl.read (by decide) (by omega) S
    unfold ahJ at c3
    have s1:∀ S,Jv zi 33 9 (by_ k l) S=some (.string ⟨l.toArray⟩,S):=fun S=>Kt hk
    have s2:∀ S,Jv zi 33 9 (by_ 1 (aaU ts)) S=some (.string ⟨(aaU ts).toArray⟩,S):=fun S=>Kt Okl.read
    by_cases hok:ZJ ts=true
    ·
     rw [if_pos hok] at c3
     by_cases hb:aaU ts=l
     ·
      conv at hr =>
       rhs
       rw [hTe']
       simp only [zy.code,zy.rs,zSs,reduceIte,zk,zn,zo,zq,if_neg k2,c3,s1,s2,ahb,decide_eq_true hb]
      refine ⟨_,_,hL.symm.trans (wI hr (by simp)),?_⟩
      rw [(xW l ts).mpr ⟨hok,hb.symm⟩]
      exact ⟨rfl,rfl,rfl⟩
     ·
      conv at hr =>
       rhs
       rw [hTe']
       simp only [zy.code,zy.rs,zSs,reduceIte,zk,zn,zo,zq,if_neg k2,c3,s1,s2,ahb,decide_eq_false hb,wi]
      refine ih (n+1) ((yH hr).symm.trans hL) rfl rfl rfl (by omega) ?_
      intro us hx
      have h1:=hno us hx
      by_cases h2:us.length=n
      ·
       have:=key us hx h2
       rw [hns] at this
       simp at this
       have e:=aaD this.2
       subst e
       exact absurd ((xW _ _).mp hx).2.symm hb
      ·
       omega
    ·
     rw [if_neg hok] at c3
     conv at hr =>
      rhs
      rw [hTe']
      simp only [zy.code,zy.rs,zSs,reduceIte,zk,zn,zo,zq,c3,wi]
     refine ih (n+1) ((yH hr).symm.trans hL) rfl rfl rfl (by omega) ?_
     intro us hx
     have h1:=hno us hx
     by_cases h2:us.length=n
     ·
      have:=key us hx h2
      rw [hns] at this
      simp at this
      have e:=aaD this.2
      subst e
      exact absurd ((xW _ _).mp hx).1 hok
     ·
      omega
   ·
    have hp:(0:Int) < (rest.length:Int):=by have:=List.length_pos_iff.mpr hr0;omega
    conv at hr =>
     rhs
     rw [hTe]
     simp only [zy.Za,zy.code,zy.rs,zSs,reduceIte,zk,zn,zo,zq,d1,w1,w2,if_neg k2,c1,Zv Okl.read,goInt,decide_eq_true hp,wi]
    refine ih (n+1) ((yH hr).symm.trans hL) rfl rfl rfl (by omega) ?_
    intro ts hx
    have h1:=hno ts hx
    by_cases h2:ts.length=n
    ·
     rw [key ts hx h2] at hns;simp at hns;exact absurd hns.2 hr0
    ·
     omega
theorem zy.v {k:Nat} {l:List UInt8} (hk:Okl k l) (k2:k≠2) (hl:l.length≤140737488355328) (S:zx):jd zi O zy.id [by_ k l] S=some (X7 2 l,S):=by
 obtain ⟨T,hTe⟩:∃ T,T=(by_ k l::zh::zh::zh::zh::zh::zh::zh::zh::zh::zh::zh::zh::zh::zh::zh::zh::zh::zh::zh::zh::zh::zh::zh::zh::zh::zh::zh::zh::zh::zh::zh::zh::zh::zh::zh::zh::zh::zh::zh::zh::zh::zh::zh::zh::zh::zh::zh::zh::zh::zh::zh::zh::zh::zh::zh::zh::zh::zh::zh::zh::zh::zh::zh::zh::zh::zh::zh::zh::[]):=⟨_,rfl⟩
 have hr:zL zi O false zy.code T S=zL zi O false zy.code T S:=rfl
 conv at hr =>
  rhs
  rw [hTe]
  simp only [zy.code,zy.rs,zSs,reduceIte,zk,zn,zo,zq]
 generalize hL:qR (zL zi O false zy.Za) _ _=r at hr
 obtain ⟨e,T',rfl,g⟩:=zy.round hk k2 hl 4 0 hL rfl rfl rfl rfl (fun ts h=>Nat.zero_le _)
 unfold X7
 cases hx:Zq l with
 | none =>
  rw [hx] at g
  obtain ⟨rfl,g2⟩:=g
  have hTe':=zy.eta g2
  conv at hr =>
   rhs
   rw [hTe']
   simp only [zy.code,zy.rs,zSs,reduceIte,zk,zn,zo,zq]
  rw [hTe] at hr
  exact zy.runs hr (.inr rfl) rfl rfl
 | some ts =>
  rw [hx] at g
  obtain ⟨rfl,g2,g3⟩:=g
  conv at hr =>
   rhs
   simp only [zSs,reduceIte,zk,zn,zo,zq]
  rw [hTe] at hr
  have hrun:=zy.runs (S:=S) hr (.inr rfl) (by rw [g2];exact wG) (by rw [g3];rfl)
  rw [g2,g3] at hrun
  dsimp only
  rw [ite_self]
  exact hrun
end Go.Proofs.Ytfjogganfjkckaa
namespace Go.Proofs.Ytfjogganfjkckaa
open Go.Abs
theorem Q8 {l:List TxV} (h:ZJ l=true):(aaU l).length≤100:=by
 obtain ⟨h1,h2⟩:=xY.mp h
 have h3:=YJ h1.2
 have h4:=Jp (l:=[(l.length:Int)]) (by simp;omega)
 rw [Zz,List.length_append]
 simp at h4
 omega
theorem Vr (l:List UInt8):∃ t e,ad5 l=.tuple #[tv t,.int .i64 e]∧((e=0∧af9 l=some t)∨(e=61∧af9 l=none∧t=⟨0,0⟩)):=by
 unfold ad5
 cases h:af9 l with
 | none=>exact ⟨⟨0,0⟩,61,rfl,.inr ⟨rfl,rfl,rfl⟩⟩
 | some t=>exact ⟨t,0,rfl,.inl ⟨rfl,rfl⟩⟩
theorem Xh {j:Nat} (hj:j≤2) (l:List UInt8):∃ k t e,Okl k t∧List.length t≤3∧X7 j l=.tuple #[tl k t,.int .i64 e]∧((e=0∧Zq l=some t)∨(e=61∧Zq l=none∧t=[])):=by
 unfold X7
 cases h:Zq l with
 | none=>exact ⟨0,[],61,Okl.none,by simp,rfl,.inr ⟨rfl,rfl,rfl⟩⟩
 | some t=>exact ⟨_,t,0,agp hj t,(xY.mp ((xW l t).mp h).1).2,rfl,.inl ⟨rfl,rfl⟩⟩
theorem akW (x:(Ty.slc 16 tTx).Val) (hg:(Ty.slc 16 tTx).Good x):∃ k l,Okl k l∧k≠2∧(Ty.slc 16 tTx).Y2 x=[tl k l]∧l.length * 16≤140737488351232∧∀ t ∈ l,t.Ok :=
 akJ (b:=16) fT TxV.Ok akY ac4 x hg
end Go.Proofs.Ytfjogganfjkckaa
namespace Go.Proofs.Ytfjogganfjkckaa
open Go.Abs
structure vk where
 slot:Int
 miner:Int
 variant:Int
 parent:Int
 k:Nat
 txs:List TxV
def fBk (b:vk):List Value:=[.int .i64 b.slot,.int .i64 b.miner,.int .i64 b.variant,.int .i64 b.parent,tl b.k b.txs]
abbrev bv (b:vk):Value:=.agg [Value.int .i64 b.slot,.int .i64 b.miner,.int .i64 b.variant,.int .i64 b.parent,tl b.k b.txs].toArray
structure vk.Ok (b:vk):Prop where
 okl:Okl b.k b.txs
 ne:b.k≠2
 len:b.txs.length * 16≤140737488351232
 par:b.parent < 9223372036854775808
abbrev tBk:Ty:=.pair (.int .i64) (.pair (.int .i64) (.pair (.int .i64) (.pair (.int .i64) (.pair (.slc 16 tTx) .unit))))
def headB (b:vk):Bool:=btw b.slot 1 4095 && btw b.miner 0 6 && btw b.variant 0 255 && (decide (b.parent=0) || (xI b.parent && decide (b.parent / 65536 < b.slot)))
def jZ (b:vk):Bool:=headB b && ZJ b.txs
def nameOf (b:vk):Int:=if jZ b=true then b.slot * 65536+b.miner * 256+b.variant else 0
theorem Ji {b:vk}:headB b=true ↔ (1≤b.slot∧b.slot≤4095)∧(0≤b.miner∧b.miner≤6)∧(0≤b.variant∧b.variant≤255)∧(b.parent=0∨(xI b.parent=true∧b.parent / 65536 < b.slot)):=by
 simp [headB,Xf,and_assoc]
theorem yP {b:vk} {d:Nat} (h:b.k≤2):jL (d+6) (bv b)=true:=by
 have h1:jL (d+5) (tl b.k b.txs)=true:=Jk (d:=d+1) h fun _ _=>rfl
 refine aaZ ?_
 simp only [List.all_cons,List.all_nil,h1,Bool.and_true]
 rfl
abbrev alj (b:vk):zx:=zx.empty.push (.cells (fBk b) (.own []) 0)
theorem J5 (b:vk):JK (bv b) zx.empty=some (.pointer (some ⟨0,0,none⟩),alj b):=rfl
theorem qp (b:vk):(alj b).get 0=some (.cells (fBk b) (.own []) 0):=rfl
theorem aas {S:zx} {q:Nat} {b:vk} (h:S.get q=some (.cells (fBk b) (.own []) 0)):jl zi false 3 (.pointer (some ⟨q,0+0,none⟩)) S=some (.int .i64 b.slot,S):=qK (t:=3) (o:=0+0) h ZW rfl
theorem V9 {S:zx} {q:Nat} {b:vk} (h:S.get q=some (.cells (fBk b) (.own []) 0)):jl zi false 3 (.pointer (some ⟨q,0+1,none⟩)) S=some (.int .i64 b.miner,S):=qK (t:=3) (o:=0+1) h ZW rfl
theorem aaz {S:zx} {q:Nat} {b:vk} (h:S.get q=some (.cells (fBk b) (.own []) 0)):jl zi false 3 (.pointer (some ⟨q,0+2,none⟩)) S=some (.int .i64 b.variant,S):=qK (t:=3) (o:=0+2) h ZW rfl
theorem abB {S:zx} {q:Nat} {b:vk} (h:S.get q=some (.cells (fBk b) (.own []) 0)):jl zi false 3 (.pointer (some ⟨q,0+3,none⟩)) S=some (.int .i64 b.parent,S):=qK (t:=3) (o:=0+3) h ZW rfl
theorem aa4 {S:zx} {q:Nat} {b:vk} (h:S.get q=some (.cells (fBk b) (.own []) 0)) (hk:b.k≠2):jl zi false 44 (.pointer (some ⟨q,0+4,none⟩)) S=some (tl b.k b.txs,S):=by
 rw [QZ (o:=0+4) (v:=tl b.k b.txs) h ad4 rfl (fun l h=>by unfold tl vs sv at h;split at h <;> cases h),Vz,if_neg hk]
theorem XB {S:zx} {q:Nat} {b:vk} (h:S.get q=some (.cells (fBk b) (.own []) 0)) (hk:b.k≠2):jl zi false 46 (.pointer (some ⟨q,0,none⟩)) S=some (bv b,S):=by
 rw [aby h,Zp,Zp,Zp,Zp,acX,if_neg hk]
theorem jD.v {b:vk} (hb:b.Ok) (S:zx):jd zi O jD.id [bv b] S=some (.bool (jZ b),S):=by
 obtain ⟨T,hTe⟩:∃ T,T=(bv b::zh::zh::zh::zh::zh::zh::zh::zh::zh::zh::zh::zh::zh::zh::zh::zh::zh::zh::zh::zh::zh::zh::zh::zh::zh::zh::zh::zh::zh::zh::zh::zh::zh::zh::zh::zh::zh::zh::zh::zh::zh::zh::zh::zh::zh::[]):=⟨_,rfl⟩
 have hr:zL zi O false jD.code T zx.empty=zL zi O false jD.code T zx.empty:=rfl
 have l0:=aas (qp b)
 have l1:=V9 (qp b)
 have l2:=aaz (qp b)
 have l3:=abB (qp b)
 have l4:=aa4 (qp b) hb.ne
 have c1:=fun S=>wB.v hb.okl hb.ne (by have:=hb.len;omega) S
 unfold ahJ at c1
 cases h1:btw b.slot 1 4095
 ·
  have e:jZ b=false:=by simp [jZ,headB,h1]
  rw [e]
  conv at hr =>
   rhs
   rw [hTe]
   simp only [jD.code,jD.rs,zSs,reduceIte,zk,zn,zo,zq,J5,jW,jR,jV,jX,jY,l0,l1,l2,l3,l4,if_neg hb.ne,wo.v,h1]
  rw [hTe] at hr
  exact jD.runs hr (.inr rfl) (all1 (yP hb.okl.le)) rfl
 ·
  cases h2:btw b.miner 0 6
  ·
   have e:jZ b=false:=by simp [jZ,headB,h1,h2]
   rw [e]
   conv at hr =>
    rhs
    rw [hTe]
    simp only [jD.code,jD.rs,zSs,reduceIte,zk,zn,zo,zq,J5,jW,jR,jV,jX,jY,l0,l1,l2,l3,l4,if_neg hb.ne,wo.v,h1,h2]
   rw [hTe] at hr
   exact jD.runs hr (.inr rfl) (all1 (yP hb.okl.le)) rfl
  ·
   cases h3:btw b.variant 0 255
   ·
    have e:jZ b=false:=by simp [jZ,headB,h1,h2,h3]
    rw [e]
    conv at hr =>
     rhs
     rw [hTe]
     simp only [jD.code,jD.rs,zSs,reduceIte,zk,zn,zo,zq,J5,jW,jR,jV,jX,jY,l0,l1,l2,l3,l4,if_neg hb.ne,wo.v,h1,h2,h3]
    rw [hTe] at hr
    exact jD.runs hr (.inr rfl) (all1 (yP hb.okl.le)) rfl
   ·
    by_cases h4:b.parent=0
    ·
     by_cases h7:ZJ b.txs=true
     ·
      rw [if_pos h7] at c1
      have e:jZ b=true:=by simp [jZ,headB,h1,h2,h3,h4,h7]
      rw [e]
      conv at hr =>
       rhs
       rw [hTe]
       simp only [jD.code,jD.rs,zSs,reduceIte,zk,zn,zo,zq,J5,jW,jR,jV,jX,jY,l0,l1,l2,l3,l4,if_neg hb.ne,wo.v,h1,h2,h3,decide_eq_true h4,c1]
      rw [hTe] at hr
      exact jD.runs hr (.inr rfl) (all1 (yP hb.okl.le)) rfl
     ·
      rw [if_neg h7] at c1
      have e:jZ b=false:=by simp [jZ,h7]
      rw [e]
      conv at hr =>
       rhs
       rw [hTe]
       simp only [jD.code,jD.rs,zSs,reduceIte,zk,zn,zo,zq,J5,jW,jR,jV,jX,jY,l0,l1,l2,l3,l4,if_neg hb.ne,wo.v,h1,h2,h3,decide_eq_true h4,c1]
      rw [hTe] at hr
      exact jD.runs hr (.inr rfl) (all1 (yP hb.okl.le)) rfl
    ·
     cases h5:xI b.parent
     ·
      have e:jZ b=false:=by simp [jZ,headB,h1,h2,h3,h4,h5]
      rw [e]
      conv at hr =>
       rhs
       rw [hTe]
       simp only [jD.code,jD.rs,zSs,reduceIte,zk,zn,zo,zq,J5,jW,jR,jV,jX,jY,l0,l1,l2,l3,l4,if_neg hb.ne,wo.v,h1,h2,h3,decide_eq_false h4,wU.v,h5]
      rw [hTe] at hr
      exact jD.runs hr (.inr rfl) (all1 (yP hb.okl.le)) rfl
     ·
      have hn:=vV.mp h5
      have q1:IntKind.i64.wrap (b.parent.tdiv 65536)=b.parent / 65536:=by rw [YR (by omega),wrap_i64 (by omega) (by omega)]
      by_cases h6:b.parent / 65536 < b.slot
      ·
       have h6':¬ b.slot≤b.parent / 65536:=by omega
       by_cases h7:ZJ b.txs=true
       ·
        rw [if_pos h7] at c1
        have e:jZ b=true:=by simp [jZ,headB,h1,h2,h3,h4,h5,h6,h7]
        rw [e]
        conv at hr =>
         rhs
         rw [hTe]
         simp only [jD.code,jD.rs,zSs,reduceIte,zk,zn,zo,zq,J5,jW,jR,jV,jX,jY,l0,l1,l2,l3,l4,if_neg hb.ne,wo.v,h1,h2,h3,decide_eq_false h4,wU.v,h5,vC _ _ _ QA,q1,decide_eq_false h6',c1]
        rw [hTe] at hr
        exact jD.runs hr (.inr rfl) (all1 (yP hb.okl.le)) rfl
       ·
        rw [if_neg h7] at c1
        have e:jZ b=false:=by simp [jZ,h7]
        rw [e]
        conv at hr =>
         rhs
         rw [hTe]
         simp only [jD.code,jD.rs,zSs,reduceIte,zk,zn,zo,zq,J5,jW,jR,jV,jX,jY,l0,l1,l2,l3,l4,if_neg hb.ne,wo.v,h1,h2,h3,decide_eq_false h4,wU.v,h5,vC _ _ _ QA,q1,decide_eq_false h6',c1]
        rw [hTe] at hr
        exact jD.runs hr (.inr rfl) (all1 (yP hb.okl.le)) rfl
      ·
       have h6':b.slot≤b.parent / 65536:=by omega
       have e:jZ b=false:=by simp [jZ,headB,h1,h2,h3,h4,h5,h6]
       rw [e]
       conv at hr =>
        rhs
        rw [hTe]
        simp only [jD.code,jD.rs,zSs,reduceIte,zk,zn,zo,zq,J5,jW,jR,jV,jX,jY,l0,l1,l2,l3,l4,if_neg hb.ne,wo.v,h1,h2,h3,decide_eq_false h4,wU.v,h5,vC _ _ _ QA,q1,decide_eq_true h6']
       rw [hTe] at hr
       exact jD.runs hr (.inr rfl) (all1 (yP hb.okl.le)) rfl
theorem zI.v {b:vk} (hb:b.Ok) (S:zx):jd zi O zI.id [bv b] S=some (.bool (jZ b),S):=by
 obtain ⟨T,hTe⟩:∃ T,T=(bv b::zh::zh::zh::zh::zh::zh::zh::zh::zh::zh::zh::zh::zh::zh::zh::zh::zh::zh::zh::zh::zh::zh::zh::zh::zh::zh::zh::zh::zh::zh::zh::zh::zh::zh::zh::zh::zh::zh::zh::zh::zh::zh::zh::zh::zh::zh::zh::zh::zh::zh::zh::zh::zh::zh::zh::zh::zh::zh::zh::zh::zh::zh::[]):=⟨_,rfl⟩
 have hr:zL zi O false zI.code T zx.empty=zL zi O false zI.code T zx.empty:=rfl
 have l0:=aas (qp b)
 have l1:=V9 (qp b)
 have l2:=aaz (qp b)
 have l3:=abB (qp b)
 have l4:=aa4 (qp b) hb.ne
 have c1:=fun S=>zB.v hb.okl hb.ne (by have:=hb.len;omega) S
 unfold ahJ at c1
 by_cases h1:b.slot < 1
 ·
  have e:jZ b=false:=by
   cases h:jZ b with
    | false=>rfl
    | true=>simp only [jZ,Bool.and_eq_true,Ji] at h;omega
  rw [e]
  conv at hr =>
   rhs
   rw [hTe]
   simp only [zI.code,zI.rs,zSs,reduceIte,zk,zn,zo,zq,J5,jW,jR,jV,jX,jY,l0,l1,l2,l3,l4,if_neg hb.ne,decide_eq_true h1]
  rw [hTe] at hr
  exact zI.runs hr (.inr rfl) (all1 (yP hb.okl.le)) rfl
 ·
  by_cases h2:4095 < b.slot
  ·
   have e:jZ b=false:=by
    cases h:jZ b with
     | false=>rfl
     | true=>simp only [jZ,Bool.and_eq_true,Ji] at h;omega
   rw [e]
   conv at hr =>
    rhs
    rw [hTe]
    simp only [zI.code,zI.rs,zSs,reduceIte,zk,zn,zo,zq,J5,jW,jR,jV,jX,jY,l0,l1,l2,l3,l4,if_neg hb.ne,decide_eq_false h1,decide_eq_true h2]
   rw [hTe] at hr
   exact zI.runs hr (.inr rfl) (all1 (yP hb.okl.le)) rfl
  ·
   by_cases h3:b.miner < 0
   ·
    have e:jZ b=false:=by
     cases h:jZ b with
      | false=>rfl
      | true=>simp only [jZ,Bool.and_eq_true,Ji] at h;omega
    rw [e]
    conv at hr =>
     rhs
     rw [hTe]
     simp only [zI.code,zI.rs,zSs,reduceIte,zk,zn,zo,zq,J5,jW,jR,jV,jX,jY,l0,l1,l2,l3,l4,if_neg hb.ne,decide_eq_false h1,decide_eq_false h2,decide_eq_true h3]
    rw [hTe] at hr
    exact zI.runs hr (.inr rfl) (all1 (yP hb.okl.le)) rfl
   ·
    by_cases h4:6 < b.miner
    ·
     have e:jZ b=false:=by
      cases h:jZ b with
       | false=>rfl
       | true=>simp only [jZ,Bool.and_eq_true,Ji] at h;omega
     rw [e]
     conv at hr =>
      rhs
      rw [hTe]
      simp only [zI.code,zI.rs,zSs,reduceIte,zk,zn,zo,zq,J5,jW,jR,jV,jX,jY,l0,l1,l2,l3,l4,if_neg hb.ne,decide_eq_false h1,decide_eq_false h2,decide_eq_false h3,decide_eq_true h4]
     rw [hTe] at hr
     exact zI.runs hr (.inr rfl) (all1 (yP hb.okl.le)) rfl
    ·
     by_cases h5:b.variant < 0
     ·
      have e:jZ b=false:=by
       cases h:jZ b with
        | false=>rfl
        | true=>simp only [jZ,Bool.and_eq_true,Ji] at h;omega
      rw [e]
      conv at hr =>
       rhs
       rw [hTe]
       simp only [zI.code,zI.rs,zSs,reduceIte,zk,zn,zo,zq,J5,jW,jR,jV,jX,jY,l0,l1,l2,l3,l4,if_neg hb.ne,decide_eq_false h1,decide_eq_false h2,decide_eq_false h3,decide_eq_false h4,decide_eq_true h5]
      rw [hTe] at hr
      exact zI.runs hr (.inr rfl) (all1 (yP hb.okl.le)) rfl
     ·
      by_cases h6:255 < b.variant
      ·
       have e:jZ b=false:=by
        cases h:jZ b with
         | false=>rfl
         | true=>simp only [jZ,Bool.and_eq_true,Ji] at h;omega
       rw [e]
       conv at hr =>
        rhs
        rw [hTe]
        simp only [zI.code,zI.rs,zSs,reduceIte,zk,zn,zo,zq,J5,jW,jR,jV,jX,jY,l0,l1,l2,l3,l4,if_neg hb.ne,decide_eq_false h1,decide_eq_false h2,decide_eq_false h3,decide_eq_false h4,decide_eq_false h5,decide_eq_true h6]
       rw [hTe] at hr
       exact zI.runs hr (.inr rfl) (all1 (yP hb.okl.le)) rfl
      ·
       by_cases h7:ZJ b.txs=true
       ·
        rw [if_pos h7] at c1
        have hh:headB b=(decide (b.parent=0) || (xI b.parent && decide (b.parent / 65536 < b.slot))):=by
         have a1:=Xf.mpr (show 1≤b.slot∧b.slot≤4095 by omega)
         have a2:=Xf.mpr (show 0≤b.miner∧b.miner≤6 by omega)
         have a3:=Xf.mpr (show 0≤b.variant∧b.variant≤255 by omega)
         simp [headB,a1,a2,a3]
        by_cases h8:b.parent=0
        ·
         have e:jZ b=true:=by simp [jZ,hh,h8,h7]
         rw [e]
         conv at hr =>
          rhs
          rw [hTe]
          simp only [zI.code,zI.rs,zSs,reduceIte,zk,zn,zo,zq,J5,jW,jR,jV,jX,jY,l0,l1,l2,l3,l4,if_neg hb.ne,decide_eq_false h1,decide_eq_false h2,decide_eq_false h3,decide_eq_false h4,decide_eq_false h5,decide_eq_false h6,c1,decide_eq_true h8]
         rw [hTe] at hr
         exact zI.runs hr (.inr rfl) (all1 (yP hb.okl.le)) rfl
        ·
         have c2:=fun S=>jo.v b.parent hb.par S
         unfold abq at c2
         by_cases h9:b.parent < 0
         ·
          rw [if_pos h9] at c2
          have hn:xI b.parent=false:=by
           cases h:xI b.parent with
           | false=>rfl
           | true=>have:=vV.mp h;omega
          have e:jZ b=false:=by simp [jZ,hh,h8,hn]
          rw [e]
          conv at hr =>
           rhs
           rw [hTe]
           simp only [zI.code,zI.rs,zSs,reduceIte,zk,zn,zo,zq,J5,jW,jR,jV,jX,jY,l0,l1,l2,l3,l4,if_neg hb.ne,decide_eq_false h1,decide_eq_false h2,decide_eq_false h3,decide_eq_false h4,decide_eq_false h5,decide_eq_false h6,c1,decide_eq_false h8,c2]
          rw [hTe] at hr
          exact zI.runs hr (.inr rfl) (all1 (yP hb.okl.le)) rfl
         ·
          rw [if_neg h9] at c2
          cases hn:xI b.parent
          ·
           rw [hn] at c2
           have e:jZ b=false:=by simp [jZ,hh,h8,hn]
           rw [e]
           conv at hr =>
            rhs
            rw [hTe]
            simp only [zI.code,zI.rs,zSs,reduceIte,zk,zn,zo,zq,J5,jW,jR,jV,jX,jY,l0,l1,l2,l3,l4,if_neg hb.ne,decide_eq_false h1,decide_eq_false h2,decide_eq_false h3,decide_eq_false h4,decide_eq_false h5,decide_eq_false h6,c1,decide_eq_false h8,c2]
           rw [hTe] at hr
           exact zI.runs hr (.inr rfl) (all1 (yP hb.okl.le)) rfl
          ·
           rw [hn] at c2
           have e:jZ b=decide (b.parent / 65536 < b.slot):=by simp [jZ,hh,h8,hn,h7]
           rw [e]
           conv at hr =>
            rhs
            rw [hTe]
            simp only [zI.code,zI.rs,zSs,reduceIte,zk,zn,zo,zq,J5,jW,jR,jV,jX,jY,l0,l1,l2,l3,l4,if_neg hb.ne,decide_eq_false h1,decide_eq_false h2,decide_eq_false h3,decide_eq_false h4,decide_eq_false h5,decide_eq_false h6,c1,decide_eq_false h8,c2]
           rw [hTe] at hr
           exact zI.runs hr (.inr rfl) (all1 (yP hb.okl.le)) rfl
       ·
        rw [if_neg h7] at c1
        have e:jZ b=false:=by simp [jZ,h7]
        rw [e]
        conv at hr =>
         rhs
         rw [hTe]
         simp only [zI.code,zI.rs,zSs,reduceIte,zk,zn,zo,zq,J5,jW,jR,jV,jX,jY,l0,l1,l2,l3,l4,if_neg hb.ne,decide_eq_false h1,decide_eq_false h2,decide_eq_false h3,decide_eq_false h4,decide_eq_false h5,decide_eq_false h6,c1]
        rw [hTe] at hr
        exact zI.runs hr (.inr rfl) (all1 (yP hb.okl.le)) rfl
theorem wZ.v {b:vk} (hb:b.Ok) (S:zx):jd zi O wZ.id [bv b] S=some (.int .i64 (nameOf b),S):=by
 obtain ⟨T,hTe⟩:∃ T,T=(bv b::zh::zh::zh::zh::zh::zh::zh::zh::zh::zh::zh::zh::zh::zh::zh::[]):=⟨_,rfl⟩
 have hr:zL zi O false wZ.code T zx.empty=zL zi O false wZ.code T zx.empty:=rfl
 have l0:=aas (qp b)
 have l1:=V9 (qp b)
 have l2:=aaz (qp b)
 have lb:=XB (qp b) hb.ne
 have c1:=fun S=>jD.v hb S
 unfold nameOf
 cases hR:jZ b
 ·
  rw [hR] at c1
  conv at hr =>
   rhs
   rw [hTe]
   simp only [wZ.code,wZ.rs,zSs,reduceIte,zk,zn,zo,zq,J5,lb,c1]
  rw [hTe] at hr
  exact wZ.runs hr (.inr rfl) (all1 (yP hb.okl.le)) rfl
 ·
  rw [hR] at c1
  have hh:=hR
  simp only [jZ,Bool.and_eq_true,Ji] at hh
  obtain ⟨⟨h1,h2,h3,_⟩,_⟩:=hh
  have w1:IntKind.i64.wrap (b.slot * 65536)=b.slot * 65536:=wrap_i64 (by omega) (by omega)
  have w2:IntKind.i64.wrap (b.miner * 256)=b.miner * 256:=wrap_i64 (by omega) (by omega)
  have w3:IntKind.i64.wrap (b.slot * 65536+b.miner * 256)=b.slot * 65536+b.miner * 256:=wrap_i64 (by omega) (by omega)
  have w4:IntKind.i64.wrap (b.slot * 65536+b.miner * 256+b.variant)=b.slot * 65536+b.miner * 256+b.variant:=wrap_i64 (by omega) (by omega)
  conv at hr =>
   rhs
   rw [hTe]
   simp only [wZ.code,wZ.rs,zSs,reduceIte,zk,zn,zo,zq,J5,lb,c1,jW,jR,jV,l0,l1,l2,w1,w2,w3,w4]
  rw [hTe] at hr
  exact wZ.runs hr (.inr rfl) (all1 (yP hb.okl.le)) rfl
end Go.Proofs.Ytfjogganfjkckaa
namespace Go.Proofs.Ytfjogganfjkckaa
open Go.Abs
def Jh (a b:vk):Bool:=decide (a.slot=b.slot) && (decide (a.miner=b.miner) && (decide (a.variant=b.variant) && (decide (a.parent=b.parent) && decide (a.txs=b.txs))))
abbrev akk (a b:vk):zx:=(alj a).push (.cells (fBk b) (.own []) 0)
theorem XG (a b:vk):JK (bv b) (alj a)=some (.pointer (some ⟨1,0,none⟩),akk a b):=by kernel_rfl
theorem Ju (a b:vk):(akk a b).get 0=some (.cells (fBk a) (.own []) 0):=by kernel_rfl
theorem JA (a b:vk):(akk a b).get 1=some (.cells (fBk b) (.own []) 0):=by kernel_rfl
theorem wV.v {a b:vk} (ha:a.Ok) (hb:b.Ok) (S:zx):jd zi O wV.id [bv a,bv b] S=some (.bool (Jh a b),S):=by
 obtain ⟨T,hTe⟩:∃ T,T=(bv a::bv b::zh::zh::zh::zh::zh::zh::zh::zh::zh::zh::zh::zh::zh::zh::zh::zh::zh::zh::zh::zh::zh::zh::zh::zh::zh::zh::zh::zh::zh::zh::zh::zh::zh::zh::zh::zh::[]):=⟨_,rfl⟩
 have hr:zL zi O false wV.code T zx.empty=zL zi O false wV.code T zx.empty:=rfl
 have l0:=aas (Ju a b)
 have m0:=aas (JA a b)
 have l1:=V9 (Ju a b)
 have m1:=V9 (JA a b)
 have l2:=aaz (Ju a b)
 have m2:=aaz (JA a b)
 have l3:=abB (Ju a b)
 have m3:=abB (JA a b)
 have l4:=aa4 (Ju a b) ha.ne
 have m4:=aa4 (JA a b) hb.ne
 have c1:=fun S=>slices_Equal.v ha.okl hb.okl ha.ne hb.ne (by have:=ha.len;omega) S
 have cc:[bv a,bv b].all (jL 16)=true:=all2 (yP ha.okl.le) (yP hb.okl.le)
 unfold Jh
 by_cases h1:a.slot=b.slot
 ·
  have e1:=decide_eq_true h1
  by_cases h2:a.miner=b.miner
  ·
   have e2:=decide_eq_true h2
   by_cases h3:a.variant=b.variant
   ·
    have e3:=decide_eq_true h3
    by_cases h4:a.parent=b.parent
    ·
     have e4:=decide_eq_true h4
     conv at hr =>
      rhs
      rw [hTe]
      simp only [wV.code,wV.rs,zSs,reduceIte,zk,zn,zo,zq,J5,XG,jW,jR,jV,jX,jY,l0,l1,l2,l3,l4,m0,m1,m2,m3,m4,if_neg ha.ne,if_neg hb.ne,e1,e2,e3,e4,c1]
     rw [hTe] at hr
     rw [e1,Bool.true_and,e2,Bool.true_and,e3,Bool.true_and,e4,Bool.true_and]
     exact wV.runs hr (.inr rfl) cc rfl
    ·
     have e4:=decide_eq_false h4
     conv at hr =>
      rhs
      rw [hTe]
      simp only [wV.code,wV.rs,zSs,reduceIte,zk,zn,zo,zq,J5,XG,jW,jR,jV,jX,jY,l0,l1,l2,l3,l4,m0,m1,m2,m3,m4,if_neg ha.ne,if_neg hb.ne,e1,e2,e3,e4]
     rw [hTe] at hr
     rw [e1,Bool.true_and,e2,Bool.true_and,e3,Bool.true_and,e4,Bool.false_and]
     exact wV.runs hr (.inr rfl) cc rfl
   ·
    have e3:=decide_eq_false h3
    conv at hr =>
     rhs
     rw [hTe]
     simp only [wV.code,wV.rs,zSs,reduceIte,zk,zn,zo,zq,J5,XG,jW,jR,jV,jX,jY,l0,l1,l2,l3,l4,m0,m1,m2,m3,m4,if_neg ha.ne,if_neg hb.ne,e1,e2,e3]
    rw [hTe] at hr
    rw [e1,Bool.true_and,e2,Bool.true_and,e3,Bool.false_and]
    exact wV.runs hr (.inr rfl) cc rfl
  ·
   have e2:=decide_eq_false h2
   conv at hr =>
    rhs
    rw [hTe]
    simp only [wV.code,wV.rs,zSs,reduceIte,zk,zn,zo,zq,J5,XG,jW,jR,jV,jX,jY,l0,l1,l2,l3,l4,m0,m1,m2,m3,m4,if_neg ha.ne,if_neg hb.ne,e1,e2]
   rw [hTe] at hr
   rw [e1,Bool.true_and,e2,Bool.false_and]
   exact wV.runs hr (.inr rfl) cc rfl
 ·
  have e1:=decide_eq_false h1
  conv at hr =>
   rhs
   rw [hTe]
   simp only [wV.code,wV.rs,zSs,reduceIte,zk,zn,zo,zq,J5,XG,jW,jR,jV,jX,jY,l0,l1,l2,l3,l4,m0,m1,m2,m3,m4,if_neg ha.ne,if_neg hb.ne,e1]
  rw [hTe] at hr
  rw [e1,Bool.false_and]
  exact wV.runs hr (.inr rfl) cc rfl
theorem jE.v {a b:vk} (ha:a.Ok) (hb:b.Ok) (S:zx):jd zi O jE.id [bv a,bv b] S=some (.bool (Jh a b),S):=by
 obtain ⟨T,hTe⟩:∃ T,T=(bv a::bv b::zh::zh::zh::zh::zh::zh::zh::zh::zh::zh::zh::zh::zh::zh::zh::zh::zh::zh::zh::zh::zh::zh::zh::zh::zh::zh::zh::zh::zh::zh::zh::zh::zh::zh::zh::zh::[]):=⟨_,rfl⟩
 have hr:zL zi O false jE.code T zx.empty=zL zi O false jE.code T zx.empty:=rfl
 have l0:=aas (Ju a b)
 have m0:=aas (JA a b)
 have l1:=V9 (Ju a b)
 have m1:=V9 (JA a b)
 have l2:=aaz (Ju a b)
 have m2:=aaz (JA a b)
 have l3:=abB (Ju a b)
 have m3:=abB (JA a b)
 have l4:=aa4 (Ju a b) ha.ne
 have m4:=aa4 (JA a b) hb.ne
 have c1:=fun S=>zK.v ha.okl hb.okl ha.ne hb.ne (by have:=ha.len;omega) S
 have cc:[bv a,bv b].all (jL 16)=true:=all2 (yP ha.okl.le) (yP hb.okl.le)
 unfold Jh
 by_cases h1:a.slot=b.slot
 ·
  have e1:=decide_eq_true h1
  by_cases h2:a.miner=b.miner
  ·
   have e2:=decide_eq_true h2
   by_cases h3:a.variant=b.variant
   ·
    have e3:=decide_eq_true h3
    by_cases h4:a.parent=b.parent
    ·
     have e4:=decide_eq_true h4
     conv at hr =>
      rhs
      rw [hTe]
      simp only [jE.code,jE.rs,zSs,reduceIte,zk,zn,zo,zq,J5,XG,jW,jR,jV,jX,jY,l0,l1,l2,l3,l4,m0,m1,m2,m3,m4,if_neg ha.ne,if_neg hb.ne,e1,e2,e3,e4,c1]
     rw [hTe] at hr
     rw [e1,Bool.true_and,e2,Bool.true_and,e3,Bool.true_and,e4,Bool.true_and]
     exact jE.runs hr (.inr rfl) cc rfl
    ·
     have e4:=decide_eq_false h4
     conv at hr =>
      rhs
      rw [hTe]
      simp only [jE.code,jE.rs,zSs,reduceIte,zk,zn,zo,zq,J5,XG,jW,jR,jV,jX,jY,l0,l1,l2,l3,l4,m0,m1,m2,m3,m4,if_neg ha.ne,if_neg hb.ne,e1,e2,e3,e4]
     rw [hTe] at hr
     rw [e1,Bool.true_and,e2,Bool.true_and,e3,Bool.true_and,e4,Bool.false_and]
     exact jE.runs hr (.inr rfl) cc rfl
   ·
    have e3:=decide_eq_false h3
    conv at hr =>
     rhs
     rw [hTe]
     simp only [jE.code,jE.rs,zSs,reduceIte,zk,zn,zo,zq,J5,XG,jW,jR,jV,jX,jY,l0,l1,l2,l3,l4,m0,m1,m2,m3,m4,if_neg ha.ne,if_neg hb.ne,e1,e2,e3]
    rw [hTe] at hr
    rw [e1,Bool.true_and,e2,Bool.true_and,e3,Bool.false_and]
    exact jE.runs hr (.inr rfl) cc rfl
  ·
   have e2:=decide_eq_false h2
   conv at hr =>
    rhs
    rw [hTe]
    simp only [jE.code,jE.rs,zSs,reduceIte,zk,zn,zo,zq,J5,XG,jW,jR,jV,jX,jY,l0,l1,l2,l3,l4,m0,m1,m2,m3,m4,if_neg ha.ne,if_neg hb.ne,e1,e2]
   rw [hTe] at hr
   rw [e1,Bool.true_and,e2,Bool.false_and]
   exact jE.runs hr (.inr rfl) cc rfl
 ·
  have e1:=decide_eq_false h1
  conv at hr =>
   rhs
   rw [hTe]
   simp only [jE.code,jE.rs,zSs,reduceIte,zk,zn,zo,zq,J5,XG,jW,jR,jV,jX,jY,l0,l1,l2,l3,l4,m0,m1,m2,m3,m4,if_neg ha.ne,if_neg hb.ne,e1]
  rw [hTe] at hr
  rw [e1,Bool.false_and]
  exact jE.runs hr (.inr rfl) cc rfl
def XA (b:vk):List UInt8:=encs [b.slot,b.miner,b.variant,b.parent]++aaU b.txs
def acA (b:vk):Value:=if jZ b then .tuple #[by_ 2 (XA b),.int .i64 0] else .tuple #[.slice none 0 0,.int .i64 71]
theorem WV {b:vk} (h:headB b=true):∀ n ∈ [b.slot,b.miner,b.variant,b.parent],0≤n∧n≤268435455:=by
 obtain ⟨h1,h2,h3,h4⟩:=Ji.mp h
 have h5:0≤b.parent∧b.parent≤268435455:=by
  rcases h4 with h4 | ⟨h4,_⟩
  ·
   omega
  ·
   have:=vV.mp h4;omega
 intro n hn
 simp only [List.mem_cons,List.not_mem_nil,or_false] at hn
 rcases hn with rfl | rfl | rfl | rfl <;> omega
theorem bs4 (a b c d:Int) (S:zx):jU zi 24 4 [(0,.int .i64 a),(1,.int .i64 b),(2,.int .i64 c),(3,.int .i64 d)] S=some (iz 2 [a,b,c,d],S):=by kernel_rfl
theorem Q7 {b:vk} (h:headB b=true):(encs [b.slot,b.miner,b.variant,b.parent]).length≤40:=by
 have h1:=WV h
 have:=Jp (l:=[b.slot,b.miner,b.variant,b.parent]) (fun n hn=>by have:=h1 n hn;omega)
 exact this
theorem wL.v {b:vk} (hb:b.Ok) (S:zx):jd zi O wL.id [bv b] S=some (acA b,S):=by
 obtain ⟨T,hTe⟩:∃ T,T=(bv b::zh::zh::zh::zh::zh::zh::zh::zh::zh::zh::zh::zh::zh::zh::zh::zh::zh::zh::zh::zh::zh::zh::zh::zh::zh::zh::zh::zh::zh::zh::zh::zh::[]):=⟨_,rfl⟩
 have hr:zL zi O false wL.code T zx.empty=zL zi O false wL.code T zx.empty:=rfl
 have l0:=aas (qp b)
 have l1:=V9 (qp b)
 have l2:=aaz (qp b)
 have l3:=abB (qp b)
 have l4:=aa4 (qp b) hb.ne
 have lb:=XB (qp b) hb.ne
 have c1:=fun S=>jD.v hb S
 unfold acA
 cases hR:jZ b
 ·
  rw [hR] at c1
  conv at hr =>
   rhs
   rw [hTe]
   simp only [wL.code,wL.rs,zSs,reduceIte,zk,zn,zo,zq,J5,lb,c1]
  rw [hTe] at hr
  exact wL.runs hr (.inr rfl) rfl rfl (all1 (yP hb.okl.le)) rfl
 ·
  rw [hR] at c1
  have hh:headB b=true∧ZJ b.txs=true:=by simpa [jZ] using hR
  have few:=WV hh.1
  have c2:=fun S=>jG.v (l:=[b.slot,b.miner,b.variant,b.parent]) Okl.read (by decide) (fun n hn=>by have:=few n hn;omega) S
  have n2:=JR (k:=0) (l:=[b.slot,b.miner,b.variant,b.parent]) (by simp) (fun n hn=>by have:=few n hn;omega) (by simp)
  have c3:=fun S=>wB.v hb.okl hb.ne (by have:=hb.len;omega) S
  have t3:ahJ b.txs=.tuple #[by_ 2 (aaU b.txs),.int .i64 0]:=if_pos hh.2
  have ap:∀ S,yB zi 33 33 (by_ 2 (encs [b.slot,b.miner,b.variant,b.parent])) (by_ 1 (aaU b.txs)) S=some (by_ 2 (XA b),S):=fun S=>by
   rw [xu Okl.own (by decide) Okl.read (by have:=Q7 hh.1;have:=Q8 hh.2;omega)];rfl
  conv at hr =>
   rhs
   rw [hTe]
   simp only [wL.code,wL.rs,zSs,reduceIte,zk,zn,zo,zq,J5,lb,c1,jW,jR,jV,jX,jY,l0,l1,l2,l3,l4,if_neg hb.ne,bs4,c2,n2,c3,t3,ap]
  rw [hTe] at hr
  exact wL.runs hr (.inr rfl) (by simp only [List.getD_cons_succ,List.getD_cons_zero,wG,wz,jQ,jT,wu]) rfl (all1 (yP hb.okl.le)) (yV (all2 (qH (k:=2) (Nat.le_refl 2)) rfl))
theorem jy.v {b:vk} (hb:b.Ok) (S:zx):jd zi O jy.id [bv b] S=some (acA b,S):=by
 obtain ⟨T,hTe⟩:∃ T,T=(bv b::zh::zh::zh::zh::zh::zh::zh::zh::zh::zh::zh::zh::zh::zh::zh::zh::zh::zh::zh::zh::zh::zh::zh::zh::zh::zh::zh::zh::zh::zh::zh::zh::[]):=⟨_,rfl⟩
 have hr:zL zi O false jy.code T zx.empty=zL zi O false jy.code T zx.empty:=rfl
 have l0:=aas (qp b)
 have l1:=V9 (qp b)
 have l2:=aaz (qp b)
 have l3:=abB (qp b)
 have l4:=aa4 (qp b) hb.ne
 have lb:=XB (qp b) hb.ne
 have c1:=fun S=>zI.v hb S
 unfold acA
 cases hR:jZ b
 ·
  rw [hR] at c1
  conv at hr =>
   rhs
   rw [hTe]
   simp only [jy.code,jy.rs,zSs,reduceIte,zk,zn,zo,zq,J5,lb,c1]
  rw [hTe] at hr
  exact jy.runs hr (.inr rfl) rfl rfl (all1 (yP hb.okl.le)) rfl
 ·
  rw [hR] at c1
  have hh:headB b=true∧ZJ b.txs=true:=by simpa [jZ] using hR
  have few:=WV hh.1
  have c2:=fun S=>zJ.v (l:=[b.slot,b.miner,b.variant,b.parent]) Okl.read (by decide) (fun n hn=>by have:=few n hn;omega) S
  have n2:=JR (k:=2) (l:=[b.slot,b.miner,b.variant,b.parent]) (by simp) (fun n hn=>by have:=few n hn;omega) (by simp)
  have c3:=fun S=>zB.v hb.okl hb.ne (by have:=hb.len;omega) S
  have t3:ahJ b.txs=.tuple #[by_ 2 (aaU b.txs),.int .i64 0]:=if_pos hh.2
  have ap:∀ S,yB zi 33 33 (by_ 2 (encs [b.slot,b.miner,b.variant,b.parent])) (by_ 1 (aaU b.txs)) S=some (by_ 2 (XA b),S):=fun S=>by
   rw [xu Okl.own (by decide) Okl.read (by have:=Q7 hh.1;have:=Q8 hh.2;omega)];rfl
  conv at hr =>
   rhs
   rw [hTe]
   simp only [jy.code,jy.rs,zSs,reduceIte,zk,zn,zo,zq,J5,lb,c1,jW,jR,jV,jX,jY,l0,l1,l2,l3,l4,if_neg hb.ne,bs4,c2,n2,c3,t3,ap]
  rw [hTe] at hr
  exact jy.runs hr (.inr rfl) (by simp only [List.getD_cons_succ,List.getD_cons_zero,wG,wz,jQ,jT,wu]) rfl (all1 (yP hb.okl.le)) (yV (all2 (qH (k:=2) (Nat.le_refl 2)) rfl))
end Go.Proofs.Ytfjogganfjkckaa
namespace Go.Proofs.Ytfjogganfjkckaa
open Go.Abs
theorem Wl {α:Type} {f:α→List Value} {e k:Nat} {l:List α} {d:Nat}:okq d (vs f e k l)=true:=by unfold vs sv;cases d <;> split <;> rfl
theorem X6 {R:Type} {a b c d:Int} {k:Nat} {l:List TxV} (r:Option R) (p:Zf r):okK (.agg [Value.int .i64 a,.int .i64 b,.int .i64 c,.int .i64 d,tl k l].toArray) r p=r:=kV (by
 show ([Value.int .i64 a,.int .i64 b,.int .i64 c,.int .i64 d,tl k l].toArray.toList.all (okq 2))=true
 simp only [List.toList_toArray,List.all_cons,List.all_nil,Wl,Bool.and_true]
 rfl) r p
theorem aep (b:vk):∃ k x e,Okl k x∧List.length x≤140∧acA b=.tuple #[by_ k x,.int .i64 e]∧((e=0∧jZ b=true∧x=XA b∧k=2)∨(e=71∧jZ b=false∧x=[]∧k=0)):=by
 unfold acA
 by_cases h:jZ b=true
 ·
  have hh:headB b=true∧ZJ b.txs=true:=by simpa [jZ] using h
  exact ⟨2,XA b,0,Okl.own,by unfold XA;rw [List.length_append];have:=Q7 hh.1;have:=Q8 hh.2;omega,by rw [if_pos h],.inl ⟨rfl,h,rfl,rfl⟩⟩
 ·
  exact ⟨0,[],71,Okl.none,by simp,by rw [if_neg h];rfl,.inr ⟨rfl,by simpa using h,rfl,rfl⟩⟩
theorem als (x:tBk.Val) (hg:tBk.Good x):∃ b:vk,tBk.Y2 x=fBk b∧b.Ok:=by
 obtain ⟨s,m,v,p,ts,u⟩:=x
 obtain ⟨h1,h2,h3,h4,h5,_⟩:=hg
 obtain ⟨k,l,p1,p2,p3,p4,p5⟩:=akW ts h5
 refine ⟨⟨s,m,v,p,k,l⟩,?_,⟨p1,p2,p4,(YD h4).2⟩⟩
 show [Value.int .i64 s]++([Value.int .i64 m]++([Value.int .i64 v]++([Value.int .i64 p]++((Ty.slc 16 tTx).Y2 ts++[]))))=_
 rw [p3];rfl
end Go.Proofs.Ytfjogganfjkckaa
namespace Go.Proofs.Ytfjogganfjkckaa
open Go.Abs
abbrev bk0:vk:=⟨0,0,0,0,0,[]⟩
theorem XK (S:zx):yR zi 46 S=some (.pointer (some ⟨S.next,0,none⟩),S.push (.cells (fBk bk0) (.own []) 0)):=by kernel_rfl
theorem afk (b:vk):(fBk b).all (·.oneCell')=true:=by
 simp only [fBk,List.all_cons,List.all_nil,afA,aiY,Bool.and_true]
theorem ala (S:zx) (b:vk):∃ S2,wS zi 46 (.pointer (some ⟨S.next,0,none⟩)) (bv b) (S.push (.cells (fBk bk0) (.own []) 0))=some (zh,S2)∧S2.get S.next=some (.cells (fBk b) (.own []) 0)∧Ext S S2∧S.next < S2.next :=
 KG S (by rw [qG,List.toList_toArray];rfl) Jd rfl (afk b)
theorem XH {S S0:zx} {q:Nat} {u:vk} (b:vk) (hg:S.get q=some (.cells (fBk u) (.own []) 0)) (hE:Ext S0 S) (hq:S0.next≤q):∃ S2,wS zi 46 (.pointer (some ⟨q,0,none⟩)) (bv b) S=some (zh,S2)∧S2.get q=some (.cells (fBk b) (.own []) 0)∧Ext S0 S2∧S2.next=S.next∧∀ k,k≠q→S2.get k=S.get k :=
 Xx hg Jd rfl (afk b) (by simp [fBk]) hE hq
theorem adp {x y:vk} {r s:List UInt8} (hx:jZ x=true) (hy:jZ y=true) (h:XA x++r=XA y++s):(x.slot=y.slot∧x.miner=y.miner∧x.variant=y.variant∧x.parent=y.parent∧x.txs=y.txs)∧r=s:=by
 have h1:headB x=true∧ZJ x.txs=true:=by simpa [jZ] using hx
 have h2:headB y=true∧ZJ y.txs=true:=by simpa [jZ] using hy
 have f1:=WV h1.1
 have f2:=WV h2.1
 unfold XA at h
 rw [List.append_assoc,List.append_assoc] at h
 obtain ⟨e1,e2⟩:=WW (a:=[x.slot,x.miner,x.variant,x.parent]) (c:=[y.slot,y.miner,y.variant,y.parent]) rfl (fun n hn=>by have:=f1 n hn;unfold Few;omega) (fun n hn=>by have:=f2 n hn;unfold Few;omega) h
 obtain ⟨e3,e4⟩:=adJ h1.2 h2.2 e2
 simp only [List.cons.injEq,and_true] at e1
 exact ⟨⟨e1.1,e1.2.1,e1.2.2.1,e1.2.2.2,e3⟩,e4⟩
noncomputable def ahf (l:List UInt8):Option vk:=rd (fun b=>jZ b=true∧b.k=0) XA l
theorem alu {x y:vk} (h:x.slot=y.slot∧x.miner=y.miner∧x.variant=y.variant∧x.parent=y.parent∧x.txs=y.txs) (hk:x.k=y.k):x=y:=by
 cases x;cases y
 simp at h hk
 obtain ⟨rfl,rfl,rfl,rfl,rfl⟩:=h
 rw [hk]
theorem WO (l:List UInt8) (b:vk):ahf l=some b ↔ (jZ b=true∧b.k=0)∧l=XA b :=
 afd (fun x y hx hy h=>alu (adp (r:=[]) (s:=[]) hx.1 hy.1 (by rw [List.append_nil,List.append_nil];exact h)).1 (hx.2.trans hy.2.symm)) l b
theorem KZ {l:List UInt8} (h:∀ b:vk,b.k=0→jZ b=true→l≠XA b):ahf l=none:=by
 cases hr:ahf l with
 | none=>rfl
 | some b=>obtain ⟨⟨h1,h2⟩,h3⟩:=(WO l b).mp hr;exact absurd h3 (h b h2 h1)
theorem af0 (l:List UInt8):qm 4 l=none∨∃ a b c d r,qm 4 l=some ([a,b,c,d],r)∧r.length≤l.length:=by
 cases h:qm 4 l with
 | none=>exact .inl rfl
 | some ar =>
  obtain ⟨a,r⟩:=ar
  obtain ⟨h1,h2⟩:=WM h
  match a,h1 with
  | [x,y,z,w],_=>exact .inr ⟨x,y,z,w,r,rfl,h2⟩
theorem ace {l r:List UInt8} {b:vk} (hb:jZ b=true) (h:l=XA b++r):qm 4 l=some ([b.slot,b.miner,b.variant,b.parent],aaU b.txs++r):=by
 have h1:headB b=true∧ZJ b.txs=true:=by simpa [jZ] using hb
 have f1:=WV h1.1
 exact (yY _ _ _ _).mpr ⟨rfl,by rw [h,XA,List.append_assoc],fun n hn=>by have:=f1 n hn;unfold Few;omega⟩
theorem XU {l:List UInt8} (h:qm 4 l=none):ahf l=none:=KZ fun b _ hb hl=>by
 have:=ace (l:=l) (r:=[]) hb (by rw [List.append_nil];exact hl)
 rw [h] at this;cases this
theorem Vb {l r:List UInt8} {a b c d:Int} (h:qm 4 l=some ([a,b,c,d],r)) (h2:Zq r=none):ahf l=none:=KZ fun x _ hb hl=>by
 have:=ace (l:=l) (r:=[]) hb (by rw [List.append_nil];exact hl)
 rw [h] at this
 simp only [Option.some.injEq,Prod.mk.injEq,List.append_nil] at this
 have h1:headB x=true∧ZJ x.txs=true:=by simpa [jZ] using hb
 rw [(xW r x.txs).mpr ⟨h1.2,this.2⟩] at h2
 cases h2
theorem aaJ {l r:List UInt8} {a b c d:Int} {ts:List TxV} (h:qm 4 l=some ([a,b,c,d],r)) (h2:Zq r=some ts):ahf l=if jZ ⟨a,b,c,d,0,ts⟩=true then some ⟨a,b,c,d,0,ts⟩ else none:=by
 obtain ⟨_,g2,_⟩:=(yY _ _ _ _).mp h
 obtain ⟨t1,t2⟩:=(xW r ts).mp h2
 split
 ·
  rename_i hR
  exact (WO _ _).mpr ⟨⟨hR,rfl⟩,by rw [g2,t2];rfl⟩
 ·
  rename_i hR
  refine KZ fun x _ hb hl=>hR ?_
  have:=ace (l:=l) (r:=[]) hb (by rw [List.append_nil];exact hl)
  rw [h] at this
  simp only [Option.some.injEq,Prod.mk.injEq,List.append_nil,List.cons.injEq,and_true] at this
  have h1:headB x=true∧ZJ x.txs=true:=by simpa [jZ] using hb
  have h3:=(xW r x.txs).mpr ⟨h1.2,this.2⟩
  rw [h2] at h3
  injection h3 with h3
  obtain ⟨⟨i1,i2,i3,i4⟩,_⟩:=this
  rw [i1,i2,i3,i4,h3]
  exact hb
theorem aax (a b c d:Int) (k j:Nat) (t:List TxV):jZ ⟨a,b,c,d,k,t⟩=jZ ⟨a,b,c,d,j,t⟩:=rfl
def ae0 (l:List UInt8) (b:vk) (e:Int):Prop:=b.Ok∧b.txs.length≤3∧((e=0∧ahf l=some ⟨b.slot,b.miner,b.variant,b.parent,0,b.txs⟩∧jZ b=true)∨(e=71∧ahf l=none∧b=bk0))
theorem ok0:bk0.Ok:=⟨Okl.none,by decide,by simp,by decide⟩
theorem jO.v {k:Nat} {l:List UInt8} (hk:Okl k l) (k2:k≠2) (hl:l.length≤140737488355328):∃ b e,ae0 l b e∧∀ S,jd zi O jO.id [by_ k l] S=some (.tuple #[bv b,.int .i64 e],S):=by
 have a1:=XK zx.empty
 have g1:(zx.empty.push (.cells (fBk bk0) (.own []) 0)).get 0=some (.cells (fBk bk0) (.own []) 0):=by kernel_rfl
 have n1:(zx.empty.push (.cells (fBk bk0) (.own []) 0)).next=1:=by kernel_rfl
 rw [show zx.empty.next=0 from rfl] at a1
 have hE1:Ext zx.empty (zx.empty.push (.cells (fBk bk0) (.own []) 0)):=Ext.push _ _
 have cl:[by_ k l].all (jL 16)=true:=all1 (qH (k:=k) hk.le)
 obtain ⟨T,hTe⟩:∃ T,T=(by_ k l::zh::zh::zh::zh::zh::zh::zh::zh::zh::zh::zh::zh::zh::zh::zh::zh::zh::zh::zh::zh::zh::zh::zh::zh::zh::zh::zh::zh::zh::zh::zh::zh::zh::zh::zh::zh::zh::zh::zh::zh::zh::zh::zh::zh::zh::[]):=⟨_,rfl⟩
 have hr:zL zi O false jO.code T zx.empty=zL zi O false jO.code T zx.empty:=rfl
 have c1:=fun S=>zT.v (many:=4) hk k2 hl S
 have r1:∀ k0 k1,Zm k0 k1 4 l=_:=fun k0 k1=>xU (m:=4) (by decide) (by decide)
 rw [r1] at c1
 have z0:∀ S,yw zi 46 [] S=some (bv bk0,S):=fun S=>WH S
 generalize zx.empty.push (.cells (fBk bk0) (.own []) 0)=S1 at a1 g1 n1 hE1
 rcases af0 l with h | ⟨a,b,c,d,r,h,hlr⟩
 ·
  rw [h] at c1
  obtain ⟨S3,q1,q2,q3,q4,q5⟩:=XH bk0 g1 hE1 (Nat.zero_le _)
  refine ⟨bk0,71,⟨ok0,by simp,.inr ⟨rfl,XU h,rfl⟩⟩,fun S=>?_⟩
  conv at hr =>
   rhs
   rw [hTe]
   simp only [jO.code,jO.rs,zSs,reduceIte,zk,zn,zo,zq,if_neg k2,a1,c1,z0,q1]
  rw [hTe] at hr
  exact jO.runs hr (.inr rfl) (XB q2 (by decide)) rfl rfl cl rfl
 ·
  rw [h] at c1
  have i0:=fun S=>vJ (k:=1) (i:=0) (m:=0) (l:=[a,b,c,d]) Okl.read rfl rfl S
  have i1:=fun S=>vJ (k:=1) (i:=1) (m:=1) (l:=[a,b,c,d]) Okl.read rfl rfl S
  have i2:=fun S=>vJ (k:=1) (i:=2) (m:=2) (l:=[a,b,c,d]) Okl.read rfl rfl S
  have i3:=fun S=>vJ (k:=1) (i:=3) (m:=3) (l:=[a,b,c,d]) Okl.read rfl rfl S
  have few:=((yY _ _ _ _).mp h).2.2
  have fd:d≤4611686018427387904:=(few d (by simp)).2
  obtain ⟨j,t,e,o1,o2,o3,o4⟩:=Xh (j:=0) (by decide) r
  have c2:=fun S=>zW.v (k:=1) (l:=r) Okl.read (by decide) (by omega) S
  rw [o3] at c2
  have hok:vk.Ok ⟨a,b,c,d,if j=2 then 1 else j,t⟩:=⟨o1.dem,WJ j,by show t.length * 16≤_;omega,by show d < _;omega⟩
  obtain ⟨S2,p1,p2,p3,p4⟩:=ala S1 ⟨a,b,c,d,if j=2 then 1 else j,t⟩
  have g2:S2.get 0=some (.cells (fBk bk0) (.own []) 0):=by rw [p3.get 0 (by omega),g1]
  have bd:=fun S=>Zt (y0:=.int .i64 a) (y1:=.int .i64 b) (y2:=.int .i64 c) (y3:=.int .i64 d) (y4:=tl (if j=2 then 1 else j) t) yS yS yS yS YO S
  have c3:∀ S,jd zi O 45 [.agg [Value.int .i64 a,.int .i64 b,.int .i64 c,.int .i64 d,tl (if j=2 then 1 else j) t].toArray] S=some (.bool (jZ ⟨a,b,c,d,if j=2 then 1 else j,t⟩),S):=fun S=>jD.v hok S
  have lb:jl zi false 46 (.pointer (some ⟨S1.next,0,none⟩)) S2=some (.agg [Value.int .i64 a,.int .i64 b,.int .i64 c,.int .i64 d,tl (if j=2 then 1 else j) t].toArray,S2):=XB p2 (WJ j)
  rcases o4 with ⟨rfl,hx⟩ | ⟨rfl,hx,rfl⟩
  ·
   cases hR:jZ ⟨a,b,c,d,if j=2 then 1 else j,t⟩
   ·
    rw [hR] at c3
    obtain ⟨S3,q1,q2,q3,q4,q5⟩:=XH bk0 g2 (Ext.trans hE1 p3) (Nat.zero_le _)
    refine ⟨bk0,71,⟨ok0,by simp,.inr ⟨rfl,?_,rfl⟩⟩,fun S=>?_⟩
    ·
     rw [aaJ h hx,if_neg (by rw [aax a b c d 0 (if j=2 then 1 else j) t,hR];decide)]
    conv at hr =>
     rhs
     rw [hTe]
     simp only [jO.code,jO.rs,zSs,reduceIte,zk,zn,zo,zq,if_neg k2,a1,c1,c2,i0,i1,i2,i3,qA,Vg,bd,X6,XK,p1,lb,c3,z0,q1]
    rw [hTe] at hr
    exact jO.runs hr (.inr rfl) (XB q2 (by decide)) rfl rfl cl rfl
   ·
    rw [hR] at c3
    obtain ⟨S3,q1,q2,q3,q4,q5⟩:=XH ⟨a,b,c,d,if j=2 then 1 else j,t⟩ g2 (Ext.trans hE1 p3) (Nat.zero_le _)
    refine ⟨⟨a,b,c,d,if j=2 then 1 else j,t⟩,0,⟨hok,o2,.inl ⟨rfl,?_,hR⟩⟩,fun S=>?_⟩
    ·
     rw [aaJ h hx,if_pos (by rw [aax a b c d 0 (if j=2 then 1 else j) t,hR])]
    conv at hr =>
     rhs
     rw [hTe]
     simp only [jO.code,jO.rs,zSs,reduceIte,zk,zn,zo,zq,if_neg k2,a1,c1,c2,i0,i1,i2,i3,qA,Vg,bd,X6,XK,p1,lb,c3,q1]
    rw [hTe] at hr
    exact jO.runs hr (.inr rfl) (XB q2 (WJ j)) rfl rfl cl (yV (all2 (yP (b:=⟨a,b,c,d,if j=2 then 1 else j,t⟩) hok.okl.le) rfl))
  ·
   obtain ⟨S3,q1,q2,q3,q4,q5⟩:=XH bk0 g2 (Ext.trans hE1 p3) (Nat.zero_le _)
   refine ⟨bk0,71,⟨ok0,by simp,.inr ⟨rfl,Vb h hx,rfl⟩⟩,fun S=>?_⟩
   conv at hr =>
    rhs
    rw [hTe]
    simp only [jO.code,jO.rs,zSs,reduceIte,zk,zn,zo,zq,if_neg k2,a1,c1,c2,i0,i1,i2,i3,qA,Vg,bd,X6,XK,p1,z0,q1]
   rw [hTe] at hr
   exact jO.runs hr (.inr rfl) (XB q2 (by decide)) rfl rfl cl rfl
theorem zU.v {k:Nat} {l:List UInt8} (hk:Okl k l) (k2:k≠2) (hl:l.length≤140737488355328):∃ b e,ae0 l b e∧∀ S,jd zi O zU.id [by_ k l] S=some (.tuple #[bv b,.int .i64 e],S):=by
 have a1:=XK zx.empty
 have g1:(zx.empty.push (.cells (fBk bk0) (.own []) 0)).get 0=some (.cells (fBk bk0) (.own []) 0):=by kernel_rfl
 have n1:(zx.empty.push (.cells (fBk bk0) (.own []) 0)).next=1:=by kernel_rfl
 rw [show zx.empty.next=0 from rfl] at a1
 have hE1:Ext zx.empty (zx.empty.push (.cells (fBk bk0) (.own []) 0)):=Ext.push _ _
 have cl:[by_ k l].all (jL 16)=true:=all1 (qH (k:=k) hk.le)
 obtain ⟨T,hTe⟩:∃ T,T=(by_ k l::zh::zh::zh::zh::zh::zh::zh::zh::zh::zh::zh::zh::zh::zh::zh::zh::zh::zh::zh::zh::zh::zh::zh::zh::zh::zh::zh::zh::zh::zh::zh::zh::zh::zh::zh::zh::zh::zh::zh::zh::zh::zh::zh::zh::zh::zh::[]):=⟨_,rfl⟩
 have hr:zL zi O false zU.code T zx.empty=zL zi O false zU.code T zx.empty:=rfl
 have c1:=fun S=>zC.v (many:=4) hk k2 hl S
 have r1:∀ k0 k1,Zm k0 k1 4 l=_:=fun k0 k1=>xU (m:=4) (by decide) (by decide)
 rw [r1] at c1
 have z0:∀ S,yw zi 46 [] S=some (bv bk0,S):=fun S=>WH S
 generalize zx.empty.push (.cells (fBk bk0) (.own []) 0)=S1 at a1 g1 n1 hE1
 rcases af0 l with h | ⟨a,b,c,d,r,h,hlr⟩
 ·
  rw [h] at c1
  obtain ⟨S3,q1,q2,q3,q4,q5⟩:=XH bk0 g1 hE1 (Nat.zero_le _)
  refine ⟨bk0,71,⟨ok0,by simp,.inr ⟨rfl,XU h,rfl⟩⟩,fun S=>?_⟩
  conv at hr =>
   rhs
   rw [hTe]
   simp only [zU.code,zU.rs,zSs,reduceIte,zk,zn,zo,zq,if_neg k2,a1,c1,z0,q1]
  rw [hTe] at hr
  exact zU.runs hr (.inr rfl) (XB q2 (by decide)) rfl rfl cl rfl
 ·
  rw [h] at c1
  have i0:=fun S=>vJ (k:=1) (i:=0) (m:=0) (l:=[a,b,c,d]) Okl.read rfl rfl S
  have i1:=fun S=>vJ (k:=1) (i:=1) (m:=1) (l:=[a,b,c,d]) Okl.read rfl rfl S
  have i2:=fun S=>vJ (k:=1) (i:=2) (m:=2) (l:=[a,b,c,d]) Okl.read rfl rfl S
  have i3:=fun S=>vJ (k:=1) (i:=3) (m:=3) (l:=[a,b,c,d]) Okl.read rfl rfl S
  have few:=((yY _ _ _ _).mp h).2.2
  have fd:d≤4611686018427387904:=(few d (by simp)).2
  obtain ⟨j,t,e,o1,o2,o3,o4⟩:=Xh (j:=2) (by decide) r
  have c2:=fun S=>zy.v (k:=1) (l:=r) Okl.read (by decide) (by omega) S
  rw [o3] at c2
  have hok:vk.Ok ⟨a,b,c,d,if j=2 then 1 else j,t⟩:=⟨o1.dem,WJ j,by show t.length * 16≤_;omega,by show d < _;omega⟩
  obtain ⟨S2,p1,p2,p3,p4⟩:=ala S1 ⟨a,b,c,d,if j=2 then 1 else j,t⟩
  have g2:S2.get 0=some (.cells (fBk bk0) (.own []) 0):=by rw [p3.get 0 (by omega),g1]
  have bd:=fun S=>Zt (y0:=.int .i64 a) (y1:=.int .i64 b) (y2:=.int .i64 c) (y3:=.int .i64 d) (y4:=tl (if j=2 then 1 else j) t) yS yS yS yS YO S
  have c3:∀ S,jd zi O 32 [.agg [Value.int .i64 a,.int .i64 b,.int .i64 c,.int .i64 d,tl (if j=2 then 1 else j) t].toArray] S=some (.bool (jZ ⟨a,b,c,d,if j=2 then 1 else j,t⟩),S):=fun S=>zI.v hok S
  have lb:jl zi false 46 (.pointer (some ⟨S1.next,0,none⟩)) S2=some (.agg [Value.int .i64 a,.int .i64 b,.int .i64 c,.int .i64 d,tl (if j=2 then 1 else j) t].toArray,S2):=XB p2 (WJ j)
  rcases o4 with ⟨rfl,hx⟩ | ⟨rfl,hx,rfl⟩
  ·
   cases hR:jZ ⟨a,b,c,d,if j=2 then 1 else j,t⟩
   ·
    rw [hR] at c3
    obtain ⟨S3,q1,q2,q3,q4,q5⟩:=XH bk0 g2 (Ext.trans hE1 p3) (Nat.zero_le _)
    refine ⟨bk0,71,⟨ok0,by simp,.inr ⟨rfl,?_,rfl⟩⟩,fun S=>?_⟩
    ·
     rw [aaJ h hx,if_neg (by rw [aax a b c d 0 (if j=2 then 1 else j) t,hR];decide)]
    conv at hr =>
     rhs
     rw [hTe]
     simp only [zU.code,zU.rs,zSs,reduceIte,zk,zn,zo,zq,if_neg k2,a1,c1,c2,i0,i1,i2,i3,qA,Vg,bd,X6,XK,p1,lb,c3,z0,q1]
    rw [hTe] at hr
    exact zU.runs hr (.inr rfl) (XB q2 (by decide)) rfl rfl cl rfl
   ·
    rw [hR] at c3
    obtain ⟨S3,q1,q2,q3,q4,q5⟩:=XH ⟨a,b,c,d,if j=2 then 1 else j,t⟩ g2 (Ext.trans hE1 p3) (Nat.zero_le _)
    refine ⟨⟨a,b,c,d,if j=2 then 1 else j,t⟩,0,⟨hok,o2,.inl ⟨rfl,?_,hR⟩⟩,fun S=>?_⟩
    ·
     rw [aaJ h hx,if_pos (by rw [aax a b c d 0 (if j=2 then 1 else j) t,hR])]
    conv at hr =>
     rhs
     rw [hTe]
     simp only [zU.code,zU.rs,zSs,reduceIte,zk,zn,zo,zq,if_neg k2,a1,c1,c2,i0,i1,i2,i3,qA,Vg,bd,X6,XK,p1,lb,c3,q1]
    rw [hTe] at hr
    exact zU.runs hr (.inr rfl) (XB q2 (WJ j)) rfl rfl cl (yV (all2 (yP (b:=⟨a,b,c,d,if j=2 then 1 else j,t⟩) hok.okl.le) rfl))
  ·
   obtain ⟨S3,q1,q2,q3,q4,q5⟩:=XH bk0 g2 (Ext.trans hE1 p3) (Nat.zero_le _)
   refine ⟨bk0,71,⟨ok0,by simp,.inr ⟨rfl,Vb h hx,rfl⟩⟩,fun S=>?_⟩
   conv at hr =>
    rhs
    rw [hTe]
    simp only [zU.code,zU.rs,zSs,reduceIte,zk,zn,zo,zq,if_neg k2,a1,c1,c2,i0,i1,i2,i3,qA,Vg,bd,X6,XK,p1,z0,q1]
   rw [hTe] at hr
   exact zU.runs hr (.inr rfl) (XB q2 (by decide)) rfl rfl cl rfl
end Go.Proofs.Ytfjogganfjkckaa
namespace Go.Proofs.Ytfjogganfjkckaa
open Go.Abs
structure wY where
 kind:Int
 frm:Int
 index:Int
 view:Int
 value:Int
 prep:Int
 tx:TxV
 b:vk
def fM (m:wY):List Value:=[.int .i64 m.kind,.int .i64 m.frm,.int .i64 m.index,.int .i64 m.view,.int .i64 m.value,.int .i64 m.prep,.int .i64 m.tx.id,.int .i64 m.tx.fee,.int .i64 m.b.slot,.int .i64 m.b.miner,.int .i64 m.b.variant,.int .i64 m.b.parent,tl m.b.k m.b.txs]
abbrev mv (m:wY):Value:=.agg [Value.int .i64 m.kind,.int .i64 m.frm,.int .i64 m.index,.int .i64 m.view,.int .i64 m.value,.int .i64 m.prep,.int .i64 m.tx.id,.int .i64 m.tx.fee,.int .i64 m.b.slot,.int .i64 m.b.miner,.int .i64 m.b.variant,.int .i64 m.b.parent,tl m.b.k m.b.txs].toArray
def Big (n:Int):Prop:=-9223372036854775808≤n∧n < 9223372036854775808
structure wY.Ok (m:wY):Prop where
 b:m.b.Ok
 tx:m.tx.Ok
 kind:Big m.kind
 frm:Big m.frm
 index:Big m.index
 view:Big m.view
 value:Big m.value
 prep:Big m.prep
abbrev m0:wY:=⟨0,0,0,0,0,0,⟨0,0⟩,bk0⟩
theorem mk_eq {x y:wY} (h1:x.kind=y.kind) (h2:x.frm=y.frm) (h3:x.index=y.index) (h4:x.view=y.view) (h5:x.value=y.value) (h6:x.prep=y.prep) (h7:x.tx=y.tx) (h8:x.b=y.b):x=y:=by
 cases x;cases y;simp_all
theorem yL {m:wY} {d:Nat} (h:m.b.k≤2):jL (d+6) (mv m)=true:=by
 have h1:jL (d+5) (tl m.b.k m.b.txs)=true:=Jk (d:=d+1) h fun _ _=>rfl
 refine aaZ ?_
 simp only [List.all_cons,List.all_nil,h1,Bool.and_true]
 rfl
theorem ajw (m:wY):(fM m).all (·.oneCell')=true:=by
 simp only [fM,List.all_cons,List.all_nil,afA,aiY,Bool.and_true]
section
variable {S:zx} {q e:Nat} {m:wY} {own:Own}
theorem wQ (h:S.get q=some (.cells (fM m) own e)):jl zi false 3 (.pointer (some ⟨q,0+0,none⟩)) S=some (.int .i64 m.kind,S):=qK (t:=3) (o:=0+0) h ZW rfl
theorem yJ (h:S.get q=some (.cells (fM m) own e)):jl zi false 3 (.pointer (some ⟨q,0+1,none⟩)) S=some (.int .i64 m.frm,S):=qK (t:=3) (o:=0+1) h ZW rfl
theorem yO (h:S.get q=some (.cells (fM m) own e)):jl zi false 3 (.pointer (some ⟨q,0+2,none⟩)) S=some (.int .i64 m.index,S):=qK (t:=3) (o:=0+2) h ZW rfl
theorem yX (h:S.get q=some (.cells (fM m) own e)):jl zi false 3 (.pointer (some ⟨q,0+3,none⟩)) S=some (.int .i64 m.view,S):=qK (t:=3) (o:=0+3) h ZW rfl
theorem yC (h:S.get q=some (.cells (fM m) own e)):jl zi false 3 (.pointer (some ⟨q,0+4,none⟩)) S=some (.int .i64 m.value,S):=qK (t:=3) (o:=0+4) h ZW rfl
theorem qg (h:S.get q=some (.cells (fM m) own e)):jl zi false 3 (.pointer (some ⟨q,0+5,none⟩)) S=some (.int .i64 m.prep,S):=qK (t:=3) (o:=0+5) h ZW rfl
theorem ql (h:S.get q=some (.cells (fM m) own e)):jl zi false 43 (.pointer (some ⟨q,0+6,none⟩)) S=some (tv m.tx,S):=(Y6 (o:=0+6) h V4 ZT (by simp [fM])).trans (by simp [fM,Zp])
theorem y9 (h:S.get q=some (.cells (fM m) own e)) (hk:m.b.k≠2):jl zi false 46 (.pointer (some ⟨q,0+8,none⟩)) S=some (bv m.b,S):=by
 rw [Y6 (o:=0+8) h Ku Jd (by simp [fM])]
 simp [fM,Zp,acX,hk]
theorem xk (h:S.get q=some (.cells (fM m) own e)) (hk:m.b.k≠2):jl zi false 48 (.pointer (some ⟨q,0,none⟩)) S=some (mv m,S):=by
 rw [adZ h]
 simp only [Zp,acX,if_neg hk]
end
abbrev Y5 (m:wY):zx:=zx.empty.push (.cells (fM m) (.own []) 0)
theorem Zc (m:wY):JK (mv m) zx.empty=some (.pointer (some ⟨0,0,none⟩),Y5 m):=rfl
theorem xK (m:wY):(Y5 m).get 0=some (.cells (fM m) (.own []) 0):=rfl
abbrev Qi (a b:wY):zx:=(Y5 a).push (.cells (fM b) (.own []) 0)
theorem abb (a b:wY):JK (mv b) (Y5 a)=some (.pointer (some ⟨1,0,none⟩),Qi a b):=by kernel_rfl
theorem acy (a b:wY):(Qi a b).get 0=some (.cells (fM a) (.own []) 0):=by kernel_rfl
theorem acV (a b:wY):(Qi a b).get 1=some (.cells (fM b) (.own []) 0):=by kernel_rfl
theorem Xr (S:zx):yR zi 48 S=some (.pointer (some ⟨S.next,0,none⟩),S.push (.cells (fM m0) (.own []) 0)):=by kernel_rfl
def ZR (a b:wY):Bool:=decide (a.kind=b.kind) && (decide (a.frm=b.frm) && (decide (a.index=b.index) && (decide (a.view=b.view) && (decide (a.value=b.value) && (decide (a.prep=b.prep) && (decide (a.tx=b.tx) && Jh a.b b.b))))))
theorem wX.v {a b:wY} (ha:a.Ok) (hb:b.Ok) (S:zx):jd zi O wX.id [mv a,mv b] S=some (.bool (ZR a b),S):=by
 obtain ⟨T,hTe⟩:∃ T,T=(mv a::mv b::zh::zh::zh::zh::zh::zh::zh::zh::zh::zh::zh::zh::zh::zh::zh::zh::zh::zh::zh::zh::zh::zh::zh::zh::zh::zh::zh::zh::zh::zh::zh::zh::zh::zh::zh::zh::zh::zh::zh::zh::zh::zh::zh::zh::zh::zh::zh::zh::zh::zh::zh::zh::zh::zh::zh::zh::zh::zh::zh::[]):=⟨_,rfl⟩
 have hr:zL zi O false wX.code T zx.empty=zL zi O false wX.code T zx.empty:=rfl
 have g0:=acy a b
 have g1:=acV a b
 have c1:=fun S=>wV.v ha.b hb.b S
 have e1:=fun S=>(ahu a.tx b.tx S).1
 have hc:[mv a,mv b].all (jL 16)=true:=all2 (yL ha.b.okl.le) (yL hb.b.okl.le)
 unfold ZR
 by_cases h1:a.kind=b.kind
 ·
  by_cases h2:a.frm=b.frm
  ·
   by_cases h3:a.index=b.index
   ·
    by_cases h4:a.view=b.view
    ·
     by_cases h5:a.value=b.value
     ·
      by_cases h6:a.prep=b.prep
      ·
       by_cases h7:a.tx=b.tx
       ·
        rw [decide_eq_true h1,decide_eq_true h2,decide_eq_true h3,decide_eq_true h4,decide_eq_true h5,decide_eq_true h6,decide_eq_true h7]
        simp only [Bool.true_and]
        conv at hr =>
         rhs
         rw [hTe]
         simp only [wX.code,wX.rs,zSs,reduceIte,zk,zn,zo,zq,Zc,abb,zO,jc,jh,ji,zY,jm,jk,jg,wQ g0,wQ g1,yJ g0,yJ g1,yO g0,yO g1,yX g0,yX g1,yC g0,yC g1,qg g0,qg g1,ql g0,ql g1,y9 g0 ha.b.ne,y9 g1 hb.b.ne,decide_eq_true h1,decide_eq_true h2,decide_eq_true h3,decide_eq_true h4,decide_eq_true h5,decide_eq_true h6,decide_eq_true h7,e1,c1]
        rw [hTe] at hr
        exact wX.runs hr (.inr rfl) hc rfl
       ·
        rw [decide_eq_false h7]
        simp only [Bool.false_and,Bool.and_false]
        conv at hr =>
         rhs
         rw [hTe]
         simp only [wX.code,wX.rs,zSs,reduceIte,zk,zn,zo,zq,Zc,abb,zO,jc,jh,ji,zY,jm,jk,wQ g0,wQ g1,yJ g0,yJ g1,yO g0,yO g1,yX g0,yX g1,yC g0,yC g1,qg g0,qg g1,ql g0,ql g1,decide_eq_true h1,decide_eq_true h2,decide_eq_true h3,decide_eq_true h4,decide_eq_true h5,decide_eq_true h6,decide_eq_false h7,e1]
        rw [hTe] at hr
        exact wX.runs hr (.inr rfl) hc rfl
      ·
       rw [decide_eq_false h6]
       simp only [Bool.false_and,Bool.and_false]
       conv at hr =>
        rhs
        rw [hTe]
        simp only [wX.code,wX.rs,zSs,reduceIte,zk,zn,zo,zq,Zc,abb,zO,jc,jh,ji,zY,jm,wQ g0,wQ g1,yJ g0,yJ g1,yO g0,yO g1,yX g0,yX g1,yC g0,yC g1,qg g0,qg g1,decide_eq_true h1,decide_eq_true h2,decide_eq_true h3,decide_eq_true h4,decide_eq_true h5,decide_eq_false h6]
       rw [hTe] at hr
       exact wX.runs hr (.inr rfl) hc rfl
     ·
      rw [decide_eq_false h5]
      simp only [Bool.false_and,Bool.and_false]
      conv at hr =>
       rhs
       rw [hTe]
       simp only [wX.code,wX.rs,zSs,reduceIte,zk,zn,zo,zq,Zc,abb,zO,jc,jh,ji,zY,wQ g0,wQ g1,yJ g0,yJ g1,yO g0,yO g1,yX g0,yX g1,yC g0,yC g1,decide_eq_true h1,decide_eq_true h2,decide_eq_true h3,decide_eq_true h4,decide_eq_false h5]
      rw [hTe] at hr
      exact wX.runs hr (.inr rfl) hc rfl
    ·
     rw [decide_eq_false h4]
     simp only [Bool.false_and,Bool.and_false]
     conv at hr =>
      rhs
      rw [hTe]
      simp only [wX.code,wX.rs,zSs,reduceIte,zk,zn,zo,zq,Zc,abb,zO,jc,jh,ji,wQ g0,wQ g1,yJ g0,yJ g1,yO g0,yO g1,yX g0,yX g1,decide_eq_true h1,decide_eq_true h2,decide_eq_true h3,decide_eq_false h4]
     rw [hTe] at hr
     exact wX.runs hr (.inr rfl) hc rfl
   ·
    rw [decide_eq_false h3]
    simp only [Bool.false_and,Bool.and_false]
    conv at hr =>
     rhs
     rw [hTe]
     simp only [wX.code,wX.rs,zSs,reduceIte,zk,zn,zo,zq,Zc,abb,zO,jc,jh,wQ g0,wQ g1,yJ g0,yJ g1,yO g0,yO g1,decide_eq_true h1,decide_eq_true h2,decide_eq_false h3]
    rw [hTe] at hr
    exact wX.runs hr (.inr rfl) hc rfl
  ·
   rw [decide_eq_false h2]
   simp only [Bool.false_and,Bool.and_false]
   conv at hr =>
    rhs
    rw [hTe]
    simp only [wX.code,wX.rs,zSs,reduceIte,zk,zn,zo,zq,Zc,abb,zO,jc,wQ g0,wQ g1,yJ g0,yJ g1,decide_eq_true h1,decide_eq_false h2]
   rw [hTe] at hr
   exact wX.runs hr (.inr rfl) hc rfl
 ·
  rw [decide_eq_false h1]
  simp only [Bool.false_and]
  conv at hr =>
   rhs
   rw [hTe]
   simp only [wX.code,wX.rs,zSs,reduceIte,zk,zn,zo,zq,Zc,abb,zO,wQ g0,wQ g1,decide_eq_false h1]
  rw [hTe] at hr
  exact wX.runs hr (.inr rfl) hc rfl
end Go.Proofs.Ytfjogganfjkckaa
namespace Go.Proofs.Ytfjogganfjkckaa
open Go.Abs
def YK (m:wY):Bool:=decide (m.kind=4) || decide (m.kind=5)
def kJ (m:wY):Bool:=decide (m.value=0) || decide (0 < Y3 m.value) || (YK m && decide (m.value=-1))
theorem wF.v {m:wY} (hm:m.Ok) (S:zx):jd zi O wF.id [mv m] S=some (.bool (kJ m),S):=by
 obtain ⟨T,hTe⟩:∃ T,T=(mv m::zh::zh::zh::zh::zh::zh::zh::zh::zh::zh::zh::zh::zh::zh::zh::zh::zh::zh::zh::zh::zh::zh::zh::zh::zh::zh::zh::zh::[]):=⟨_,rfl⟩
 have hr:zL zi O false wF.code T zx.empty=zL zi O false wF.code T zx.empty:=rfl
 have g0:=xK m
 have c1:=fun S=>yh.v m.value S
 have hc:[mv m].all (jL 16)=true:=all1 (yL hm.b.okl.le)
 by_cases k4:m.kind=4
 ·
  have hvote:YK m=true:=by simp [YK,k4]
  by_cases v0:m.value=0
  ·
   rw [show kJ m=true from by simp [kJ,v0]]
   conv at hr =>
    rhs
    rw [hTe]
    simp only [wF.code,wF.rs,zSs,reduceIte,zk,zn,zo,zq,Zc,zO,zY,wQ g0,yC g0,decide_eq_true k4,decide_eq_true v0]
   rw [hTe] at hr
   exact wF.runs hr (.inr rfl) hc rfl
  by_cases v1:0 < Y3 m.value
  ·
   rw [show kJ m=true from by simp [kJ,v1]]
   conv at hr =>
    rhs
    rw [hTe]
    simp only [wF.code,wF.rs,zSs,reduceIte,zk,zn,zo,zq,Zc,zO,zY,wQ g0,yC g0,decide_eq_true k4,decide_eq_false v0,c1,decide_eq_true v1]
   rw [hTe] at hr
   exact wF.runs hr (.inr rfl) hc rfl
  by_cases v2:m.value=-1
  ·
   rw [show kJ m=true from by simp [kJ,v2,hvote]]
   conv at hr =>
    rhs
    rw [hTe]
    simp only [wF.code,wF.rs,zSs,reduceIte,zk,zn,zo,zq,Zc,zO,zY,wQ g0,yC g0,decide_eq_true k4,decide_eq_false v0,c1,decide_eq_false v1,decide_eq_true v2]
   rw [hTe] at hr
   exact wF.runs hr (.inr rfl) hc rfl
  rw [show kJ m=false from by simp [kJ,v0,v1,v2]]
  conv at hr =>
   rhs
   rw [hTe]
   simp only [wF.code,wF.rs,zSs,reduceIte,zk,zn,zo,zq,Zc,zO,zY,wQ g0,yC g0,decide_eq_true k4,decide_eq_false v0,c1,decide_eq_false v1,decide_eq_false v2]
  rw [hTe] at hr
  exact wF.runs hr (.inr rfl) hc rfl
 by_cases k5:m.kind=5
 ·
  have hvote:YK m=true:=by simp [YK,k5]
  by_cases v0:m.value=0
  ·
   rw [show kJ m=true from by simp [kJ,v0]]
   conv at hr =>
    rhs
    rw [hTe]
    simp only [wF.code,wF.rs,zSs,reduceIte,zk,zn,zo,zq,Zc,zO,zY,wQ g0,yC g0,decide_eq_false k4,decide_eq_true k5,decide_eq_true v0]
   rw [hTe] at hr
   exact wF.runs hr (.inr rfl) hc rfl
  by_cases v1:0 < Y3 m.value
  ·
   rw [show kJ m=true from by simp [kJ,v1]]
   conv at hr =>
    rhs
    rw [hTe]
    simp only [wF.code,wF.rs,zSs,reduceIte,zk,zn,zo,zq,Zc,zO,zY,wQ g0,yC g0,decide_eq_false k4,decide_eq_true k5,decide_eq_false v0,c1,decide_eq_true v1]
   rw [hTe] at hr
   exact wF.runs hr (.inr rfl) hc rfl
  by_cases v2:m.value=-1
  ·
   rw [show kJ m=true from by simp [kJ,v2,hvote]]
   conv at hr =>
    rhs
    rw [hTe]
    simp only [wF.code,wF.rs,zSs,reduceIte,zk,zn,zo,zq,Zc,zO,zY,wQ g0,yC g0,decide_eq_false k4,decide_eq_true k5,decide_eq_false v0,c1,decide_eq_false v1,decide_eq_true v2]
   rw [hTe] at hr
   exact wF.runs hr (.inr rfl) hc rfl
  rw [show kJ m=false from by simp [kJ,v0,v1,v2]]
  conv at hr =>
   rhs
   rw [hTe]
   simp only [wF.code,wF.rs,zSs,reduceIte,zk,zn,zo,zq,Zc,zO,zY,wQ g0,yC g0,decide_eq_false k4,decide_eq_true k5,decide_eq_false v0,c1,decide_eq_false v1,decide_eq_false v2]
  rw [hTe] at hr
  exact wF.runs hr (.inr rfl) hc rfl
 have hvote:YK m=false:=by simp [YK,k4,k5]
 by_cases v0:m.value=0
 ·
  rw [show kJ m=true from by simp [kJ,v0]]
  conv at hr =>
   rhs
   rw [hTe]
   simp only [wF.code,wF.rs,zSs,reduceIte,zk,zn,zo,zq,Zc,zO,zY,wQ g0,yC g0,decide_eq_false k4,decide_eq_false k5,decide_eq_true v0]
  rw [hTe] at hr
  exact wF.runs hr (.inr rfl) hc rfl
 by_cases v1:0 < Y3 m.value
 ·
  rw [show kJ m=true from by simp [kJ,v1]]
  conv at hr =>
   rhs
   rw [hTe]
   simp only [wF.code,wF.rs,zSs,reduceIte,zk,zn,zo,zq,Zc,zO,zY,wQ g0,yC g0,decide_eq_false k4,decide_eq_false k5,decide_eq_false v0,c1,decide_eq_true v1]
  rw [hTe] at hr
  exact wF.runs hr (.inr rfl) hc rfl
 rw [show kJ m=false from by simp [kJ,v0,v1,hvote]]
 conv at hr =>
  rhs
  rw [hTe]
  simp only [wF.code,wF.rs,zSs,reduceIte,zk,zn,zo,zq,Zc,zO,zY,wQ g0,yC g0,decide_eq_false k4,decide_eq_false k5,decide_eq_false v0,c1,decide_eq_false v1]
 rw [hTe] at hr
 exact wF.runs hr (.inr rfl) hc rfl
def qh (m:wY):wY :=
 if m.kind=0 then ⟨m.kind,m.frm,0,0,0,0,m.tx,bk0⟩
 else if m.kind=1 then ⟨m.kind,m.frm,0,0,0,0,⟨0,0⟩,m.b⟩
 else if m.kind=2 then ⟨m.kind,m.frm,0,0,m.value,0,⟨0,0⟩,bk0⟩
 else if m.kind=3 then ⟨m.kind,m.frm,m.index,m.view,m.value,m.prep,⟨0,0⟩,bk0⟩
 else if m.kind=4 then ⟨m.kind,m.frm,m.index,m.view,m.value,0,⟨0,0⟩,bk0⟩
 else if m.kind=5 then ⟨m.kind,m.frm,m.index,m.view,m.value,0,⟨0,0⟩,bk0⟩
 else ⟨m.kind,m.frm,m.index,0,m.value,0,⟨0,0⟩,bk0⟩
abbrev kF (S:zx) (q:Nat) (x:wY):zx:=(S.kills []).set q (.cells (fM x) (.own []) 0)
theorem wP (S:zx) (q:Nat) (x:wY):(kF S q x).get q=some (.cells (fM x) (.own []) 0):=by rw [zx.qx,if_pos rfl]
theorem yF {S:zx} {q k:Nat} {x:wY} (h:k≠q):(kF S q x).get k=S.get k:=by rw [zx.qx,if_neg h];rfl
theorem WR {S:zx} {q k o:Nat} {x y:wY} (h:S.get k=some (.cells (fM y) (.own []) 0)) (hk:k≠q):qV (.pointer (some ⟨k,o,none⟩)) S (kF S q x)=true:=by
 have hl:(kF S q x).log=q::S.log:=rfl
 simp only [qV,h,hl,List.length_cons,Nat.add_sub_cancel_left,List.take_succ_cons,List.take_zero]
 simp [hk]
section
variable {S:zx} {q:Nat} {x:wY}
theorem Qe (h:S.get q=some (.cells (fM x) (.own []) 0)) (y:wY):wS zi 48 (.pointer (some ⟨q,0,none⟩)) (mv y) S=some (zh,kF S q y):=by
 rw [vU (x:=mv y) (n:=13) h Qc (by rw [qG];rfl) (by rw [qG,List.toList_toArray];exact ajw y) (by simp [fM]),qG,List.toList_toArray];rfl
theorem aiq (h:S.get q=some (.cells (fM x) (.own []) 0)) (v:Int):wS zi 3 (.pointer (some ⟨q,0+2,none⟩)) (.int .i64 v) S=some (zh,kF S q { x with index:=v }):=by
 rw [vU (n:=1) h abx rfl rfl (by simp [fM])];rfl
theorem ajq (h:S.get q=some (.cells (fM x) (.own []) 0)) (v:Int):wS zi 3 (.pointer (some ⟨q,0+3,none⟩)) (.int .i64 v) S=some (zh,kF S q { x with view:=v }):=by
 rw [vU (n:=1) h abx rfl rfl (by simp [fM])];rfl
theorem afK (h:S.get q=some (.cells (fM x) (.own []) 0)) (v:Int):wS zi 3 (.pointer (some ⟨q,0+4,none⟩)) (.int .i64 v) S=some (zh,kF S q { x with value:=v }):=by
 rw [vU (n:=1) h abx rfl rfl (by simp [fM])];rfl
theorem alC (h:S.get q=some (.cells (fM x) (.own []) 0)) (v:Int):wS zi 3 (.pointer (some ⟨q,0+5,none⟩)) (.int .i64 v) S=some (zh,kF S q { x with prep:=v }):=by
 rw [vU (n:=1) h abx rfl rfl (by simp [fM])];rfl
theorem ajB (h:S.get q=some (.cells (fM x) (.own []) 0)) (t:TxV):wS zi 43 (.pointer (some ⟨q,0+6,none⟩)) (tv t) S=some (zh,kF S q { x with tx:=t }):=by
 rw [vU (n:=2) h ZT rfl rfl (by simp [fM])];rfl
theorem ajM (h:S.get q=some (.cells (fM x) (.own []) 0)) (b:vk):wS zi 46 (.pointer (some ⟨q,0+8,none⟩)) (bv b) S=some (zh,kF S q { x with b:=b }):=by
 rw [vU (x:=bv b) (n:=5) h Jd (by rw [qG];rfl) (by rw [qG,List.toList_toArray];exact afk b) (by simp [fM]),qG,List.toList_toArray];rfl
end
theorem jv.v0 {m:wY} (hm:m.Ok) (hk:m.kind=0) (S:zx):jd zi O jv.id [mv m] S=some (mv (qh m),S):=by
 obtain ⟨T,hTe⟩:∃ T,T=(mv m::zh::zh::zh::zh::zh::zh::zh::zh::zh::zh::zh::zh::zh::zh::zh::zh::zh::zh::zh::zh::zh::zh::zh::zh::zh::zh::zh::zh::zh::zh::zh::zh::zh::zh::zh::zh::zh::zh::zh::zh::zh::zh::zh::zh::zh::[]):=⟨_,rfl⟩
 have hr:zL zi O false jv.code T zx.empty=zL zi O false jv.code T zx.empty:=rfl
 obtain ⟨A1,hA1⟩:∃ A,A=(Y5 m).push (.cells (fM m0) (.own []) 0):=⟨_,rfl⟩
 have a1:yR zi 48 (Y5 m)=some (.pointer (some ⟨1,0,none⟩),A1):=by rw [hA1];exact Xr _
 have p0:A1.get 0=some (.cells (fM m) (.own []) 0):=by rw [hA1];kernel_rfl
 obtain ⟨A2,hA2⟩:∃ A,A=A1.push (.cells (fM m0) (.own []) 0):=⟨_,rfl⟩
 have a2:yR zi 48 A1=some (.pointer (some ⟨2,0,none⟩),A2):=by rw [hA2,hA1];exact Xr _
 have q0:A2.get 0=some (.cells (fM m) (.own []) 0):=by rw [hA2,hA1];kernel_rfl
 have q1:A2.get 1=some (.cells (fM m0) (.own []) 0):=by rw [hA2,hA1];kernel_rfl
 have q2:A2.get 2=some (.cells (fM m0) (.own []) 0):=by rw [hA2,hA1];kernel_rfl
 have s0:wS zi 48 (.pointer (some ⟨2,0,none⟩)) (.agg [Value.int .i64 m.kind,.int .i64 m.frm,.int .i64 0,.int .i64 0,.int .i64 0,.int .i64 0,.int .i64 0,.int .i64 0,.int .i64 0,.int .i64 0,.int .i64 0,.int .i64 0,.slice none 0 0].toArray) A2=some (zh,kF A2 2 (⟨m.kind,m.frm,0,0,0,0,⟨0,0⟩,bk0⟩:wY)):=Qe q2 (⟨m.kind,m.frm,0,0,0,0,⟨0,0⟩,bk0⟩:wY)
 have b0:(kF A2 2 (⟨m.kind,m.frm,0,0,0,0,⟨0,0⟩,bk0⟩:wY)).get 0=some (.cells (fM m) (.own []) 0):=(yF (by decide)).trans q0
 have b1:(kF A2 2 (⟨m.kind,m.frm,0,0,0,0,⟨0,0⟩,bk0⟩:wY)).get 1=some (.cells (fM m0) (.own []) 0):=(yF (by decide)).trans q1
 have b2:=wP A2 2 (⟨m.kind,m.frm,0,0,0,0,⟨0,0⟩,bk0⟩:wY)
 generalize hB0:kF A2 2 (⟨m.kind,m.frm,0,0,0,0,⟨0,0⟩,bk0⟩:wY)=B0 at s0 b0 b1 b2
 have s1:=ajB b2 m.tx
 have c1_0:(kF B0 2 (⟨m.kind,m.frm,0,0,0,0,m.tx,bk0⟩:wY)).get 0=some (.cells (fM m) (.own []) 0):=(yF (by decide)).trans b0
 have c1_1:(kF B0 2 (⟨m.kind,m.frm,0,0,0,0,m.tx,bk0⟩:wY)).get 1=some (.cells (fM m0) (.own []) 0):=(yF (by decide)).trans b1
 have c1_2:=wP B0 2 (⟨m.kind,m.frm,0,0,0,0,m.tx,bk0⟩:wY)
 dsimp only at s1
 generalize hB1:kF B0 2 (⟨m.kind,m.frm,0,0,0,0,m.tx,bk0⟩:wY)=B1 at s1  c1_0 c1_1 c1_2
 have eb:(⟨m.kind,m.frm,0,0,0,0,m.tx,bk0⟩:wY)=qh m:=by simp [qh,hk]
 rw [eb] at c1_2
 have hbk:(qh m).b.k≠2:=by simp [qh,hk]
 have ld:=xk c1_2 hbk
 have sl:=Qe c1_1 (qh m)
 have fin:=xk (wP B1 1 (qh m)) hbk
 have hcb:(qh m).b.k≤2:=by simp [qh,hk]
 conv at hr =>
  rhs
  rw [hTe]
  simp only [jv.code,jv.rs,zSs,reduceIte,zk,zn,zo,zq,Zc,a1,a2,zO,jc,wQ p0,yJ p0,kT (y0:=.int .i64 m.kind) (y1:=.int .i64 m.frm) rfl rfl,s0,wQ b0,jk,s1,ql b0,decide_eq_true hk,Ja,ld,sl]
 rw [hTe] at hr
 exact jv.runs hr (.inr rfl) fin (all1 (yL hm.b.okl.le)) (yL hcb)
theorem jv.v1 {m:wY} (hm:m.Ok) (hk:m.kind=1) (S:zx):jd zi O jv.id [mv m] S=some (mv (qh m),S):=by
 obtain ⟨T,hTe⟩:∃ T,T=(mv m::zh::zh::zh::zh::zh::zh::zh::zh::zh::zh::zh::zh::zh::zh::zh::zh::zh::zh::zh::zh::zh::zh::zh::zh::zh::zh::zh::zh::zh::zh::zh::zh::zh::zh::zh::zh::zh::zh::zh::zh::zh::zh::zh::zh::zh::[]):=⟨_,rfl⟩
 have hr:zL zi O false jv.code T zx.empty=zL zi O false jv.code T zx.empty:=rfl
 obtain ⟨A1,hA1⟩:∃ A,A=(Y5 m).push (.cells (fM m0) (.own []) 0):=⟨_,rfl⟩
 have a1:yR zi 48 (Y5 m)=some (.pointer (some ⟨1,0,none⟩),A1):=by rw [hA1];exact Xr _
 have p0:A1.get 0=some (.cells (fM m) (.own []) 0):=by rw [hA1];kernel_rfl
 obtain ⟨A2,hA2⟩:∃ A,A=A1.push (.cells (fM m0) (.own []) 0):=⟨_,rfl⟩
 have a2:yR zi 48 A1=some (.pointer (some ⟨2,0,none⟩),A2):=by rw [hA2,hA1];exact Xr _
 have q0:A2.get 0=some (.cells (fM m) (.own []) 0):=by rw [hA2,hA1];kernel_rfl
 have q1:A2.get 1=some (.cells (fM m0) (.own []) 0):=by rw [hA2,hA1];kernel_rfl
 have q2:A2.get 2=some (.cells (fM m0) (.own []) 0):=by rw [hA2,hA1];kernel_rfl
 have s0:wS zi 48 (.pointer (some ⟨2,0,none⟩)) (.agg [Value.int .i64 m.kind,.int .i64 m.frm,.int .i64 0,.int .i64 0,.int .i64 0,.int .i64 0,.int .i64 0,.int .i64 0,.int .i64 0,.int .i64 0,.int .i64 0,.int .i64 0,.slice none 0 0].toArray) A2=some (zh,kF A2 2 (⟨m.kind,m.frm,0,0,0,0,⟨0,0⟩,bk0⟩:wY)):=Qe q2 (⟨m.kind,m.frm,0,0,0,0,⟨0,0⟩,bk0⟩:wY)
 have b0:(kF A2 2 (⟨m.kind,m.frm,0,0,0,0,⟨0,0⟩,bk0⟩:wY)).get 0=some (.cells (fM m) (.own []) 0):=(yF (by decide)).trans q0
 have b1:(kF A2 2 (⟨m.kind,m.frm,0,0,0,0,⟨0,0⟩,bk0⟩:wY)).get 1=some (.cells (fM m0) (.own []) 0):=(yF (by decide)).trans q1
 have b2:=wP A2 2 (⟨m.kind,m.frm,0,0,0,0,⟨0,0⟩,bk0⟩:wY)
 generalize hB0:kF A2 2 (⟨m.kind,m.frm,0,0,0,0,⟨0,0⟩,bk0⟩:wY)=B0 at s0 b0 b1 b2
 have s1:=ajM b2 m.b
 have c1_0:(kF B0 2 (⟨m.kind,m.frm,0,0,0,0,⟨0,0⟩,m.b⟩:wY)).get 0=some (.cells (fM m) (.own []) 0):=(yF (by decide)).trans b0
 have c1_1:(kF B0 2 (⟨m.kind,m.frm,0,0,0,0,⟨0,0⟩,m.b⟩:wY)).get 1=some (.cells (fM m0) (.own []) 0):=(yF (by decide)).trans b1
 have c1_2:=wP B0 2 (⟨m.kind,m.frm,0,0,0,0,⟨0,0⟩,m.b⟩:wY)
 dsimp only at s1
 generalize hB1:kF B0 2 (⟨m.kind,m.frm,0,0,0,0,⟨0,0⟩,m.b⟩:wY)=B1 at s1  c1_0 c1_1 c1_2
 have eb:(⟨m.kind,m.frm,0,0,0,0,⟨0,0⟩,m.b⟩:wY)=qh m:=by simp [qh,hk]
 rw [eb] at c1_2
 have hbk:(qh m).b.k≠2:=by simp [qh,hk,hm.b.ne]
 have ld:=xk c1_2 hbk
 have sl:=Qe c1_1 (qh m)
 have fin:=xk (wP B1 1 (qh m)) hbk
 have hcb:(qh m).b.k≤2:=by simp [qh,hk,hm.b.okl.le]
 conv at hr =>
  rhs
  rw [hTe]
  simp only [jv.code,jv.rs,zSs,reduceIte,zk,zn,zo,zq,Zc,a1,a2,zO,jc,wQ p0,yJ p0,kT (y0:=.int .i64 m.kind) (y1:=.int .i64 m.frm) rfl rfl,s0,wQ b0,jg,s1,y9 b0 hm.b.ne,decide_eq_false (show ¬ m.kind=0 by omega),decide_eq_true hk,Ja,ld,sl]
 rw [hTe] at hr
 exact jv.runs hr (.inr rfl) fin (all1 (yL hm.b.okl.le)) (yL hcb)
theorem jv.v2 {m:wY} (hm:m.Ok) (hk:m.kind=2) (S:zx):jd zi O jv.id [mv m] S=some (mv (qh m),S):=by
 obtain ⟨T,hTe⟩:∃ T,T=(mv m::zh::zh::zh::zh::zh::zh::zh::zh::zh::zh::zh::zh::zh::zh::zh::zh::zh::zh::zh::zh::zh::zh::zh::zh::zh::zh::zh::zh::zh::zh::zh::zh::zh::zh::zh::zh::zh::zh::zh::zh::zh::zh::zh::zh::zh::[]):=⟨_,rfl⟩
 have hr:zL zi O false jv.code T zx.empty=zL zi O false jv.code T zx.empty:=rfl
 obtain ⟨A1,hA1⟩:∃ A,A=(Y5 m).push (.cells (fM m0) (.own []) 0):=⟨_,rfl⟩
 have a1:yR zi 48 (Y5 m)=some (.pointer (some ⟨1,0,none⟩),A1):=by rw [hA1];exact Xr _
 have p0:A1.get 0=some (.cells (fM m) (.own []) 0):=by rw [hA1];kernel_rfl
 obtain ⟨A2,hA2⟩:∃ A,A=A1.push (.cells (fM m0) (.own []) 0):=⟨_,rfl⟩
 have a2:yR zi 48 A1=some (.pointer (some ⟨2,0,none⟩),A2):=by rw [hA2,hA1];exact Xr _
 have q0:A2.get 0=some (.cells (fM m) (.own []) 0):=by rw [hA2,hA1];kernel_rfl
 have q1:A2.get 1=some (.cells (fM m0) (.own []) 0):=by rw [hA2,hA1];kernel_rfl
 have q2:A2.get 2=some (.cells (fM m0) (.own []) 0):=by rw [hA2,hA1];kernel_rfl
 have s0:wS zi 48 (.pointer (some ⟨2,0,none⟩)) (.agg [Value.int .i64 m.kind,.int .i64 m.frm,.int .i64 0,.int .i64 0,.int .i64 0,.int .i64 0,.int .i64 0,.int .i64 0,.int .i64 0,.int .i64 0,.int .i64 0,.int .i64 0,.slice none 0 0].toArray) A2=some (zh,kF A2 2 (⟨m.kind,m.frm,0,0,0,0,⟨0,0⟩,bk0⟩:wY)):=Qe q2 (⟨m.kind,m.frm,0,0,0,0,⟨0,0⟩,bk0⟩:wY)
 have b0:(kF A2 2 (⟨m.kind,m.frm,0,0,0,0,⟨0,0⟩,bk0⟩:wY)).get 0=some (.cells (fM m) (.own []) 0):=(yF (by decide)).trans q0
 have b1:(kF A2 2 (⟨m.kind,m.frm,0,0,0,0,⟨0,0⟩,bk0⟩:wY)).get 1=some (.cells (fM m0) (.own []) 0):=(yF (by decide)).trans q1
 have b2:=wP A2 2 (⟨m.kind,m.frm,0,0,0,0,⟨0,0⟩,bk0⟩:wY)
 generalize hB0:kF A2 2 (⟨m.kind,m.frm,0,0,0,0,⟨0,0⟩,bk0⟩:wY)=B0 at s0 b0 b1 b2
 have s1:=afK b2 m.value
 have c1_0:(kF B0 2 (⟨m.kind,m.frm,0,0,m.value,0,⟨0,0⟩,bk0⟩:wY)).get 0=some (.cells (fM m) (.own []) 0):=(yF (by decide)).trans b0
 have c1_1:(kF B0 2 (⟨m.kind,m.frm,0,0,m.value,0,⟨0,0⟩,bk0⟩:wY)).get 1=some (.cells (fM m0) (.own []) 0):=(yF (by decide)).trans b1
 have c1_2:=wP B0 2 (⟨m.kind,m.frm,0,0,m.value,0,⟨0,0⟩,bk0⟩:wY)
 dsimp only at s1
 generalize hB1:kF B0 2 (⟨m.kind,m.frm,0,0,m.value,0,⟨0,0⟩,bk0⟩:wY)=B1 at s1  c1_0 c1_1 c1_2
 have eb:(⟨m.kind,m.frm,0,0,m.value,0,⟨0,0⟩,bk0⟩:wY)=qh m:=by simp [qh,hk]
 rw [eb] at c1_2
 have hbk:(qh m).b.k≠2:=by simp [qh,hk]
 have ld:=xk c1_2 hbk
 have sl:=Qe c1_1 (qh m)
 have fin:=xk (wP B1 1 (qh m)) hbk
 have hcb:(qh m).b.k≤2:=by simp [qh,hk]
 conv at hr =>
  rhs
  rw [hTe]
  simp only [jv.code,jv.rs,zSs,reduceIte,zk,zn,zo,zq,Zc,a1,a2,zO,jc,wQ p0,yJ p0,kT (y0:=.int .i64 m.kind) (y1:=.int .i64 m.frm) rfl rfl,s0,wQ b0,zY,s1,yC b0,decide_eq_false (show ¬ m.kind=0 by omega),decide_eq_false (show ¬ m.kind=1 by omega),decide_eq_true hk,Ja,ld,sl]
 rw [hTe] at hr
 exact jv.runs hr (.inr rfl) fin (all1 (yL hm.b.okl.le)) (yL hcb)
theorem jv.v3 {m:wY} (hm:m.Ok) (hk:m.kind=3) (S:zx):jd zi O jv.id [mv m] S=some (mv (qh m),S):=by
 obtain ⟨T,hTe⟩:∃ T,T=(mv m::zh::zh::zh::zh::zh::zh::zh::zh::zh::zh::zh::zh::zh::zh::zh::zh::zh::zh::zh::zh::zh::zh::zh::zh::zh::zh::zh::zh::zh::zh::zh::zh::zh::zh::zh::zh::zh::zh::zh::zh::zh::zh::zh::zh::zh::[]):=⟨_,rfl⟩
 have hr:zL zi O false jv.code T zx.empty=zL zi O false jv.code T zx.empty:=rfl
 obtain ⟨A1,hA1⟩:∃ A,A=(Y5 m).push (.cells (fM m0) (.own []) 0):=⟨_,rfl⟩
 have a1:yR zi 48 (Y5 m)=some (.pointer (some ⟨1,0,none⟩),A1):=by rw [hA1];exact Xr _
 have p0:A1.get 0=some (.cells (fM m) (.own []) 0):=by rw [hA1];kernel_rfl
 obtain ⟨A2,hA2⟩:∃ A,A=A1.push (.cells (fM m0) (.own []) 0):=⟨_,rfl⟩
 have a2:yR zi 48 A1=some (.pointer (some ⟨2,0,none⟩),A2):=by rw [hA2,hA1];exact Xr _
 have q0:A2.get 0=some (.cells (fM m) (.own []) 0):=by rw [hA2,hA1];kernel_rfl
 have q1:A2.get 1=some (.cells (fM m0) (.own []) 0):=by rw [hA2,hA1];kernel_rfl
 have q2:A2.get 2=some (.cells (fM m0) (.own []) 0):=by rw [hA2,hA1];kernel_rfl
 have s0:wS zi 48 (.pointer (some ⟨2,0,none⟩)) (.agg [Value.int .i64 m.kind,.int .i64 m.frm,.int .i64 0,.int .i64 0,.int .i64 0,.int .i64 0,.int .i64 0,.int .i64 0,.int .i64 0,.int .i64 0,.int .i64 0,.int .i64 0,.slice none 0 0].toArray) A2=some (zh,kF A2 2 (⟨m.kind,m.frm,0,0,0,0,⟨0,0⟩,bk0⟩:wY)):=Qe q2 (⟨m.kind,m.frm,0,0,0,0,⟨0,0⟩,bk0⟩:wY)
 have b0:(kF A2 2 (⟨m.kind,m.frm,0,0,0,0,⟨0,0⟩,bk0⟩:wY)).get 0=some (.cells (fM m) (.own []) 0):=(yF (by decide)).trans q0
 have b1:(kF A2 2 (⟨m.kind,m.frm,0,0,0,0,⟨0,0⟩,bk0⟩:wY)).get 1=some (.cells (fM m0) (.own []) 0):=(yF (by decide)).trans q1
 have b2:=wP A2 2 (⟨m.kind,m.frm,0,0,0,0,⟨0,0⟩,bk0⟩:wY)
 generalize hB0:kF A2 2 (⟨m.kind,m.frm,0,0,0,0,⟨0,0⟩,bk0⟩:wY)=B0 at s0 b0 b1 b2
 have s1:=alC b2 m.prep
 have c1_0:(kF B0 2 (⟨m.kind,m.frm,0,0,0,m.prep,⟨0,0⟩,bk0⟩:wY)).get 0=some (.cells (fM m) (.own []) 0):=(yF (by decide)).trans b0
 have c1_1:(kF B0 2 (⟨m.kind,m.frm,0,0,0,m.prep,⟨0,0⟩,bk0⟩:wY)).get 1=some (.cells (fM m0) (.own []) 0):=(yF (by decide)).trans b1
 have c1_2:=wP B0 2 (⟨m.kind,m.frm,0,0,0,m.prep,⟨0,0⟩,bk0⟩:wY)
 dsimp only at s1
 generalize hB1:kF B0 2 (⟨m.kind,m.frm,0,0,0,m.prep,⟨0,0⟩,bk0⟩:wY)=B1 at s1  c1_0 c1_1 c1_2
 have s2:=ajq c1_2 m.view
 have c2_0:(kF B1 2 (⟨m.kind,m.frm,0,m.view,0,m.prep,⟨0,0⟩,bk0⟩:wY)).get 0=some (.cells (fM m) (.own []) 0):=(yF (by decide)).trans c1_0
 have c2_1:(kF B1 2 (⟨m.kind,m.frm,0,m.view,0,m.prep,⟨0,0⟩,bk0⟩:wY)).get 1=some (.cells (fM m0) (.own []) 0):=(yF (by decide)).trans c1_1
 have c2_2:=wP B1 2 (⟨m.kind,m.frm,0,m.view,0,m.prep,⟨0,0⟩,bk0⟩:wY)
 dsimp only at s2
 generalize hB2:kF B1 2 (⟨m.kind,m.frm,0,m.view,0,m.prep,⟨0,0⟩,bk0⟩:wY)=B2 at s2  c2_0 c2_1 c2_2
 have s3:=aiq c2_2 m.index
 have sq:=WR (o:=0+4) (x:=(⟨m.kind,m.frm,m.index,m.view,0,m.prep,⟨0,0⟩,bk0⟩:wY)) c2_0 (show (0:Nat)≠2 by decide)
 have c3_0:(kF B2 2 (⟨m.kind,m.frm,m.index,m.view,0,m.prep,⟨0,0⟩,bk0⟩:wY)).get 0=some (.cells (fM m) (.own []) 0):=(yF (by decide)).trans c2_0
 have c3_1:(kF B2 2 (⟨m.kind,m.frm,m.index,m.view,0,m.prep,⟨0,0⟩,bk0⟩:wY)).get 1=some (.cells (fM m0) (.own []) 0):=(yF (by decide)).trans c2_1
 have c3_2:=wP B2 2 (⟨m.kind,m.frm,m.index,m.view,0,m.prep,⟨0,0⟩,bk0⟩:wY)
 dsimp only at s3
 generalize hB3:kF B2 2 (⟨m.kind,m.frm,m.index,m.view,0,m.prep,⟨0,0⟩,bk0⟩:wY)=B3 at s3 sq c3_0 c3_1 c3_2
 have s4:=afK c3_2 m.value
 have c4_0:(kF B3 2 (⟨m.kind,m.frm,m.index,m.view,m.value,m.prep,⟨0,0⟩,bk0⟩:wY)).get 0=some (.cells (fM m) (.own []) 0):=(yF (by decide)).trans c3_0
 have c4_1:(kF B3 2 (⟨m.kind,m.frm,m.index,m.view,m.value,m.prep,⟨0,0⟩,bk0⟩:wY)).get 1=some (.cells (fM m0) (.own []) 0):=(yF (by decide)).trans c3_1
 have c4_2:=wP B3 2 (⟨m.kind,m.frm,m.index,m.view,m.value,m.prep,⟨0,0⟩,bk0⟩:wY)
 dsimp only at s4
 generalize hB4:kF B3 2 (⟨m.kind,m.frm,m.index,m.view,m.value,m.prep,⟨0,0⟩,bk0⟩:wY)=B4 at s4  c4_0 c4_1 c4_2
 have eb:(⟨m.kind,m.frm,m.index,m.view,m.value,m.prep,⟨0,0⟩,bk0⟩:wY)=qh m:=by simp [qh,hk]
 rw [eb] at c4_2
 have hbk:(qh m).b.k≠2:=by simp [qh,hk]
 have ld:=xk c4_2 hbk
 have sl:=Qe c4_1 (qh m)
 have fin:=xk (wP B4 1 (qh m)) hbk
 have hcb:(qh m).b.k≤2:=by simp [qh,hk]
 conv at hr =>
  rhs
  rw [hTe]
  simp only [jv.code,jv.rs,zSs,reduceIte,zk,zn,zo,zq,Zc,a1,a2,zO,jc,wQ p0,yJ p0,kT (y0:=.int .i64 m.kind) (y1:=.int .i64 m.frm) rfl rfl,s0,wQ b0,jm,s1,qg b0,ji,s2,yX b0,yX c1_0,jh,s3,sq,yO c1_0,yO c2_0,yC c2_0,zY,zY,s4,yC c2_0,yC c3_0,decide_eq_false (show ¬ m.kind=0 by omega),decide_eq_false (show ¬ m.kind=1 by omega),decide_eq_false (show ¬ m.kind=2 by omega),decide_eq_true hk,Ja,ld,sl]
 rw [hTe] at hr
 exact jv.runs hr (.inr rfl) fin (all1 (yL hm.b.okl.le)) (yL hcb)
theorem jv.v4 {m:wY} (hm:m.Ok) (hk:m.kind=4) (S:zx):jd zi O jv.id [mv m] S=some (mv (qh m),S):=by
 obtain ⟨T,hTe⟩:∃ T,T=(mv m::zh::zh::zh::zh::zh::zh::zh::zh::zh::zh::zh::zh::zh::zh::zh::zh::zh::zh::zh::zh::zh::zh::zh::zh::zh::zh::zh::zh::zh::zh::zh::zh::zh::zh::zh::zh::zh::zh::zh::zh::zh::zh::zh::zh::zh::[]):=⟨_,rfl⟩
 have hr:zL zi O false jv.code T zx.empty=zL zi O false jv.code T zx.empty:=rfl
 obtain ⟨A1,hA1⟩:∃ A,A=(Y5 m).push (.cells (fM m0) (.own []) 0):=⟨_,rfl⟩
 have a1:yR zi 48 (Y5 m)=some (.pointer (some ⟨1,0,none⟩),A1):=by rw [hA1];exact Xr _
 have p0:A1.get 0=some (.cells (fM m) (.own []) 0):=by rw [hA1];kernel_rfl
 obtain ⟨A2,hA2⟩:∃ A,A=A1.push (.cells (fM m0) (.own []) 0):=⟨_,rfl⟩
 have a2:yR zi 48 A1=some (.pointer (some ⟨2,0,none⟩),A2):=by rw [hA2,hA1];exact Xr _
 have q0:A2.get 0=some (.cells (fM m) (.own []) 0):=by rw [hA2,hA1];kernel_rfl
 have q1:A2.get 1=some (.cells (fM m0) (.own []) 0):=by rw [hA2,hA1];kernel_rfl
 have q2:A2.get 2=some (.cells (fM m0) (.own []) 0):=by rw [hA2,hA1];kernel_rfl
 have s0:wS zi 48 (.pointer (some ⟨2,0,none⟩)) (.agg [Value.int .i64 m.kind,.int .i64 m.frm,.int .i64 0,.int .i64 0,.int .i64 0,.int .i64 0,.int .i64 0,.int .i64 0,.int .i64 0,.int .i64 0,.int .i64 0,.int .i64 0,.slice none 0 0].toArray) A2=some (zh,kF A2 2 (⟨m.kind,m.frm,0,0,0,0,⟨0,0⟩,bk0⟩:wY)):=Qe q2 (⟨m.kind,m.frm,0,0,0,0,⟨0,0⟩,bk0⟩:wY)
 have b0:(kF A2 2 (⟨m.kind,m.frm,0,0,0,0,⟨0,0⟩,bk0⟩:wY)).get 0=some (.cells (fM m) (.own []) 0):=(yF (by decide)).trans q0
 have b1:(kF A2 2 (⟨m.kind,m.frm,0,0,0,0,⟨0,0⟩,bk0⟩:wY)).get 1=some (.cells (fM m0) (.own []) 0):=(yF (by decide)).trans q1
 have b2:=wP A2 2 (⟨m.kind,m.frm,0,0,0,0,⟨0,0⟩,bk0⟩:wY)
 generalize hB0:kF A2 2 (⟨m.kind,m.frm,0,0,0,0,⟨0,0⟩,bk0⟩:wY)=B0 at s0 b0 b1 b2
 have s1:=ajq b2 m.view
 have c1_0:(kF B0 2 (⟨m.kind,m.frm,0,m.view,0,0,⟨0,0⟩,bk0⟩:wY)).get 0=some (.cells (fM m) (.own []) 0):=(yF (by decide)).trans b0
 have c1_1:(kF B0 2 (⟨m.kind,m.frm,0,m.view,0,0,⟨0,0⟩,bk0⟩:wY)).get 1=some (.cells (fM m0) (.own []) 0):=(yF (by decide)).trans b1
 have c1_2:=wP B0 2 (⟨m.kind,m.frm,0,m.view,0,0,⟨0,0⟩,bk0⟩:wY)
 dsimp only at s1
 generalize hB1:kF B0 2 (⟨m.kind,m.frm,0,m.view,0,0,⟨0,0⟩,bk0⟩:wY)=B1 at s1  c1_0 c1_1 c1_2
 have s2:=aiq c1_2 m.index
 have sq:=WR (o:=0+4) (x:=(⟨m.kind,m.frm,m.index,m.view,0,0,⟨0,0⟩,bk0⟩:wY)) c1_0 (show (0:Nat)≠2 by decide)
 have c2_0:(kF B1 2 (⟨m.kind,m.frm,m.index,m.view,0,0,⟨0,0⟩,bk0⟩:wY)).get 0=some (.cells (fM m) (.own []) 0):=(yF (by decide)).trans c1_0
 have c2_1:(kF B1 2 (⟨m.kind,m.frm,m.index,m.view,0,0,⟨0,0⟩,bk0⟩:wY)).get 1=some (.cells (fM m0) (.own []) 0):=(yF (by decide)).trans c1_1
 have c2_2:=wP B1 2 (⟨m.kind,m.frm,m.index,m.view,0,0,⟨0,0⟩,bk0⟩:wY)
 dsimp only at s2
 generalize hB2:kF B1 2 (⟨m.kind,m.frm,m.index,m.view,0,0,⟨0,0⟩,bk0⟩:wY)=B2 at s2 sq c2_0 c2_1 c2_2
 have s3:=afK c2_2 m.value
 have c3_0:(kF B2 2 (⟨m.kind,m.frm,m.index,m.view,m.value,0,⟨0,0⟩,bk0⟩:wY)).get 0=some (.cells (fM m) (.own []) 0):=(yF (by decide)).trans c2_0
 have c3_1:(kF B2 2 (⟨m.kind,m.frm,m.index,m.view,m.value,0,⟨0,0⟩,bk0⟩:wY)).get 1=some (.cells (fM m0) (.own []) 0):=(yF (by decide)).trans c2_1
 have c3_2:=wP B2 2 (⟨m.kind,m.frm,m.index,m.view,m.value,0,⟨0,0⟩,bk0⟩:wY)
 dsimp only at s3
 generalize hB3:kF B2 2 (⟨m.kind,m.frm,m.index,m.view,m.value,0,⟨0,0⟩,bk0⟩:wY)=B3 at s3  c3_0 c3_1 c3_2
 have eb:(⟨m.kind,m.frm,m.index,m.view,m.value,0,⟨0,0⟩,bk0⟩:wY)=qh m:=by simp [qh,hk]
 rw [eb] at c3_2
 have hbk:(qh m).b.k≠2:=by simp [qh,hk]
 have ld:=xk c3_2 hbk
 have sl:=Qe c3_1 (qh m)
 have fin:=xk (wP B3 1 (qh m)) hbk
 have hcb:(qh m).b.k≤2:=by simp [qh,hk]
 conv at hr =>
  rhs
  rw [hTe]
  simp only [jv.code,jv.rs,zSs,reduceIte,zk,zn,zo,zq,Zc,a1,a2,zO,jc,wQ p0,yJ p0,kT (y0:=.int .i64 m.kind) (y1:=.int .i64 m.frm) rfl rfl,s0,wQ b0,ji,s1,yX b0,jh,s2,sq,yO b0,yO c1_0,yC c1_0,zY,zY,s3,yC c1_0,yC c2_0,decide_eq_false (show ¬ m.kind=0 by omega),decide_eq_false (show ¬ m.kind=1 by omega),decide_eq_false (show ¬ m.kind=2 by omega),decide_eq_false (show ¬ m.kind=3 by omega),decide_eq_true hk,decide_eq_false (show ¬ m.kind=5 by omega),decide_eq_false (show ¬ m.kind=6 by omega),Ja,ld,sl]
 rw [hTe] at hr
 exact jv.runs hr (.inr rfl) fin (all1 (yL hm.b.okl.le)) (yL hcb)
theorem jv.v5 {m:wY} (hm:m.Ok) (hk:m.kind=5) (S:zx):jd zi O jv.id [mv m] S=some (mv (qh m),S):=by
 obtain ⟨T,hTe⟩:∃ T,T=(mv m::zh::zh::zh::zh::zh::zh::zh::zh::zh::zh::zh::zh::zh::zh::zh::zh::zh::zh::zh::zh::zh::zh::zh::zh::zh::zh::zh::zh::zh::zh::zh::zh::zh::zh::zh::zh::zh::zh::zh::zh::zh::zh::zh::zh::zh::[]):=⟨_,rfl⟩
 have hr:zL zi O false jv.code T zx.empty=zL zi O false jv.code T zx.empty:=rfl
 obtain ⟨A1,hA1⟩:∃ A,A=(Y5 m).push (.cells (fM m0) (.own []) 0):=⟨_,rfl⟩
 have a1:yR zi 48 (Y5 m)=some (.pointer (some ⟨1,0,none⟩),A1):=by rw [hA1];exact Xr _
 have p0:A1.get 0=some (.cells (fM m) (.own []) 0):=by rw [hA1];kernel_rfl
 obtain ⟨A2,hA2⟩:∃ A,A=A1.push (.cells (fM m0) (.own []) 0):=⟨_,rfl⟩
 have a2:yR zi 48 A1=some (.pointer (some ⟨2,0,none⟩),A2):=by rw [hA2,hA1];exact Xr _
 have q0:A2.get 0=some (.cells (fM m) (.own []) 0):=by rw [hA2,hA1];kernel_rfl
 have q1:A2.get 1=some (.cells (fM m0) (.own []) 0):=by rw [hA2,hA1];kernel_rfl
 have q2:A2.get 2=some (.cells (fM m0) (.own []) 0):=by rw [hA2,hA1];kernel_rfl
 have s0:wS zi 48 (.pointer (some ⟨2,0,none⟩)) (.agg [Value.int .i64 m.kind,.int .i64 m.frm,.int .i64 0,.int .i64 0,.int .i64 0,.int .i64 0,.int .i64 0,.int .i64 0,.int .i64 0,.int .i64 0,.int .i64 0,.int .i64 0,.slice none 0 0].toArray) A2=some (zh,kF A2 2 (⟨m.kind,m.frm,0,0,0,0,⟨0,0⟩,bk0⟩:wY)):=Qe q2 (⟨m.kind,m.frm,0,0,0,0,⟨0,0⟩,bk0⟩:wY)
 have b0:(kF A2 2 (⟨m.kind,m.frm,0,0,0,0,⟨0,0⟩,bk0⟩:wY)).get 0=some (.cells (fM m) (.own []) 0):=(yF (by decide)).trans q0
 have b1:(kF A2 2 (⟨m.kind,m.frm,0,0,0,0,⟨0,0⟩,bk0⟩:wY)).get 1=some (.cells (fM m0) (.own []) 0):=(yF (by decide)).trans q1
 have b2:=wP A2 2 (⟨m.kind,m.frm,0,0,0,0,⟨0,0⟩,bk0⟩:wY)
 generalize hB0:kF A2 2 (⟨m.kind,m.frm,0,0,0,0,⟨0,0⟩,bk0⟩:wY)=B0 at s0 b0 b1 b2
 have s1:=ajq b2 m.view
 have c1_0:(kF B0 2 (⟨m.kind,m.frm,0,m.view,0,0,⟨0,0⟩,bk0⟩:wY)).get 0=some (.cells (fM m) (.own []) 0):=(yF (by decide)).trans b0
 have c1_1:(kF B0 2 (⟨m.kind,m.frm,0,m.view,0,0,⟨0,0⟩,bk0⟩:wY)).get 1=some (.cells (fM m0) (.own []) 0):=(yF (by decide)).trans b1
 have c1_2:=wP B0 2 (⟨m.kind,m.frm,0,m.view,0,0,⟨0,0⟩,bk0⟩:wY)
 dsimp only at s1
 generalize hB1:kF B0 2 (⟨m.kind,m.frm,0,m.view,0,0,⟨0,0⟩,bk0⟩:wY)=B1 at s1  c1_0 c1_1 c1_2
 have s2:=aiq c1_2 m.index
 have sq:=WR (o:=0+4) (x:=(⟨m.kind,m.frm,m.index,m.view,0,0,⟨0,0⟩,bk0⟩:wY)) c1_0 (show (0:Nat)≠2 by decide)
 have c2_0:(kF B1 2 (⟨m.kind,m.frm,m.index,m.view,0,0,⟨0,0⟩,bk0⟩:wY)).get 0=some (.cells (fM m) (.own []) 0):=(yF (by decide)).trans c1_0
 have c2_1:(kF B1 2 (⟨m.kind,m.frm,m.index,m.view,0,0,⟨0,0⟩,bk0⟩:wY)).get 1=some (.cells (fM m0) (.own []) 0):=(yF (by decide)).trans c1_1
 have c2_2:=wP B1 2 (⟨m.kind,m.frm,m.index,m.view,0,0,⟨0,0⟩,bk0⟩:wY)
 dsimp only at s2
 generalize hB2:kF B1 2 (⟨m.kind,m.frm,m.index,m.view,0,0,⟨0,0⟩,bk0⟩:wY)=B2 at s2 sq c2_0 c2_1 c2_2
 have s3:=afK c2_2 m.value
 have c3_0:(kF B2 2 (⟨m.kind,m.frm,m.index,m.view,m.value,0,⟨0,0⟩,bk0⟩:wY)).get 0=some (.cells (fM m) (.own []) 0):=(yF (by decide)).trans c2_0
 have c3_1:(kF B2 2 (⟨m.kind,m.frm,m.index,m.view,m.value,0,⟨0,0⟩,bk0⟩:wY)).get 1=some (.cells (fM m0) (.own []) 0):=(yF (by decide)).trans c2_1
 have c3_2:=wP B2 2 (⟨m.kind,m.frm,m.index,m.view,m.value,0,⟨0,0⟩,bk0⟩:wY)
 dsimp only at s3
 generalize hB3:kF B2 2 (⟨m.kind,m.frm,m.index,m.view,m.value,0,⟨0,0⟩,bk0⟩:wY)=B3 at s3  c3_0 c3_1 c3_2
 have eb:(⟨m.kind,m.frm,m.index,m.view,m.value,0,⟨0,0⟩,bk0⟩:wY)=qh m:=by simp [qh,hk]
 rw [eb] at c3_2
 have hbk:(qh m).b.k≠2:=by simp [qh,hk]
 have ld:=xk c3_2 hbk
 have sl:=Qe c3_1 (qh m)
 have fin:=xk (wP B3 1 (qh m)) hbk
 have hcb:(qh m).b.k≤2:=by simp [qh,hk]
 conv at hr =>
  rhs
  rw [hTe]
  simp only [jv.code,jv.rs,zSs,reduceIte,zk,zn,zo,zq,Zc,a1,a2,zO,jc,wQ p0,yJ p0,kT (y0:=.int .i64 m.kind) (y1:=.int .i64 m.frm) rfl rfl,s0,wQ b0,ji,s1,yX b0,jh,s2,sq,yO b0,yO c1_0,yC c1_0,zY,zY,s3,yC c1_0,yC c2_0,decide_eq_false (show ¬ m.kind=0 by omega),decide_eq_false (show ¬ m.kind=1 by omega),decide_eq_false (show ¬ m.kind=2 by omega),decide_eq_false (show ¬ m.kind=3 by omega),decide_eq_false (show ¬ m.kind=4 by omega),decide_eq_true hk,Ja,ld,sl]
 rw [hTe] at hr
 exact jv.runs hr (.inr rfl) fin (all1 (yL hm.b.okl.le)) (yL hcb)
theorem jv.v6 {m:wY} (hm:m.Ok) (hk:m.kind=6) (S:zx):jd zi O jv.id [mv m] S=some (mv (qh m),S):=by
 obtain ⟨T,hTe⟩:∃ T,T=(mv m::zh::zh::zh::zh::zh::zh::zh::zh::zh::zh::zh::zh::zh::zh::zh::zh::zh::zh::zh::zh::zh::zh::zh::zh::zh::zh::zh::zh::zh::zh::zh::zh::zh::zh::zh::zh::zh::zh::zh::zh::zh::zh::zh::zh::zh::[]):=⟨_,rfl⟩
 have hr:zL zi O false jv.code T zx.empty=zL zi O false jv.code T zx.empty:=rfl
 obtain ⟨A1,hA1⟩:∃ A,A=(Y5 m).push (.cells (fM m0) (.own []) 0):=⟨_,rfl⟩
 have a1:yR zi 48 (Y5 m)=some (.pointer (some ⟨1,0,none⟩),A1):=by rw [hA1];exact Xr _
 have p0:A1.get 0=some (.cells (fM m) (.own []) 0):=by rw [hA1];kernel_rfl
 obtain ⟨A2,hA2⟩:∃ A,A=A1.push (.cells (fM m0) (.own []) 0):=⟨_,rfl⟩
 have a2:yR zi 48 A1=some (.pointer (some ⟨2,0,none⟩),A2):=by rw [hA2,hA1];exact Xr _
 have q0:A2.get 0=some (.cells (fM m) (.own []) 0):=by rw [hA2,hA1];kernel_rfl
 have q1:A2.get 1=some (.cells (fM m0) (.own []) 0):=by rw [hA2,hA1];kernel_rfl
 have q2:A2.get 2=some (.cells (fM m0) (.own []) 0):=by rw [hA2,hA1];kernel_rfl
 have s0:wS zi 48 (.pointer (some ⟨2,0,none⟩)) (.agg [Value.int .i64 m.kind,.int .i64 m.frm,.int .i64 0,.int .i64 0,.int .i64 0,.int .i64 0,.int .i64 0,.int .i64 0,.int .i64 0,.int .i64 0,.int .i64 0,.int .i64 0,.slice none 0 0].toArray) A2=some (zh,kF A2 2 (⟨m.kind,m.frm,0,0,0,0,⟨0,0⟩,bk0⟩:wY)):=Qe q2 (⟨m.kind,m.frm,0,0,0,0,⟨0,0⟩,bk0⟩:wY)
 have b0:(kF A2 2 (⟨m.kind,m.frm,0,0,0,0,⟨0,0⟩,bk0⟩:wY)).get 0=some (.cells (fM m) (.own []) 0):=(yF (by decide)).trans q0
 have b1:(kF A2 2 (⟨m.kind,m.frm,0,0,0,0,⟨0,0⟩,bk0⟩:wY)).get 1=some (.cells (fM m0) (.own []) 0):=(yF (by decide)).trans q1
 have b2:=wP A2 2 (⟨m.kind,m.frm,0,0,0,0,⟨0,0⟩,bk0⟩:wY)
 generalize hB0:kF A2 2 (⟨m.kind,m.frm,0,0,0,0,⟨0,0⟩,bk0⟩:wY)=B0 at s0 b0 b1 b2
 have s1:=aiq b2 m.index
 have sq:=WR (o:=0+4) (x:=(⟨m.kind,m.frm,m.index,0,0,0,⟨0,0⟩,bk0⟩:wY)) b0 (show (0:Nat)≠2 by decide)
 have c1_0:(kF B0 2 (⟨m.kind,m.frm,m.index,0,0,0,⟨0,0⟩,bk0⟩:wY)).get 0=some (.cells (fM m) (.own []) 0):=(yF (by decide)).trans b0
 have c1_1:(kF B0 2 (⟨m.kind,m.frm,m.index,0,0,0,⟨0,0⟩,bk0⟩:wY)).get 1=some (.cells (fM m0) (.own []) 0):=(yF (by decide)).trans b1
 have c1_2:=wP B0 2 (⟨m.kind,m.frm,m.index,0,0,0,⟨0,0⟩,bk0⟩:wY)
 dsimp only at s1
 generalize hB1:kF B0 2 (⟨m.kind,m.frm,m.index,0,0,0,⟨0,0⟩,bk0⟩:wY)=B1 at s1 sq c1_0 c1_1 c1_2
 have s2:=afK c1_2 m.value
 have c2_0:(kF B1 2 (⟨m.kind,m.frm,m.index,0,m.value,0,⟨0,0⟩,bk0⟩:wY)).get 0=some (.cells (fM m) (.own []) 0):=(yF (by decide)).trans c1_0
 have c2_1:(kF B1 2 (⟨m.kind,m.frm,m.index,0,m.value,0,⟨0,0⟩,bk0⟩:wY)).get 1=some (.cells (fM m0) (.own []) 0):=(yF (by decide)).trans c1_1
 have c2_2:=wP B1 2 (⟨m.kind,m.frm,m.index,0,m.value,0,⟨0,0⟩,bk0⟩:wY)
 dsimp only at s2
 generalize hB2:kF B1 2 (⟨m.kind,m.frm,m.index,0,m.value,0,⟨0,0⟩,bk0⟩:wY)=B2 at s2  c2_0 c2_1 c2_2
 have eb:(⟨m.kind,m.frm,m.index,0,m.value,0,⟨0,0⟩,bk0⟩:wY)=qh m:=by simp [qh,hk]
 rw [eb] at c2_2
 have hbk:(qh m).b.k≠2:=by simp [qh,hk]
 have ld:=xk c2_2 hbk
 have sl:=Qe c2_1 (qh m)
 have fin:=xk (wP B2 1 (qh m)) hbk
 have hcb:(qh m).b.k≤2:=by simp [qh,hk]
 conv at hr =>
  rhs
  rw [hTe]
  simp only [jv.code,jv.rs,zSs,reduceIte,zk,zn,zo,zq,Zc,a1,a2,zO,jc,wQ p0,yJ p0,kT (y0:=.int .i64 m.kind) (y1:=.int .i64 m.frm) rfl rfl,s0,wQ b0,jh,s1,sq,yO b0,yC b0,zY,zY,s2,yC b0,yC c1_0,decide_eq_false (show ¬ m.kind=0 by omega),decide_eq_false (show ¬ m.kind=1 by omega),decide_eq_false (show ¬ m.kind=2 by omega),decide_eq_false (show ¬ m.kind=3 by omega),decide_eq_false (show ¬ m.kind=4 by omega),decide_eq_false (show ¬ m.kind=5 by omega),decide_eq_true hk,Ja,ld,sl]
 rw [hTe] at hr
 exact jv.runs hr (.inr rfl) fin (all1 (yL hm.b.okl.le)) (yL hcb)
theorem jv.v {m:wY} (hm:m.Ok) (h0:0≤m.kind) (h6:m.kind≤6) (S:zx):jd zi O jv.id [mv m] S=some (mv (qh m),S):=by
 have:m.kind=0∨m.kind=1∨m.kind=2∨m.kind=3∨m.kind=4∨m.kind=5∨m.kind=6:=by omega
 rcases this with h | h | h | h | h | h | h
 ·
  exact jv.v0 hm h S
 ·
  exact jv.v1 hm h S
 ·
  exact jv.v2 hm h S
 ·
  exact jv.v3 hm h S
 ·
  exact jv.v4 hm h S
 ·
  exact jv.v5 hm h S
 ·
  exact jv.v6 hm h S
end Go.Proofs.Ytfjogganfjkckaa
namespace Go.Abs
open Go.RowKit
def gv (x b:Bool) (v:Value):Value:=if x=b then v else zh
theorem aiU (x b:Bool) (v:Value):dem (gv x b v)=gv x b (dem v):=by
 unfold gv;split
 ·
  rfl
 ·
  exact Xv
theorem KP {R:Type} {K:Value→zx→Option R} {p:Zf K} {m:M Value} {S:zx} (x b:Bool):gdK (.bool x) b m S K p=if x=b then zN (m S) K p else K zh S:=by
 cases x <;> cases b <;> rfl
section
variable {R:Type} {K:Value→zx→Option R} {p:Zf K} {S:zx} {x b c y z:Bool} {m m':M Value} {P:Program} {O:Ora} {t:TypeId} {v w u:Value}
theorem qY (h:x=b→m S=m' S):gdK (.bool x) b m S K p=gdK (.bool x) b m' S K p:=by
 rw [KP,KP]
 split
 ·
  rename_i hx;rw [h hx]
 ·
  rfl
theorem zA (h:m S=some (v,S)):gdK (.bool x) b m S K p=K (gv x b v) S:=by
 rw [KP]
 unfold gv
 split
 ·
  rw [h];rfl
 ·
  rfl
theorem Wx (h:m S=some (v,S)) (hq:okq 3 v=true):ain (.bool x) b m S K p=K (gv x b v) S:=by
 unfold gv
 cases x <;> cases b <;> first | rfl | (simp only [ach,aci,h,KE,kV hq,if_true])
theorem WB (h:x=b):gv x b v=v:=if_pos h
theorem afh {fx:Bool}:gdK (.bool x) b (jl P fx t (gv x b v)) S K p=gdK (.bool x) b (jl P fx t v) S K p:=qY fun h=>by rw [WB h]
theorem Qz {f:Nat}:gdK (.bool x) b (zG P t (gv x b v) f) S K p=gdK (.bool x) b (zG P t v f) S K p:=qY fun h=>by rw [WB h]
theorem Xp:gdK (.bool x) b (kX (gv x b v)) S K p=gdK (.bool x) b (kX v) S K p:=qY fun h=>by rw [WB h]
theorem ai1:gdK (.bool x) b (ZY P t (gv x b v)) S K p=gdK (.bool x) b (ZY P t v) S K p:=qY fun h=>by rw [WB h]
theorem YS:gdK (.bool x) b (jr P t (gv x b v) w) S K p=gdK (.bool x) b (jr P t v w) S K p:=qY fun h=>by rw [WB h]
theorem Y9:gdK (.bool x) b (jr P t v (gv x b w)) S K p=gdK (.bool x) b (jr P t v w) S K p:=qY fun h=>by rw [WB h]
theorem akO {op:UnOp}:gdK (.bool x) b (aUn P op (gv x b v)) S K p=gdK (.bool x) b (aUn P op v) S K p:=qY fun h=>by rw [WB h]
theorem afG {hp dr:Bool} {t2:TypeId}:gdK (.bool x) b (qL P hp dr t t2 (gv x b v)) S K p=gdK (.bool x) b (qL P hp dr t t2 v) S K p:=qY fun h=>by rw [WB h]
theorem af8 {op:BinOp}:gdK (.bool x) b (wH P op t (gv x b v) w) S K p=gdK (.bool x) b (wH P op t v w) S K p:=qY fun h=>by rw [WB h]
theorem agy {op:BinOp}:gdK (.bool x) b (wH P op t v (gv x b w)) S K p=gdK (.bool x) b (wH P op t v w) S K p:=qY fun h=>by rw [WB h]
theorem adq {g:FuncId} {l:List Value}:gdK (.bool x) b (jd P O g (gv x b v::l)) S K p=gdK (.bool x) b (jd P O g (v::l)) S K p:=qY fun h=>by rw [WB h]
theorem adl {g:FuncId} {l:List Value}:gdK (.bool x) b (jd P O g (u::gv x b v::l)) S K p=gdK (.bool x) b (jd P O g (u::v::l)) S K p:=qY fun h=>by rw [WB h]
theorem abA {g:FuncId} {l:List Value}:gdK (.bool x) b (ZB (jd P O) g (gv x b v::l)) S K p=gdK (.bool x) b (ZB (jd P O) g (v::l)) S K p:=qY fun h=>by rw [WB h]
theorem abh {g:FuncId} {l:List Value}:gdK (.bool x) b (ZB (jd P O) g (u::gv x b v::l)) S K p=gdK (.bool x) b (ZB (jd P O) g (u::v::l)) S K p:=qY fun h=>by rw [WB h]
theorem ai3:gdK (.bool x) b (ret v) S K p=K (gv x b v) S:=zA rfl
theorem ald:gv x b (gv x b v)=gv x b v:=by unfold gv;split <;> rfl
theorem ac2:gdK (gv x c (.bool y)) b m S K p=gdK (.bool ((x == c) && (y == b))) true m S K p:=by
 unfold gv
 cases x <;> cases c <;> cases y <;> cases b <;> rfl
theorem agi {fx:Bool}:gdK (.bool ((x == c) && (y == b))) true (jl P fx t (gv x c v)) S K p=gdK (.bool ((x == c) && (y == b))) true (jl P fx t v) S K p:=qY fun h=>by rw [WB (by simp at h;exact h.1)]
theorem agH {op:BinOp}:gdK (.bool ((x == c) && (y == b))) true (wH P op t (gv x c v) w) S K p=gdK (.bool ((x == c) && (y == b))) true (wH P op t v w) S K p:=qY fun h=>by rw [WB (by simp at h;exact h.1)]
theorem ag9 {op:BinOp}:gdK (.bool ((x == c) && (y == b))) true (wH P op t v (gv x c w)) S K p=gdK (.bool ((x == c) && (y == b))) true (wH P op t v w) S K p:=qY fun h=>by rw [WB (by simp at h;exact h.1)]
theorem aiT:gdK (.bool x) c (wW (gv x c (.bool y)) (.bool true) (gv ((x == c) && (y == false)) true (.bool z))) S K p=K (gv x c (.bool (y || z))) S:=by
 unfold gv
 cases x <;> cases c <;> cases y <;> cases z <;> rfl
theorem agm:gdK (.bool x) c (wW (gv x c (.bool y)) (gv ((x == c) && (y == true)) true (.bool z)) (.bool false)) S K p=K (gv x c (.bool (y && z))) S:=by
 unfold gv
 cases x <;> cases c <;> cases y <;> cases z <;> rfl
theorem ak4:(if x=true then Value.bool true else gv x false (.bool y))=.bool (x || y):=by cases x <;> rfl
theorem aiH:(if x=true then gv x true (.bool y) else Value.bool false)=.bool (x && y):=by cases x <;> rfl
theorem akF:gv true true v=v:=rfl
theorem akX:gv false false v=v:=rfl
theorem ak1:gv true false v=zh:=rfl
theorem akR:gv false true v=zh:=rfl
theorem aiM {k:IntKind} {a d:Int}:gdK (.bool x) b (wH P .lss t (.int k a) (.int k d)) S K p=K (gv x b (.bool (decide (a < d)))) S:=zA (VX k a d)
theorem aiD {k:IntKind} {a d:Int}:gdK (.bool x) b (wH P .leq t (.int k a) (.int k d)) S K p=K (gv x b (.bool (decide (a≤d)))) S:=zA (VZ k a d)
theorem aiC {k:IntKind} {a d:Int}:gdK (.bool x) b (wH P .gtr t (.int k a) (.int k d)) S K p=K (gv x b (.bool (decide (d < a)))) S:=zA (VF k a d)
theorem aiX {k:IntKind} {a d:Int}:gdK (.bool x) b (wH P .geq t (.int k a) (.int k d)) S K p=K (gv x b (.bool (decide (d≤a)))) S:=zA (aaT k a d)
theorem ajf {k:IntKind} {a d:Int}:gdK (.bool x) b (wH P .eql t (.int k a) (.int k d)) S K p=K (gv x b (.bool (decide (a=d)))) S:=zA (VQ k a d)
theorem aiW {k:IntKind} {a d:Int}:gdK (.bool x) b (wH P .neq t (.int k a) (.int k d)) S K p=K (gv x b (.bool (!decide (a=d)))) S:=zA (V3 k a d)
theorem ai6 {k:IntKind} {a d:Int}:gdK (.bool x) b (wH P .add t (.int k a) (.int k d)) S K p=K (gv x b (.int k (k.wrap (a+d)))) S:=zA (aaf k a d)
theorem aiV {k:IntKind} {a d:Int}:gdK (.bool x) b (wH P .sub t (.int k a) (.int k d)) S K p=K (gv x b (.int k (k.wrap (a - d)))) S:=zA (aaw k a d)
theorem ajh:gdK (.bool x) b (aUn P .not (.bool y)) S K p=K (gv x b (.bool (!y))) S:=zA (by cases y <;> rfl)
end
theorem gvw:type_of% (alY @aiU (alY @afh (alY @Qz (alY @Xp (alY @ai1 (alY @YS (alY @Y9 (alY @akO (alY @afG (alY @af8 (alY @agy (alY @adq (alY @adl (alY @abA (alY @abh (alY @ai3 (alY @ald (alY @ac2 (alY @agi (alY @agH (alY @ag9 (alY @aiT (alY @agm (alY @ak4 (alY @aiH (alY @akF (alY @akX (alY @ak1 (alY @akR (alY @aiM (alY @aiD (alY @aiC (alY @aiX (alY @ajf (alY @aiW (alY @ai6 (alY @aiV @ajh))))))))))))))))))))))))))))))))))))) :=
 alY @aiU (alY @afh (alY @Qz (alY @Xp (alY @ai1 (alY @YS (alY @Y9 (alY @akO (alY @afG (alY @af8 (alY @agy (alY @adq (alY @adl (alY @abA (alY @abh (alY @ai3 (alY @ald (alY @ac2 (alY @agi (alY @agH (alY @ag9 (alY @aiT (alY @agm (alY @ak4 (alY @aiH (alY @akF (alY @akX (alY @ak1 (alY @akR (alY @aiM (alY @aiD (alY @aiC (alY @aiX (alY @ajf (alY @aiW (alY @ai6 (alY @aiV @ajh))))))))))))))))))))))))))))))))))))
end Go.Abs
namespace Go.Proofs.Ytfjogganfjkckaa
open Go.Abs
def nameB (n:Int):Bool:=decide (n=0) || xI n
theorem afH {n:Int} (h:n < 0):xI n=false:=by
 rw [Bool.eq_false_iff];intro h2;have:=vV.1 h2;omega
theorem aio (n:Int):decide (0 < Y3 n)=xI n:=by
 rw [Bool.eq_iff_iff,decide_eq_true_eq]
 unfold Y3
 constructor
 ·
  intro h;split at h
  ·
   assumption
  ·
   omega
 ·
  intro h
  have:=vV.1 h
  rw [if_pos h];omega
theorem jJ.v {n:Int} (hn:n < 9223372036854775808) (S:zx):jd zi O jJ.id [.int .i64 n] S=some (.bool (nameB n),S):=by
 obtain ⟨T,hTe⟩:∃ T,T=(.int .i64 n::zh::zh::zh::zh::zh::zh::zh::zh::zh::zh::zh::zh::zh::zh::zh::zh::zh::zh::[]):=⟨_,rfl⟩
 have hr:zL zi O false jJ.code T S=zL zi O false jJ.code T S:=rfl
 have c1:=fun S=>jo.v n hn S
 obtain ⟨a,b,c,e⟩:∃ a b c,abq n=.tuple #[.int .i64 a,.int .i64 b,.int .i64 c,.bool (xI n)]:=by
  unfold abq
  by_cases h:n < 0
  ·
   exact ⟨0,0,0,by rw [if_pos h,afH h]⟩
  ·
   exact ⟨_,_,_,by rw [if_neg h]⟩
 rw [e] at c1
 unfold nameB
 conv at hr =>
  rhs
  rw [hTe]
  simp only [jJ.code,jJ.rs,zSs,reduceIte,zk,zn,zo,zq,c1,gvw]
 rw [hTe] at hr
 exact jJ.runs hr (.inr rfl)
theorem jK.v {b:vk} (hb:b.Ok) (S:zx):jd zi O jK.id [bv b] S=some (.bool (Jh b bk0),S):=by
 obtain ⟨T,hTe⟩:∃ T,T=(bv b::zh::zh::zh::zh::zh::[]):=⟨_,rfl⟩
 have hr:zL zi O false jK.code T zx.empty=zL zi O false jK.code T zx.empty:=rfl
 have c1:∀ S,jd zi O 18 [bv b,.agg [Value.int .i64 0,.int .i64 0,.int .i64 0,.int .i64 0,.slice none 0 0].toArray] S=some (.bool (Jh b bk0),S):=fun S=>jE.v hb ok0 S
 conv at hr =>
  rhs
  rw [hTe]
  simp only [jK.code,jK.rs,zSs,reduceIte,zk,zn,zo,zq,J5,XB (qp b) hb.ne,WH,c1]
 rw [hTe] at hr
 exact jK.runs hr (.inr rfl) (all1 (yP hb.okl.le)) rfl
def Zj (m:wY):Bool:=((!decide (m.kind=0) && !decide (m.tx=⟨0,0⟩)) || (!decide (m.kind=1) && !Jh m.b bk0)) || (!decide (m.kind=3) && !decide (m.prep=0))
def aaW (m:wY):Bool:=decide (0≤m.index) && decide (m.index≤1000)
def vwB (m:wY):Bool:=decide (0≤m.view) && decide (m.view≤1000)
def Zy (m:wY):Bool :=
 if m.kind=0 then ((decide (m.index=0) && decide (m.view=0)) && decide (m.value=0)) && qF m.tx
 else if m.kind=1 then ((decide (m.index=0) && decide (m.view=0)) && decide (m.value=0)) && jZ m.b
 else if m.kind=2 then (decide (m.index=0) && decide (m.view=0)) && nameB m.value
 else if m.kind=3 then ((((aaW m) && (vwB m)) && nameB m.value) && decide (-1≤m.prep)) && decide (m.prep < m.view)
 else if m.kind=4∨m.kind=5 then ((aaW m) && (vwB m)) && (decide (m.value=-1) || nameB m.value)
 else if m.kind=6 then ((aaW m) && decide (m.view=0)) && nameB m.value
 else false
def Zb (m:wY):Bool:=if decide (m.frm < 0) || decide (6 < m.frm) then false else if Zj m then false else Zy m
theorem Wy (t u:TxV) (S:zx):wH zi .neq 43 (tv t) (tv u) S=some (.bool (!decide (t=u)),S):=(ahu t u S).2
theorem zu.v0 {m:wY} (hm:m.Ok) (hk:m.kind=0) (S:zx):jd zi O zu.id [mv m] S=some (.bool (Zb m),S):=by
 obtain ⟨T,hTe⟩:∃ T,T=(mv m::zh::zh::zh::zh::zh::zh::zh::zh::zh::zh::zh::zh::zh::zh::zh::zh::zh::zh::zh::zh::zh::zh::zh::zh::zh::zh::zh::zh::zh::zh::zh::zh::zh::zh::zh::zh::zh::zh::zh::zh::zh::zh::zh::zh::zh::zh::zh::zh::zh::zh::zh::zh::zh::zh::zh::zh::zh::zh::zh::zh::zh::zh::zh::zh::zh::zh::zh::zh::zh::zh::zh::zh::zh::zh::zh::zh::zh::zh::zh::zh::zh::zh::zh::zh::zh::zh::zh::zh::zh::zh::zh::zh::zh::zh::zh::zh::zh::zh::zh::zh::zh::zh::zh::zh::zh::zh::zh::zh::zh::zh::zh::zh::zh::zh::zh::zh::zh::zh::zh::zh::zh::zh::zh::zh::zh::zh::zh::zh::zh::zh::zh::zh::zh::zh::zh::zh::zh::zh::zh::zh::zh::zh::zh::zh::zh::zh::zh::zh::zh::zh::zh::zh::zh::zh::zh::zh::zh::zh::zh::zh::zh::zh::zh::zh::zh::zh::zh::zh::[]):=⟨_,rfl⟩
 have hr:zL zi O false zu.code T zx.empty=zL zi O false zu.code T zx.empty:=rfl
 have g0:=xK m
 have c1:=fun S=>jK.v hm.b S
 have c2:=fun S=>jJ.v hm.value.2 S
 have c3:=fun S=>jC.v m.tx S
 have c4:=fun S=>zI.v hm.b S
 have hc:[mv m].all (jL 16)=true:=all1 (yL hm.b.okl.le)
 have eT:∀ S,wH zi .neq 43 (tv m.tx) (.agg [Value.int .i64 0,.int .i64 0].toArray) S=some (.bool (!decide (m.tx=⟨0,0⟩)),S):=fun S=>Wy m.tx ⟨0,0⟩ S
 have k0:decide (m.kind=0)=true:=decide_eq_true hk
 have k1:decide (m.kind=1)=false:=decide_eq_false (by omega)
 have k2:decide (m.kind=2)=false:=decide_eq_false (by omega)
 have k3:decide (m.kind=3)=false:=decide_eq_false (by omega)
 have k4:decide (m.kind=4)=false:=decide_eq_false (by omega)
 have k5:decide (m.kind=5)=false:=decide_eq_false (by omega)
 have k6:decide (m.kind=6)=false:=decide_eq_false (by omega)
 have ek:Zy m=(((decide (m.index=0) && decide (m.view=0)) && decide (m.value=0)) && qF m.tx):=by simp only [Zy,hk,aaW,vwB,zn,if_true,if_false,reduceIte,or_true,true_or,or_false,or_self]
 unfold Zb
 rw [ek]
 obtain ⟨c,hc0⟩:∃ b,(decide (m.frm < 0) || decide (6 < m.frm))=b:=⟨_,rfl⟩
 obtain ⟨d,hd⟩:∃ b,Zj m=b:=⟨_,rfl⟩
 have hd2:=hd
 unfold Zj at hd2
 simp only [k0,k1,k2,k3,k4,k5,k6,Bool.not_true,Bool.not_false,Bool.true_and,Bool.false_and,Bool.or_false,Bool.false_or] at hd2
 rw [hc0,hd]
 cases c
 ·
  cases d
  ·
   simp only [Bool.false_eq_true,if_false]
   conv at hr =>
    rhs
    rw [hTe]
    simp only [zu.code,zu.rs,zSs,reduceIte,zk,zn,zo,zq,Zc,zO,jc,jh,ji,zY,jm,jk,jg,wQ g0,yJ g0,yO g0,yX g0,yC g0,qg g0,ql g0,y9 g0 hm.b.ne,wC,eT,c1,c2,c3,c4,zA (zO _ _ _),zA (jc _ _ _),zA (jh _ _ _),zA (ji _ _ _),zA (zY _ _ _),zA (jm _ _ _),zA (jk _ _ _),zA (jg _ _ _),zA (wQ g0),zA (yJ g0),zA (yO g0),zA (yX g0),zA (yC g0),zA (qg g0),zA (ql g0),zA (y9 g0 hm.b.ne),zA (wC _),zA (eT _),zA (c1 _),zA (c2 _),zA (c3 _),zA (c4 _),gvw,k0,k1,k2,k3,k4,k5,k6,hc0,hd2,Bool.not_true,Bool.not_false,Bool.true_and,Bool.false_and,Bool.or_false,Bool.false_or]
   rw [hTe] at hr
   exact zu.runs hr (.inr rfl) hc rfl
  ·
   simp only [Bool.false_eq_true,if_false,if_true]
   conv at hr =>
    rhs
    rw [hTe]
    simp only [zu.code,zu.rs,zSs,reduceIte,zk,zn,zo,zq,Zc,zO,jc,jh,ji,zY,jm,jk,jg,wQ g0,yJ g0,yO g0,yX g0,yC g0,qg g0,ql g0,y9 g0 hm.b.ne,wC,eT,c1,c2,c3,c4,zA (zO _ _ _),zA (jc _ _ _),zA (jh _ _ _),zA (ji _ _ _),zA (zY _ _ _),zA (jm _ _ _),zA (jk _ _ _),zA (jg _ _ _),zA (wQ g0),zA (yJ g0),zA (yO g0),zA (yX g0),zA (yC g0),zA (qg g0),zA (ql g0),zA (y9 g0 hm.b.ne),zA (wC _),zA (eT _),zA (c1 _),zA (c2 _),zA (c3 _),zA (c4 _),gvw,k0,k1,k2,k3,k4,k5,k6,hc0,hd2,Bool.not_true,Bool.not_false,Bool.true_and,Bool.false_and,Bool.or_false,Bool.false_or]
   rw [hTe] at hr
   exact zu.runs hr (.inr rfl) hc rfl
 ·
  simp only [if_true]
  conv at hr =>
   rhs
   rw [hTe]
   simp only [zu.code,zu.rs,zSs,reduceIte,zk,zn,zo,zq,Zc,zO,jc,jh,ji,zY,jm,jk,jg,wQ g0,yJ g0,yO g0,yX g0,yC g0,qg g0,ql g0,y9 g0 hm.b.ne,wC,eT,c1,c2,c3,c4,zA (zO _ _ _),zA (jc _ _ _),zA (jh _ _ _),zA (ji _ _ _),zA (zY _ _ _),zA (jm _ _ _),zA (jk _ _ _),zA (jg _ _ _),zA (wQ g0),zA (yJ g0),zA (yO g0),zA (yX g0),zA (yC g0),zA (qg g0),zA (ql g0),zA (y9 g0 hm.b.ne),zA (wC _),zA (eT _),zA (c1 _),zA (c2 _),zA (c3 _),zA (c4 _),gvw,k0,k1,k2,k3,k4,k5,k6,hc0]
  rw [hTe] at hr
  exact zu.runs hr (.inr rfl) hc rfl
theorem zu.v1 {m:wY} (hm:m.Ok) (hk:m.kind=1) (S:zx):jd zi O zu.id [mv m] S=some (.bool (Zb m),S):=by
 obtain ⟨T,hTe⟩:∃ T,T=(mv m::zh::zh::zh::zh::zh::zh::zh::zh::zh::zh::zh::zh::zh::zh::zh::zh::zh::zh::zh::zh::zh::zh::zh::zh::zh::zh::zh::zh::zh::zh::zh::zh::zh::zh::zh::zh::zh::zh::zh::zh::zh::zh::zh::zh::zh::zh::zh::zh::zh::zh::zh::zh::zh::zh::zh::zh::zh::zh::zh::zh::zh::zh::zh::zh::zh::zh::zh::zh::zh::zh::zh::zh::zh::zh::zh::zh::zh::zh::zh::zh::zh::zh::zh::zh::zh::zh::zh::zh::zh::zh::zh::zh::zh::zh::zh::zh::zh::zh::zh::zh::zh::zh::zh::zh::zh::zh::zh::zh::zh::zh::zh::zh::zh::zh::zh::zh::zh::zh::zh::zh::zh::zh::zh::zh::zh::zh::zh::zh::zh::zh::zh::zh::zh::zh::zh::zh::zh::zh::zh::zh::zh::zh::zh::zh::zh::zh::zh::zh::zh::zh::zh::zh::zh::zh::zh::zh::zh::zh::zh::zh::zh::zh::zh::zh::zh::zh::zh::zh::[]):=⟨_,rfl⟩
 have hr:zL zi O false zu.code T zx.empty=zL zi O false zu.code T zx.empty:=rfl
 have g0:=xK m
 have c1:=fun S=>jK.v hm.b S
 have c2:=fun S=>jJ.v hm.value.2 S
 have c3:=fun S=>jC.v m.tx S
 have c4:=fun S=>zI.v hm.b S
 have hc:[mv m].all (jL 16)=true:=all1 (yL hm.b.okl.le)
 have eT:∀ S,wH zi .neq 43 (tv m.tx) (.agg [Value.int .i64 0,.int .i64 0].toArray) S=some (.bool (!decide (m.tx=⟨0,0⟩)),S):=fun S=>Wy m.tx ⟨0,0⟩ S
 have k0:decide (m.kind=0)=false:=decide_eq_false (by omega)
 have k1:decide (m.kind=1)=true:=decide_eq_true hk
 have k2:decide (m.kind=2)=false:=decide_eq_false (by omega)
 have k3:decide (m.kind=3)=false:=decide_eq_false (by omega)
 have k4:decide (m.kind=4)=false:=decide_eq_false (by omega)
 have k5:decide (m.kind=5)=false:=decide_eq_false (by omega)
 have k6:decide (m.kind=6)=false:=decide_eq_false (by omega)
 have ek:Zy m=(((decide (m.index=0) && decide (m.view=0)) && decide (m.value=0)) && jZ m.b):=by simp only [Zy,hk,aaW,vwB,zn,if_true,if_false,reduceIte,or_true,true_or,or_false,or_self]
 unfold Zb
 rw [ek]
 obtain ⟨c,hc0⟩:∃ b,(decide (m.frm < 0) || decide (6 < m.frm))=b:=⟨_,rfl⟩
 obtain ⟨d,hd⟩:∃ b,Zj m=b:=⟨_,rfl⟩
 have hd2:=hd
 unfold Zj at hd2
 simp only [k0,k1,k2,k3,k4,k5,k6,Bool.not_true,Bool.not_false,Bool.true_and,Bool.false_and,Bool.or_false,Bool.false_or] at hd2
 rw [hc0,hd]
 cases c
 ·
  cases d
  ·
   simp only [Bool.false_eq_true,if_false]
   conv at hr =>
    rhs
    rw [hTe]
    simp only [zu.code,zu.rs,zSs,reduceIte,zk,zn,zo,zq,Zc,zO,jc,jh,ji,zY,jm,jk,jg,wQ g0,yJ g0,yO g0,yX g0,yC g0,qg g0,ql g0,y9 g0 hm.b.ne,wC,eT,c1,c2,c3,c4,zA (zO _ _ _),zA (jc _ _ _),zA (jh _ _ _),zA (ji _ _ _),zA (zY _ _ _),zA (jm _ _ _),zA (jk _ _ _),zA (jg _ _ _),zA (wQ g0),zA (yJ g0),zA (yO g0),zA (yX g0),zA (yC g0),zA (qg g0),zA (ql g0),zA (y9 g0 hm.b.ne),zA (wC _),zA (eT _),zA (c1 _),zA (c2 _),zA (c3 _),zA (c4 _),gvw,k0,k1,k2,k3,k4,k5,k6,hc0,hd2,Bool.not_true,Bool.not_false,Bool.true_and,Bool.false_and,Bool.or_false,Bool.false_or]
   rw [hTe] at hr
   exact zu.runs hr (.inr rfl) hc rfl
  ·
   simp only [Bool.false_eq_true,if_false,if_true]
   conv at hr =>
    rhs
    rw [hTe]
    simp only [zu.code,zu.rs,zSs,reduceIte,zk,zn,zo,zq,Zc,zO,jc,jh,ji,zY,jm,jk,jg,wQ g0,yJ g0,yO g0,yX g0,yC g0,qg g0,ql g0,y9 g0 hm.b.ne,wC,eT,c1,c2,c3,c4,zA (zO _ _ _),zA (jc _ _ _),zA (jh _ _ _),zA (ji _ _ _),zA (zY _ _ _),zA (jm _ _ _),zA (jk _ _ _),zA (jg _ _ _),zA (wQ g0),zA (yJ g0),zA (yO g0),zA (yX g0),zA (yC g0),zA (qg g0),zA (ql g0),zA (y9 g0 hm.b.ne),zA (wC _),zA (eT _),zA (c1 _),zA (c2 _),zA (c3 _),zA (c4 _),gvw,k0,k1,k2,k3,k4,k5,k6,hc0,hd2,Bool.not_true,Bool.not_false,Bool.true_and,Bool.false_and,Bool.or_false,Bool.false_or]
   rw [hTe] at hr
   exact zu.runs hr (.inr rfl) hc rfl
 ·
  simp only [if_true]
  conv at hr =>
   rhs
   rw [hTe]
   simp only [zu.code,zu.rs,zSs,reduceIte,zk,zn,zo,zq,Zc,zO,jc,jh,ji,zY,jm,jk,jg,wQ g0,yJ g0,yO g0,yX g0,yC g0,qg g0,ql g0,y9 g0 hm.b.ne,wC,eT,c1,c2,c3,c4,zA (zO _ _ _),zA (jc _ _ _),zA (jh _ _ _),zA (ji _ _ _),zA (zY _ _ _),zA (jm _ _ _),zA (jk _ _ _),zA (jg _ _ _),zA (wQ g0),zA (yJ g0),zA (yO g0),zA (yX g0),zA (yC g0),zA (qg g0),zA (ql g0),zA (y9 g0 hm.b.ne),zA (wC _),zA (eT _),zA (c1 _),zA (c2 _),zA (c3 _),zA (c4 _),gvw,k0,k1,k2,k3,k4,k5,k6,hc0]
  rw [hTe] at hr
  exact zu.runs hr (.inr rfl) hc rfl
theorem zu.v2 {m:wY} (hm:m.Ok) (hk:m.kind=2) (S:zx):jd zi O zu.id [mv m] S=some (.bool (Zb m),S):=by
 obtain ⟨T,hTe⟩:∃ T,T=(mv m::zh::zh::zh::zh::zh::zh::zh::zh::zh::zh::zh::zh::zh::zh::zh::zh::zh::zh::zh::zh::zh::zh::zh::zh::zh::zh::zh::zh::zh::zh::zh::zh::zh::zh::zh::zh::zh::zh::zh::zh::zh::zh::zh::zh::zh::zh::zh::zh::zh::zh::zh::zh::zh::zh::zh::zh::zh::zh::zh::zh::zh::zh::zh::zh::zh::zh::zh::zh::zh::zh::zh::zh::zh::zh::zh::zh::zh::zh::zh::zh::zh::zh::zh::zh::zh::zh::zh::zh::zh::zh::zh::zh::zh::zh::zh::zh::zh::zh::zh::zh::zh::zh::zh::zh::zh::zh::zh::zh::zh::zh::zh::zh::zh::zh::zh::zh::zh::zh::zh::zh::zh::zh::zh::zh::zh::zh::zh::zh::zh::zh::zh::zh::zh::zh::zh::zh::zh::zh::zh::zh::zh::zh::zh::zh::zh::zh::zh::zh::zh::zh::zh::zh::zh::zh::zh::zh::zh::zh::zh::zh::zh::zh::zh::zh::zh::zh::zh::zh::[]):=⟨_,rfl⟩
 have hr:zL zi O false zu.code T zx.empty=zL zi O false zu.code T zx.empty:=rfl
 have g0:=xK m
 have c1:=fun S=>jK.v hm.b S
 have c2:=fun S=>jJ.v hm.value.2 S
 have c3:=fun S=>jC.v m.tx S
 have c4:=fun S=>zI.v hm.b S
 have hc:[mv m].all (jL 16)=true:=all1 (yL hm.b.okl.le)
 have eT:∀ S,wH zi .neq 43 (tv m.tx) (.agg [Value.int .i64 0,.int .i64 0].toArray) S=some (.bool (!decide (m.tx=⟨0,0⟩)),S):=fun S=>Wy m.tx ⟨0,0⟩ S
 have k0:decide (m.kind=0)=false:=decide_eq_false (by omega)
 have k1:decide (m.kind=1)=false:=decide_eq_false (by omega)
 have k2:decide (m.kind=2)=true:=decide_eq_true hk
 have k3:decide (m.kind=3)=false:=decide_eq_false (by omega)
 have k4:decide (m.kind=4)=false:=decide_eq_false (by omega)
 have k5:decide (m.kind=5)=false:=decide_eq_false (by omega)
 have k6:decide (m.kind=6)=false:=decide_eq_false (by omega)
 have ek:Zy m=((decide (m.index=0) && decide (m.view=0)) && nameB m.value):=by simp only [Zy,hk,aaW,vwB,zn,if_true,if_false,reduceIte,or_true,true_or,or_false,or_self]
 unfold Zb
 rw [ek]
 obtain ⟨c,hc0⟩:∃ b,(decide (m.frm < 0) || decide (6 < m.frm))=b:=⟨_,rfl⟩
 obtain ⟨d,hd⟩:∃ b,Zj m=b:=⟨_,rfl⟩
 have hd2:=hd
 unfold Zj at hd2
 simp only [k0,k1,k2,k3,k4,k5,k6,Bool.not_true,Bool.not_false,Bool.true_and,Bool.false_and,Bool.or_false,Bool.false_or] at hd2
 rw [hc0,hd]
 cases c
 ·
  cases d
  ·
   simp only [Bool.false_eq_true,if_false]
   conv at hr =>
    rhs
    rw [hTe]
    simp only [zu.code,zu.rs,zSs,reduceIte,zk,zn,zo,zq,Zc,zO,jc,jh,ji,zY,jm,jk,jg,wQ g0,yJ g0,yO g0,yX g0,yC g0,qg g0,ql g0,y9 g0 hm.b.ne,wC,eT,c1,c2,c3,c4,zA (zO _ _ _),zA (jc _ _ _),zA (jh _ _ _),zA (ji _ _ _),zA (zY _ _ _),zA (jm _ _ _),zA (jk _ _ _),zA (jg _ _ _),zA (wQ g0),zA (yJ g0),zA (yO g0),zA (yX g0),zA (yC g0),zA (qg g0),zA (ql g0),zA (y9 g0 hm.b.ne),zA (wC _),zA (eT _),zA (c1 _),zA (c2 _),zA (c3 _),zA (c4 _),gvw,k0,k1,k2,k3,k4,k5,k6,hc0,hd2,Bool.not_true,Bool.not_false,Bool.true_and,Bool.false_and,Bool.or_false,Bool.false_or]
   rw [hTe] at hr
   exact zu.runs hr (.inr rfl) hc rfl
  ·
   simp only [Bool.false_eq_true,if_false,if_true]
   conv at hr =>
    rhs
    rw [hTe]
    simp only [zu.code,zu.rs,zSs,reduceIte,zk,zn,zo,zq,Zc,zO,jc,jh,ji,zY,jm,jk,jg,wQ g0,yJ g0,yO g0,yX g0,yC g0,qg g0,ql g0,y9 g0 hm.b.ne,wC,eT,c1,c2,c3,c4,zA (zO _ _ _),zA (jc _ _ _),zA (jh _ _ _),zA (ji _ _ _),zA (zY _ _ _),zA (jm _ _ _),zA (jk _ _ _),zA (jg _ _ _),zA (wQ g0),zA (yJ g0),zA (yO g0),zA (yX g0),zA (yC g0),zA (qg g0),zA (ql g0),zA (y9 g0 hm.b.ne),zA (wC _),zA (eT _),zA (c1 _),zA (c2 _),zA (c3 _),zA (c4 _),gvw,k0,k1,k2,k3,k4,k5,k6,hc0,hd2,Bool.not_true,Bool.not_false,Bool.true_and,Bool.false_and,Bool.or_false,Bool.false_or]
   rw [hTe] at hr
   exact zu.runs hr (.inr rfl) hc rfl
 ·
  simp only [if_true]
  conv at hr =>
   rhs
   rw [hTe]
   simp only [zu.code,zu.rs,zSs,reduceIte,zk,zn,zo,zq,Zc,zO,jc,jh,ji,zY,jm,jk,jg,wQ g0,yJ g0,yO g0,yX g0,yC g0,qg g0,ql g0,y9 g0 hm.b.ne,wC,eT,c1,c2,c3,c4,zA (zO _ _ _),zA (jc _ _ _),zA (jh _ _ _),zA (ji _ _ _),zA (zY _ _ _),zA (jm _ _ _),zA (jk _ _ _),zA (jg _ _ _),zA (wQ g0),zA (yJ g0),zA (yO g0),zA (yX g0),zA (yC g0),zA (qg g0),zA (ql g0),zA (y9 g0 hm.b.ne),zA (wC _),zA (eT _),zA (c1 _),zA (c2 _),zA (c3 _),zA (c4 _),gvw,k0,k1,k2,k3,k4,k5,k6,hc0]
  rw [hTe] at hr
  exact zu.runs hr (.inr rfl) hc rfl
theorem zu.v3 {m:wY} (hm:m.Ok) (hk:m.kind=3) (S:zx):jd zi O zu.id [mv m] S=some (.bool (Zb m),S):=by
 obtain ⟨T,hTe⟩:∃ T,T=(mv m::zh::zh::zh::zh::zh::zh::zh::zh::zh::zh::zh::zh::zh::zh::zh::zh::zh::zh::zh::zh::zh::zh::zh::zh::zh::zh::zh::zh::zh::zh::zh::zh::zh::zh::zh::zh::zh::zh::zh::zh::zh::zh::zh::zh::zh::zh::zh::zh::zh::zh::zh::zh::zh::zh::zh::zh::zh::zh::zh::zh::zh::zh::zh::zh::zh::zh::zh::zh::zh::zh::zh::zh::zh::zh::zh::zh::zh::zh::zh::zh::zh::zh::zh::zh::zh::zh::zh::zh::zh::zh::zh::zh::zh::zh::zh::zh::zh::zh::zh::zh::zh::zh::zh::zh::zh::zh::zh::zh::zh::zh::zh::zh::zh::zh::zh::zh::zh::zh::zh::zh::zh::zh::zh::zh::zh::zh::zh::zh::zh::zh::zh::zh::zh::zh::zh::zh::zh::zh::zh::zh::zh::zh::zh::zh::zh::zh::zh::zh::zh::zh::zh::zh::zh::zh::zh::zh::zh::zh::zh::zh::zh::zh::zh::zh::zh::zh::zh::zh::[]):=⟨_,rfl⟩
 have hr:zL zi O false zu.code T zx.empty=zL zi O false zu.code T zx.empty:=rfl
 have g0:=xK m
 have c1:=fun S=>jK.v hm.b S
 have c2:=fun S=>jJ.v hm.value.2 S
 have c3:=fun S=>jC.v m.tx S
 have c4:=fun S=>zI.v hm.b S
 have hc:[mv m].all (jL 16)=true:=all1 (yL hm.b.okl.le)
 have eT:∀ S,wH zi .neq 43 (tv m.tx) (.agg [Value.int .i64 0,.int .i64 0].toArray) S=some (.bool (!decide (m.tx=⟨0,0⟩)),S):=fun S=>Wy m.tx ⟨0,0⟩ S
 have k0:decide (m.kind=0)=false:=decide_eq_false (by omega)
 have k1:decide (m.kind=1)=false:=decide_eq_false (by omega)
 have k2:decide (m.kind=2)=false:=decide_eq_false (by omega)
 have k3:decide (m.kind=3)=true:=decide_eq_true hk
 have k4:decide (m.kind=4)=false:=decide_eq_false (by omega)
 have k5:decide (m.kind=5)=false:=decide_eq_false (by omega)
 have k6:decide (m.kind=6)=false:=decide_eq_false (by omega)
 have ek:Zy m=(((((decide (0≤m.index) && decide (m.index≤1000)) && (decide (0≤m.view) && decide (m.view≤1000))) && nameB m.value) && decide (-1≤m.prep)) && decide (m.prep < m.view)):=by simp only [Zy,hk,aaW,vwB,zn,if_true,if_false,reduceIte,or_true,true_or,or_false,or_self]
 unfold Zb
 rw [ek]
 obtain ⟨c,hc0⟩:∃ b,(decide (m.frm < 0) || decide (6 < m.frm))=b:=⟨_,rfl⟩
 obtain ⟨d,hd⟩:∃ b,Zj m=b:=⟨_,rfl⟩
 have hd2:=hd
 unfold Zj at hd2
 simp only [k0,k1,k2,k3,k4,k5,k6,Bool.not_true,Bool.not_false,Bool.true_and,Bool.false_and,Bool.or_false,Bool.false_or] at hd2
 rw [hc0,hd]
 cases c
 ·
  cases d
  ·
   simp only [Bool.false_eq_true,if_false]
   conv at hr =>
    rhs
    rw [hTe]
    simp only [zu.code,zu.rs,zSs,reduceIte,zk,zn,zo,zq,Zc,zO,jc,jh,ji,zY,jm,jk,jg,wQ g0,yJ g0,yO g0,yX g0,yC g0,qg g0,ql g0,y9 g0 hm.b.ne,wC,eT,c1,c2,c3,c4,zA (zO _ _ _),zA (jc _ _ _),zA (jh _ _ _),zA (ji _ _ _),zA (zY _ _ _),zA (jm _ _ _),zA (jk _ _ _),zA (jg _ _ _),zA (wQ g0),zA (yJ g0),zA (yO g0),zA (yX g0),zA (yC g0),zA (qg g0),zA (ql g0),zA (y9 g0 hm.b.ne),zA (wC _),zA (eT _),zA (c1 _),zA (c2 _),zA (c3 _),zA (c4 _),gvw,k0,k1,k2,k3,k4,k5,k6,hc0,hd2,Bool.not_true,Bool.not_false,Bool.true_and,Bool.false_and,Bool.or_false,Bool.false_or]
   rw [hTe] at hr
   exact zu.runs hr (.inr rfl) hc rfl
  ·
   simp only [Bool.false_eq_true,if_false,if_true]
   conv at hr =>
    rhs
    rw [hTe]
    simp only [zu.code,zu.rs,zSs,reduceIte,zk,zn,zo,zq,Zc,zO,jc,jh,ji,zY,jm,jk,jg,wQ g0,yJ g0,yO g0,yX g0,yC g0,qg g0,ql g0,y9 g0 hm.b.ne,wC,eT,c1,c2,c3,c4,zA (zO _ _ _),zA (jc _ _ _),zA (jh _ _ _),zA (ji _ _ _),zA (zY _ _ _),zA (jm _ _ _),zA (jk _ _ _),zA (jg _ _ _),zA (wQ g0),zA (yJ g0),zA (yO g0),zA (yX g0),zA (yC g0),zA (qg g0),zA (ql g0),zA (y9 g0 hm.b.ne),zA (wC _),zA (eT _),zA (c1 _),zA (c2 _),zA (c3 _),zA (c4 _),gvw,k0,k1,k2,k3,k4,k5,k6,hc0,hd2,Bool.not_true,Bool.not_false,Bool.true_and,Bool.false_and,Bool.or_false,Bool.false_or]
   rw [hTe] at hr
   exact zu.runs hr (.inr rfl) hc rfl
 ·
  simp only [if_true]
  conv at hr =>
   rhs
   rw [hTe]
   simp only [zu.code,zu.rs,zSs,reduceIte,zk,zn,zo,zq,Zc,zO,jc,jh,ji,zY,jm,jk,jg,wQ g0,yJ g0,yO g0,yX g0,yC g0,qg g0,ql g0,y9 g0 hm.b.ne,wC,eT,c1,c2,c3,c4,zA (zO _ _ _),zA (jc _ _ _),zA (jh _ _ _),zA (ji _ _ _),zA (zY _ _ _),zA (jm _ _ _),zA (jk _ _ _),zA (jg _ _ _),zA (wQ g0),zA (yJ g0),zA (yO g0),zA (yX g0),zA (yC g0),zA (qg g0),zA (ql g0),zA (y9 g0 hm.b.ne),zA (wC _),zA (eT _),zA (c1 _),zA (c2 _),zA (c3 _),zA (c4 _),gvw,k0,k1,k2,k3,k4,k5,k6,hc0]
  rw [hTe] at hr
  exact zu.runs hr (.inr rfl) hc rfl
theorem zu.v4 {m:wY} (hm:m.Ok) (hk:m.kind=4) (S:zx):jd zi O zu.id [mv m] S=some (.bool (Zb m),S):=by
 obtain ⟨T,hTe⟩:∃ T,T=(mv m::zh::zh::zh::zh::zh::zh::zh::zh::zh::zh::zh::zh::zh::zh::zh::zh::zh::zh::zh::zh::zh::zh::zh::zh::zh::zh::zh::zh::zh::zh::zh::zh::zh::zh::zh::zh::zh::zh::zh::zh::zh::zh::zh::zh::zh::zh::zh::zh::zh::zh::zh::zh::zh::zh::zh::zh::zh::zh::zh::zh::zh::zh::zh::zh::zh::zh::zh::zh::zh::zh::zh::zh::zh::zh::zh::zh::zh::zh::zh::zh::zh::zh::zh::zh::zh::zh::zh::zh::zh::zh::zh::zh::zh::zh::zh::zh::zh::zh::zh::zh::zh::zh::zh::zh::zh::zh::zh::zh::zh::zh::zh::zh::zh::zh::zh::zh::zh::zh::zh::zh::zh::zh::zh::zh::zh::zh::zh::zh::zh::zh::zh::zh::zh::zh::zh::zh::zh::zh::zh::zh::zh::zh::zh::zh::zh::zh::zh::zh::zh::zh::zh::zh::zh::zh::zh::zh::zh::zh::zh::zh::zh::zh::zh::zh::zh::zh::zh::zh::[]):=⟨_,rfl⟩
 have hr:zL zi O false zu.code T zx.empty=zL zi O false zu.code T zx.empty:=rfl
 have g0:=xK m
 have c1:=fun S=>jK.v hm.b S
 have c2:=fun S=>jJ.v hm.value.2 S
 have c3:=fun S=>jC.v m.tx S
 have c4:=fun S=>zI.v hm.b S
 have hc:[mv m].all (jL 16)=true:=all1 (yL hm.b.okl.le)
 have eT:∀ S,wH zi .neq 43 (tv m.tx) (.agg [Value.int .i64 0,.int .i64 0].toArray) S=some (.bool (!decide (m.tx=⟨0,0⟩)),S):=fun S=>Wy m.tx ⟨0,0⟩ S
 have k0:decide (m.kind=0)=false:=decide_eq_false (by omega)
 have k1:decide (m.kind=1)=false:=decide_eq_false (by omega)
 have k2:decide (m.kind=2)=false:=decide_eq_false (by omega)
 have k3:decide (m.kind=3)=false:=decide_eq_false (by omega)
 have k4:decide (m.kind=4)=true:=decide_eq_true hk
 have k5:decide (m.kind=5)=false:=decide_eq_false (by omega)
 have k6:decide (m.kind=6)=false:=decide_eq_false (by omega)
 have ek:Zy m=(((decide (0≤m.index) && decide (m.index≤1000)) && (decide (0≤m.view) && decide (m.view≤1000))) && (decide (m.value=-1) || nameB m.value)):=by simp only [Zy,hk,aaW,vwB,zn,if_true,if_false,reduceIte,or_true,true_or,or_false,or_self]
 unfold Zb
 rw [ek]
 obtain ⟨c,hc0⟩:∃ b,(decide (m.frm < 0) || decide (6 < m.frm))=b:=⟨_,rfl⟩
 obtain ⟨d,hd⟩:∃ b,Zj m=b:=⟨_,rfl⟩
 have hd2:=hd
 unfold Zj at hd2
 simp only [k0,k1,k2,k3,k4,k5,k6,Bool.not_true,Bool.not_false,Bool.true_and,Bool.false_and,Bool.or_false,Bool.false_or] at hd2
 rw [hc0,hd]
 cases c
 ·
  cases d
  ·
   simp only [Bool.false_eq_true,if_false]
   conv at hr =>
    rhs
    rw [hTe]
    simp only [zu.code,zu.rs,zSs,reduceIte,zk,zn,zo,zq,Zc,zO,jc,jh,ji,zY,jm,jk,jg,wQ g0,yJ g0,yO g0,yX g0,yC g0,qg g0,ql g0,y9 g0 hm.b.ne,wC,eT,c1,c2,c3,c4,zA (zO _ _ _),zA (jc _ _ _),zA (jh _ _ _),zA (ji _ _ _),zA (zY _ _ _),zA (jm _ _ _),zA (jk _ _ _),zA (jg _ _ _),zA (wQ g0),zA (yJ g0),zA (yO g0),zA (yX g0),zA (yC g0),zA (qg g0),zA (ql g0),zA (y9 g0 hm.b.ne),zA (wC _),zA (eT _),zA (c1 _),zA (c2 _),zA (c3 _),zA (c4 _),gvw,k0,k1,k2,k3,k4,k5,k6,hc0,hd2,Bool.not_true,Bool.not_false,Bool.true_and,Bool.false_and,Bool.or_false,Bool.false_or]
   rw [hTe] at hr
   exact zu.runs hr (.inr rfl) hc rfl
  ·
   simp only [Bool.false_eq_true,if_false,if_true]
   conv at hr =>
    rhs
    rw [hTe]
    simp only [zu.code,zu.rs,zSs,reduceIte,zk,zn,zo,zq,Zc,zO,jc,jh,ji,zY,jm,jk,jg,wQ g0,yJ g0,yO g0,yX g0,yC g0,qg g0,ql g0,y9 g0 hm.b.ne,wC,eT,c1,c2,c3,c4,zA (zO _ _ _),zA (jc _ _ _),zA (jh _ _ _),zA (ji _ _ _),zA (zY _ _ _),zA (jm _ _ _),zA (jk _ _ _),zA (jg _ _ _),zA (wQ g0),zA (yJ g0),zA (yO g0),zA (yX g0),zA (yC g0),zA (qg g0),zA (ql g0),zA (y9 g0 hm.b.ne),zA (wC _),zA (eT _),zA (c1 _),zA (c2 _),zA (c3 _),zA (c4 _),gvw,k0,k1,k2,k3,k4,k5,k6,hc0,hd2,Bool.not_true,Bool.not_false,Bool.true_and,Bool.false_and,Bool.or_false,Bool.false_or]
   rw [hTe] at hr
   exact zu.runs hr (.inr rfl) hc rfl
 ·
  simp only [if_true]
  conv at hr =>
   rhs
   rw [hTe]
   simp only [zu.code,zu.rs,zSs,reduceIte,zk,zn,zo,zq,Zc,zO,jc,jh,ji,zY,jm,jk,jg,wQ g0,yJ g0,yO g0,yX g0,yC g0,qg g0,ql g0,y9 g0 hm.b.ne,wC,eT,c1,c2,c3,c4,zA (zO _ _ _),zA (jc _ _ _),zA (jh _ _ _),zA (ji _ _ _),zA (zY _ _ _),zA (jm _ _ _),zA (jk _ _ _),zA (jg _ _ _),zA (wQ g0),zA (yJ g0),zA (yO g0),zA (yX g0),zA (yC g0),zA (qg g0),zA (ql g0),zA (y9 g0 hm.b.ne),zA (wC _),zA (eT _),zA (c1 _),zA (c2 _),zA (c3 _),zA (c4 _),gvw,k0,k1,k2,k3,k4,k5,k6,hc0]
  rw [hTe] at hr
  exact zu.runs hr (.inr rfl) hc rfl
theorem zu.v5 {m:wY} (hm:m.Ok) (hk:m.kind=5) (S:zx):jd zi O zu.id [mv m] S=some (.bool (Zb m),S):=by
 obtain ⟨T,hTe⟩:∃ T,T=(mv m::zh::zh::zh::zh::zh::zh::zh::zh::zh::zh::zh::zh::zh::zh::zh::zh::zh::zh::zh::zh::zh::zh::zh::zh::zh::zh::zh::zh::zh::zh::zh::zh::zh::zh::zh::zh::zh::zh::zh::zh::zh::zh::zh::zh::zh::zh::zh::zh::zh::zh::zh::zh::zh::zh::zh::zh::zh::zh::zh::zh::zh::zh::zh::zh::zh::zh::zh::zh::zh::zh::zh::zh::zh::zh::zh::zh::zh::zh::zh::zh::zh::zh::zh::zh::zh::zh::zh::zh::zh::zh::zh::zh::zh::zh::zh::zh::zh::zh::zh::zh::zh::zh::zh::zh::zh::zh::zh::zh::zh::zh::zh::zh::zh::zh::zh::zh::zh::zh::zh::zh::zh::zh::zh::zh::zh::zh::zh::zh::zh::zh::zh::zh::zh::zh::zh::zh::zh::zh::zh::zh::zh::zh::zh::zh::zh::zh::zh::zh::zh::zh::zh::zh::zh::zh::zh::zh::zh::zh::zh::zh::zh::zh::zh::zh::zh::zh::zh::zh::[]):=⟨_,rfl⟩
 have hr:zL zi O false zu.code T zx.empty=zL zi O false zu.code T zx.empty:=rfl
 have g0:=xK m
 have c1:=fun S=>jK.v hm.b S
 have c2:=fun S=>jJ.v hm.value.2 S
 have c3:=fun S=>jC.v m.tx S
 have c4:=fun S=>zI.v hm.b S
 have hc:[mv m].all (jL 16)=true:=all1 (yL hm.b.okl.le)
 have eT:∀ S,wH zi .neq 43 (tv m.tx) (.agg [Value.int .i64 0,.int .i64 0].toArray) S=some (.bool (!decide (m.tx=⟨0,0⟩)),S):=fun S=>Wy m.tx ⟨0,0⟩ S
 have k0:decide (m.kind=0)=false:=decide_eq_false (by omega)
 have k1:decide (m.kind=1)=false:=decide_eq_false (by omega)
 have k2:decide (m.kind=2)=false:=decide_eq_false (by omega)
 have k3:decide (m.kind=3)=false:=decide_eq_false (by omega)
 have k4:decide (m.kind=4)=false:=decide_eq_false (by omega)
 have k5:decide (m.kind=5)=true:=decide_eq_true hk
 have k6:decide (m.kind=6)=false:=decide_eq_false (by omega)
 have ek:Zy m=(((decide (0≤m.index) && decide (m.index≤1000)) && (decide (0≤m.view) && decide (m.view≤1000))) && (decide (m.value=-1) || nameB m.value)):=by simp only [Zy,hk,aaW,vwB,zn,if_true,if_false,reduceIte,or_true,true_or,or_false,or_self]
 unfold Zb
 rw [ek]
 obtain ⟨c,hc0⟩:∃ b,(decide (m.frm < 0) || decide (6 < m.frm))=b:=⟨_,rfl⟩
 obtain ⟨d,hd⟩:∃ b,Zj m=b:=⟨_,rfl⟩
 have hd2:=hd
 unfold Zj at hd2
 simp only [k0,k1,k2,k3,k4,k5,k6,Bool.not_true,Bool.not_false,Bool.true_and,Bool.false_and,Bool.or_false,Bool.false_or] at hd2
 rw [hc0,hd]
 cases c
 ·
  cases d
  ·
   simp only [Bool.false_eq_true,if_false]
   conv at hr =>
    rhs
    rw [hTe]
    simp only [zu.code,zu.rs,zSs,reduceIte,zk,zn,zo,zq,Zc,zO,jc,jh,ji,zY,jm,jk,jg,wQ g0,yJ g0,yO g0,yX g0,yC g0,qg g0,ql g0,y9 g0 hm.b.ne,wC,eT,c1,c2,c3,c4,zA (zO _ _ _),zA (jc _ _ _),zA (jh _ _ _),zA (ji _ _ _),zA (zY _ _ _),zA (jm _ _ _),zA (jk _ _ _),zA (jg _ _ _),zA (wQ g0),zA (yJ g0),zA (yO g0),zA (yX g0),zA (yC g0),zA (qg g0),zA (ql g0),zA (y9 g0 hm.b.ne),zA (wC _),zA (eT _),zA (c1 _),zA (c2 _),zA (c3 _),zA (c4 _),gvw,k0,k1,k2,k3,k4,k5,k6,hc0,hd2,Bool.not_true,Bool.not_false,Bool.true_and,Bool.false_and,Bool.or_false,Bool.false_or]
   rw [hTe] at hr
   exact zu.runs hr (.inr rfl) hc rfl
  ·
   simp only [Bool.false_eq_true,if_false,if_true]
   conv at hr =>
    rhs
    rw [hTe]
    simp only [zu.code,zu.rs,zSs,reduceIte,zk,zn,zo,zq,Zc,zO,jc,jh,ji,zY,jm,jk,jg,wQ g0,yJ g0,yO g0,yX g0,yC g0,qg g0,ql g0,y9 g0 hm.b.ne,wC,eT,c1,c2,c3,c4,zA (zO _ _ _),zA (jc _ _ _),zA (jh _ _ _),zA (ji _ _ _),zA (zY _ _ _),zA (jm _ _ _),zA (jk _ _ _),zA (jg _ _ _),zA (wQ g0),zA (yJ g0),zA (yO g0),zA (yX g0),zA (yC g0),zA (qg g0),zA (ql g0),zA (y9 g0 hm.b.ne),zA (wC _),zA (eT _),zA (c1 _),zA (c2 _),zA (c3 _),zA (c4 _),gvw,k0,k1,k2,k3,k4,k5,k6,hc0,hd2,Bool.not_true,Bool.not_false,Bool.true_and,Bool.false_and,Bool.or_false,Bool.false_or]
   rw [hTe] at hr
   exact zu.runs hr (.inr rfl) hc rfl
 ·
  simp only [if_true]
  conv at hr =>
   rhs
   rw [hTe]
   simp only [zu.code,zu.rs,zSs,reduceIte,zk,zn,zo,zq,Zc,zO,jc,jh,ji,zY,jm,jk,jg,wQ g0,yJ g0,yO g0,yX g0,yC g0,qg g0,ql g0,y9 g0 hm.b.ne,wC,eT,c1,c2,c3,c4,zA (zO _ _ _),zA (jc _ _ _),zA (jh _ _ _),zA (ji _ _ _),zA (zY _ _ _),zA (jm _ _ _),zA (jk _ _ _),zA (jg _ _ _),zA (wQ g0),zA (yJ g0),zA (yO g0),zA (yX g0),zA (yC g0),zA (qg g0),zA (ql g0),zA (y9 g0 hm.b.ne),zA (wC _),zA (eT _),zA (c1 _),zA (c2 _),zA (c3 _),zA (c4 _),gvw,k0,k1,k2,k3,k4,k5,k6,hc0]
  rw [hTe] at hr
  exact zu.runs hr (.inr rfl) hc rfl
theorem zu.v6 {m:wY} (hm:m.Ok) (hk:m.kind=6) (S:zx):jd zi O zu.id [mv m] S=some (.bool (Zb m),S):=by
 obtain ⟨T,hTe⟩:∃ T,T=(mv m::zh::zh::zh::zh::zh::zh::zh::zh::zh::zh::zh::zh::zh::zh::zh::zh::zh::zh::zh::zh::zh::zh::zh::zh::zh::zh::zh::zh::zh::zh::zh::zh::zh::zh::zh::zh::zh::zh::zh::zh::zh::zh::zh::zh::zh::zh::zh::zh::zh::zh::zh::zh::zh::zh::zh::zh::zh::zh::zh::zh::zh::zh::zh::zh::zh::zh::zh::zh::zh::zh::zh::zh::zh::zh::zh::zh::zh::zh::zh::zh::zh::zh::zh::zh::zh::zh::zh::zh::zh::zh::zh::zh::zh::zh::zh::zh::zh::zh::zh::zh::zh::zh::zh::zh::zh::zh::zh::zh::zh::zh::zh::zh::zh::zh::zh::zh::zh::zh::zh::zh::zh::zh::zh::zh::zh::zh::zh::zh::zh::zh::zh::zh::zh::zh::zh::zh::zh::zh::zh::zh::zh::zh::zh::zh::zh::zh::zh::zh::zh::zh::zh::zh::zh::zh::zh::zh::zh::zh::zh::zh::zh::zh::zh::zh::zh::zh::zh::zh::[]):=⟨_,rfl⟩
 have hr:zL zi O false zu.code T zx.empty=zL zi O false zu.code T zx.empty:=rfl
 have g0:=xK m
 have c1:=fun S=>jK.v hm.b S
 have c2:=fun S=>jJ.v hm.value.2 S
 have c3:=fun S=>jC.v m.tx S
 have c4:=fun S=>zI.v hm.b S
 have hc:[mv m].all (jL 16)=true:=all1 (yL hm.b.okl.le)
 have eT:∀ S,wH zi .neq 43 (tv m.tx) (.agg [Value.int .i64 0,.int .i64 0].toArray) S=some (.bool (!decide (m.tx=⟨0,0⟩)),S):=fun S=>Wy m.tx ⟨0,0⟩ S
 have k0:decide (m.kind=0)=false:=decide_eq_false (by omega)
 have k1:decide (m.kind=1)=false:=decide_eq_false (by omega)
 have k2:decide (m.kind=2)=false:=decide_eq_false (by omega)
 have k3:decide (m.kind=3)=false:=decide_eq_false (by omega)
 have k4:decide (m.kind=4)=false:=decide_eq_false (by omega)
 have k5:decide (m.kind=5)=false:=decide_eq_false (by omega)
 have k6:decide (m.kind=6)=true:=decide_eq_true hk
 have ek:Zy m=(((decide (0≤m.index) && decide (m.index≤1000)) && decide (m.view=0)) && nameB m.value):=by simp only [Zy,hk,aaW,vwB,zn,if_true,if_false,reduceIte,or_true,true_or,or_false,or_self]
 unfold Zb
 rw [ek]
 obtain ⟨c,hc0⟩:∃ b,(decide (m.frm < 0) || decide (6 < m.frm))=b:=⟨_,rfl⟩
 obtain ⟨d,hd⟩:∃ b,Zj m=b:=⟨_,rfl⟩
 have hd2:=hd
 unfold Zj at hd2
 simp only [k0,k1,k2,k3,k4,k5,k6,Bool.not_true,Bool.not_false,Bool.true_and,Bool.false_and,Bool.or_false,Bool.false_or] at hd2
 rw [hc0,hd]
 cases c
 ·
  cases d
  ·
   simp only [Bool.false_eq_true,if_false]
   conv at hr =>
    rhs
    rw [hTe]
    simp only [zu.code,zu.rs,zSs,reduceIte,zk,zn,zo,zq,Zc,zO,jc,jh,ji,zY,jm,jk,jg,wQ g0,yJ g0,yO g0,yX g0,yC g0,qg g0,ql g0,y9 g0 hm.b.ne,wC,eT,c1,c2,c3,c4,zA (zO _ _ _),zA (jc _ _ _),zA (jh _ _ _),zA (ji _ _ _),zA (zY _ _ _),zA (jm _ _ _),zA (jk _ _ _),zA (jg _ _ _),zA (wQ g0),zA (yJ g0),zA (yO g0),zA (yX g0),zA (yC g0),zA (qg g0),zA (ql g0),zA (y9 g0 hm.b.ne),zA (wC _),zA (eT _),zA (c1 _),zA (c2 _),zA (c3 _),zA (c4 _),gvw,k0,k1,k2,k3,k4,k5,k6,hc0,hd2,Bool.not_true,Bool.not_false,Bool.true_and,Bool.false_and,Bool.or_false,Bool.false_or]
   rw [hTe] at hr
   exact zu.runs hr (.inr rfl) hc rfl
  ·
   simp only [Bool.false_eq_true,if_false,if_true]
   conv at hr =>
    rhs
    rw [hTe]
    simp only [zu.code,zu.rs,zSs,reduceIte,zk,zn,zo,zq,Zc,zO,jc,jh,ji,zY,jm,jk,jg,wQ g0,yJ g0,yO g0,yX g0,yC g0,qg g0,ql g0,y9 g0 hm.b.ne,wC,eT,c1,c2,c3,c4,zA (zO _ _ _),zA (jc _ _ _),zA (jh _ _ _),zA (ji _ _ _),zA (zY _ _ _),zA (jm _ _ _),zA (jk _ _ _),zA (jg _ _ _),zA (wQ g0),zA (yJ g0),zA (yO g0),zA (yX g0),zA (yC g0),zA (qg g0),zA (ql g0),zA (y9 g0 hm.b.ne),zA (wC _),zA (eT _),zA (c1 _),zA (c2 _),zA (c3 _),zA (c4 _),gvw,k0,k1,k2,k3,k4,k5,k6,hc0,hd2,Bool.not_true,Bool.not_false,Bool.true_and,Bool.false_and,Bool.or_false,Bool.false_or]
   rw [hTe] at hr
   exact zu.runs hr (.inr rfl) hc rfl
 ·
  simp only [if_true]
  conv at hr =>
   rhs
   rw [hTe]
   simp only [zu.code,zu.rs,zSs,reduceIte,zk,zn,zo,zq,Zc,zO,jc,jh,ji,zY,jm,jk,jg,wQ g0,yJ g0,yO g0,yX g0,yC g0,qg g0,ql g0,y9 g0 hm.b.ne,wC,eT,c1,c2,c3,c4,zA (zO _ _ _),zA (jc _ _ _),zA (jh _ _ _),zA (ji _ _ _),zA (zY _ _ _),zA (jm _ _ _),zA (jk _ _ _),zA (jg _ _ _),zA (wQ g0),zA (yJ g0),zA (yO g0),zA (yX g0),zA (yC g0),zA (qg g0),zA (ql g0),zA (y9 g0 hm.b.ne),zA (wC _),zA (eT _),zA (c1 _),zA (c2 _),zA (c3 _),zA (c4 _),gvw,k0,k1,k2,k3,k4,k5,k6,hc0]
  rw [hTe] at hr
  exact zu.runs hr (.inr rfl) hc rfl
theorem zu.v7 {m:wY} (hm:m.Ok) (hk:m.kind < 0∨6 < m.kind) (S:zx):jd zi O zu.id [mv m] S=some (.bool (Zb m),S):=by
 obtain ⟨T,hTe⟩:∃ T,T=(mv m::zh::zh::zh::zh::zh::zh::zh::zh::zh::zh::zh::zh::zh::zh::zh::zh::zh::zh::zh::zh::zh::zh::zh::zh::zh::zh::zh::zh::zh::zh::zh::zh::zh::zh::zh::zh::zh::zh::zh::zh::zh::zh::zh::zh::zh::zh::zh::zh::zh::zh::zh::zh::zh::zh::zh::zh::zh::zh::zh::zh::zh::zh::zh::zh::zh::zh::zh::zh::zh::zh::zh::zh::zh::zh::zh::zh::zh::zh::zh::zh::zh::zh::zh::zh::zh::zh::zh::zh::zh::zh::zh::zh::zh::zh::zh::zh::zh::zh::zh::zh::zh::zh::zh::zh::zh::zh::zh::zh::zh::zh::zh::zh::zh::zh::zh::zh::zh::zh::zh::zh::zh::zh::zh::zh::zh::zh::zh::zh::zh::zh::zh::zh::zh::zh::zh::zh::zh::zh::zh::zh::zh::zh::zh::zh::zh::zh::zh::zh::zh::zh::zh::zh::zh::zh::zh::zh::zh::zh::zh::zh::zh::zh::zh::zh::zh::zh::zh::zh::[]):=⟨_,rfl⟩
 have hr:zL zi O false zu.code T zx.empty=zL zi O false zu.code T zx.empty:=rfl
 have g0:=xK m
 have c1:=fun S=>jK.v hm.b S
 have c2:=fun S=>jJ.v hm.value.2 S
 have c3:=fun S=>jC.v m.tx S
 have c4:=fun S=>zI.v hm.b S
 have hc:[mv m].all (jL 16)=true:=all1 (yL hm.b.okl.le)
 have eT:∀ S,wH zi .neq 43 (tv m.tx) (.agg [Value.int .i64 0,.int .i64 0].toArray) S=some (.bool (!decide (m.tx=⟨0,0⟩)),S):=fun S=>Wy m.tx ⟨0,0⟩ S
 have k0:decide (m.kind=0)=false:=decide_eq_false (by omega)
 have k1:decide (m.kind=1)=false:=decide_eq_false (by omega)
 have k2:decide (m.kind=2)=false:=decide_eq_false (by omega)
 have k3:decide (m.kind=3)=false:=decide_eq_false (by omega)
 have k4:decide (m.kind=4)=false:=decide_eq_false (by omega)
 have k5:decide (m.kind=5)=false:=decide_eq_false (by omega)
 have k6:decide (m.kind=6)=false:=decide_eq_false (by omega)
 have ek:Zy m=false:=by simp only [Zy,if_neg (show ¬ m.kind=0 by omega),if_neg (show ¬ m.kind=1 by omega),if_neg (show ¬ m.kind=2 by omega),if_neg (show ¬ m.kind=3 by omega),if_neg (show ¬ (m.kind=4∨m.kind=5) by omega),if_neg (show ¬ m.kind=6 by omega)]
 unfold Zb
 rw [ek]
 obtain ⟨c,hc0⟩:∃ b,(decide (m.frm < 0) || decide (6 < m.frm))=b:=⟨_,rfl⟩
 obtain ⟨d,hd⟩:∃ b,Zj m=b:=⟨_,rfl⟩
 have hd2:=hd
 unfold Zj at hd2
 simp only [k0,k1,k2,k3,k4,k5,k6,Bool.not_true,Bool.not_false,Bool.true_and,Bool.false_and,Bool.or_false,Bool.false_or] at hd2
 rw [hc0,hd]
 cases c
 ·
  cases d
  ·
   simp only [Bool.false_eq_true,if_false]
   conv at hr =>
    rhs
    rw [hTe]
    simp only [zu.code,zu.rs,zSs,reduceIte,zk,zn,zo,zq,Zc,zO,jc,jh,ji,zY,jm,jk,jg,wQ g0,yJ g0,yO g0,yX g0,yC g0,qg g0,ql g0,y9 g0 hm.b.ne,wC,eT,c1,c2,c3,c4,zA (zO _ _ _),zA (jc _ _ _),zA (jh _ _ _),zA (ji _ _ _),zA (zY _ _ _),zA (jm _ _ _),zA (jk _ _ _),zA (jg _ _ _),zA (wQ g0),zA (yJ g0),zA (yO g0),zA (yX g0),zA (yC g0),zA (qg g0),zA (ql g0),zA (y9 g0 hm.b.ne),zA (wC _),zA (eT _),zA (c1 _),zA (c2 _),zA (c3 _),zA (c4 _),gvw,k0,k1,k2,k3,k4,k5,k6,hc0,hd2,Bool.not_true,Bool.not_false,Bool.true_and,Bool.false_and,Bool.or_false,Bool.false_or]
   rw [hTe] at hr
   exact zu.runs hr (.inr rfl) hc rfl
  ·
   simp only [Bool.false_eq_true,if_false,if_true]
   conv at hr =>
    rhs
    rw [hTe]
    simp only [zu.code,zu.rs,zSs,reduceIte,zk,zn,zo,zq,Zc,zO,jc,jh,ji,zY,jm,jk,jg,wQ g0,yJ g0,yO g0,yX g0,yC g0,qg g0,ql g0,y9 g0 hm.b.ne,wC,eT,c1,c2,c3,c4,zA (zO _ _ _),zA (jc _ _ _),zA (jh _ _ _),zA (ji _ _ _),zA (zY _ _ _),zA (jm _ _ _),zA (jk _ _ _),zA (jg _ _ _),zA (wQ g0),zA (yJ g0),zA (yO g0),zA (yX g0),zA (yC g0),zA (qg g0),zA (ql g0),zA (y9 g0 hm.b.ne),zA (wC _),zA (eT _),zA (c1 _),zA (c2 _),zA (c3 _),zA (c4 _),gvw,k0,k1,k2,k3,k4,k5,k6,hc0,hd2,Bool.not_true,Bool.not_false,Bool.true_and,Bool.false_and,Bool.or_false,Bool.false_or]
   rw [hTe] at hr
   exact zu.runs hr (.inr rfl) hc rfl
 ·
  simp only [if_true]
  conv at hr =>
   rhs
   rw [hTe]
   simp only [zu.code,zu.rs,zSs,reduceIte,zk,zn,zo,zq,Zc,zO,jc,jh,ji,zY,jm,jk,jg,wQ g0,yJ g0,yO g0,yX g0,yC g0,qg g0,ql g0,y9 g0 hm.b.ne,wC,eT,c1,c2,c3,c4,zA (zO _ _ _),zA (jc _ _ _),zA (jh _ _ _),zA (ji _ _ _),zA (zY _ _ _),zA (jm _ _ _),zA (jk _ _ _),zA (jg _ _ _),zA (wQ g0),zA (yJ g0),zA (yO g0),zA (yX g0),zA (yC g0),zA (qg g0),zA (ql g0),zA (y9 g0 hm.b.ne),zA (wC _),zA (eT _),zA (c1 _),zA (c2 _),zA (c3 _),zA (c4 _),gvw,k0,k1,k2,k3,k4,k5,k6,hc0]
  rw [hTe] at hr
  exact zu.runs hr (.inr rfl) hc rfl
theorem zu.v {m:wY} (hm:m.Ok) (S:zx):jd zi O zu.id [mv m] S=some (.bool (Zb m),S):=by
 have:m.kind=0∨m.kind=1∨m.kind=2∨m.kind=3∨m.kind=4∨m.kind=5∨m.kind=6∨(m.kind < 0∨6 < m.kind):=by omega
 rcases this with h | h | h | h | h | h | h | h
 ·
  exact zu.v0 hm h S
 ·
  exact zu.v1 hm h S
 ·
  exact zu.v2 hm h S
 ·
  exact zu.v3 hm h S
 ·
  exact zu.v4 hm h S
 ·
  exact zu.v5 hm h S
 ·
  exact zu.v6 hm h S
 ·
  exact zu.v7 hm h S
theorem JF (m:wY):okq 3 (mv m)=true:=by
 have h:=Wl (f:=fT) (e:=2) (k:=m.b.k) (l:=m.b.txs) (d:=2)
 simp only [okq,List.toList_toArray,List.all_cons,List.all_nil,h,Bool.and_true]
def qo (m:wY):Bool :=
 if m.kind < 0∨6 < m.kind then false
 else if (decide (m.frm < 0) || decide (7≤m.frm)) || !ZR m (qh m) then false
 else if m.kind=0 then qF m.tx
 else if m.kind=1 then jZ m.b
 else if m.kind=3∧(decide (m.prep < -1) || decide (m.view≤m.prep))=true then false
 else (((decide (0≤m.index) && decide (m.index≤1000)) && decide (0≤m.view)) && decide (m.view≤1000)) && kJ m
theorem ajQ {m:wY} (hm:m.Ok):(qh m).Ok:=by
 have z:Big 0:=⟨by omega,by omega⟩
 have zt:TxV.Ok ⟨0,0⟩:=⟨z,z⟩
 unfold qh
 split
 ·
  exact ⟨ok0,hm.tx,hm.kind,hm.frm,z,z,z,z⟩
 split
 ·
  exact ⟨hm.b,zt,hm.kind,hm.frm,z,z,z,z⟩
 split
 ·
  exact ⟨ok0,zt,hm.kind,hm.frm,z,z,hm.value,z⟩
 split
 ·
  exact ⟨ok0,zt,hm.kind,hm.frm,hm.index,hm.view,hm.value,hm.prep⟩
 split
 ·
  exact ⟨ok0,zt,hm.kind,hm.frm,hm.index,hm.view,hm.value,z⟩
 split
 ·
  exact ⟨ok0,zt,hm.kind,hm.frm,hm.index,hm.view,hm.value,z⟩
 ·
  exact ⟨ok0,zt,hm.kind,hm.frm,hm.index,z,hm.value,z⟩
theorem jH.v {m:wY} (hm:m.Ok) (S:zx):jd zi O jH.id [mv m] S=some (.bool (qo m),S):=by
 obtain ⟨T,hTe⟩:∃ T,T=(mv m::zh::zh::zh::zh::zh::zh::zh::zh::zh::zh::zh::zh::zh::zh::zh::zh::zh::zh::zh::zh::zh::zh::zh::zh::zh::zh::zh::zh::zh::zh::zh::zh::zh::zh::zh::zh::zh::zh::zh::zh::zh::zh::zh::zh::zh::zh::zh::zh::zh::zh::zh::zh::zh::zh::zh::zh::zh::zh::zh::zh::zh::zh::zh::zh::zh::zh::zh::zh::zh::zh::zh::zh::zh::[]):=⟨_,rfl⟩
 have hr:zL zi O false jH.code T zx.empty=zL zi O false jH.code T zx.empty:=rfl
 have g0:=xK m
 have c3:=fun S=>qI.v m.tx S
 have c4:=fun S=>jD.v hm.b S
 have c5:=fun S=>wF.v hm S
 have hc:[mv m].all (jL 16)=true:=all1 (yL hm.b.okl.le)
 unfold qo
 by_cases k0:m.kind < 0
 ·
  rw [if_pos (.inl k0)]
  have e0:=decide_eq_true k0
  conv at hr =>
   rhs
   rw [hTe]
   simp only [jH.code,jH.rs,zSs,reduceIte,zk,zn,zo,zq,Zc,zO,jc,jh,ji,zY,jm,jk,jg,wQ g0,yJ g0,yO g0,yX g0,yC g0,qg g0,ql g0,y9 g0 hm.b.ne,xk g0 hm.b.ne,zA (zO _ _ _),zA (jc _ _ _),zA (jh _ _ _),zA (ji _ _ _),zA (zY _ _ _),zA (jm _ _ _),zA (jk _ _ _),zA (jg _ _ _),zA (wQ g0),zA (yJ g0),zA (yO g0),zA (yX g0),zA (yC g0),zA (qg g0),zA (ql g0),zA (y9 g0 hm.b.ne),zA (xk g0 hm.b.ne),Wx (xk g0 hm.b.ne) (JF m),qB g0,gvw,e0]
  rw [hTe] at hr
  exact jH.runs hr (.inr rfl) hc rfl
 by_cases k6:6 < m.kind
 ·
  rw [if_pos (.inr k6)]
  have e0:=decide_eq_false k0
  have e6:=decide_eq_true k6
  conv at hr =>
   rhs
   rw [hTe]
   simp only [jH.code,jH.rs,zSs,reduceIte,zk,zn,zo,zq,Zc,zO,jc,jh,ji,zY,jm,jk,jg,wQ g0,yJ g0,yO g0,yX g0,yC g0,qg g0,ql g0,y9 g0 hm.b.ne,xk g0 hm.b.ne,zA (zO _ _ _),zA (jc _ _ _),zA (jh _ _ _),zA (ji _ _ _),zA (zY _ _ _),zA (jm _ _ _),zA (jk _ _ _),zA (jg _ _ _),zA (wQ g0),zA (yJ g0),zA (yO g0),zA (yX g0),zA (yC g0),zA (qg g0),zA (ql g0),zA (y9 g0 hm.b.ne),zA (xk g0 hm.b.ne),Wx (xk g0 hm.b.ne) (JF m),qB g0,gvw,e0,e6]
  rw [hTe] at hr
  exact jH.runs hr (.inr rfl) hc rfl
 rw [if_neg (by omega)]
 have e0:=decide_eq_false k0
 have e6:=decide_eq_false k6
 have c1:=fun S=>jv.v hm (by omega) (by omega) S
 have c2:=fun S=>wX.v hm (ajQ hm) S
 obtain ⟨c,hc0⟩:∃ b,((decide (m.frm < 0) || decide (7≤m.frm)) || !ZR m (qh m))=b:=⟨_,rfl⟩
 rw [hc0]
 cases c
 ·
  rw [if_neg (by decide)]
  by_cases z0:m.kind=0
  ·
   rw [if_pos z0]
   conv at hr =>
    rhs
    rw [hTe]
    simp only [jH.code,jH.rs,zSs,reduceIte,zk,zn,zo,zq,Zc,zO,jc,jh,ji,zY,jm,jk,jg,wQ g0,yJ g0,yO g0,yX g0,yC g0,qg g0,ql g0,y9 g0 hm.b.ne,xk g0 hm.b.ne,zA (zO _ _ _),zA (jc _ _ _),zA (jh _ _ _),zA (ji _ _ _),zA (zY _ _ _),zA (jm _ _ _),zA (jk _ _ _),zA (jg _ _ _),zA (wQ g0),zA (yJ g0),zA (yO g0),zA (yX g0),zA (yC g0),zA (qg g0),zA (ql g0),zA (y9 g0 hm.b.ne),zA (xk g0 hm.b.ne),Wx (xk g0 hm.b.ne) (JF m),qB g0,gvw,e0,e6,c1,c2,zA (c1 _),zA (c2 _),hc0,decide_eq_true z0,c3]
   rw [hTe] at hr
   exact jH.runs hr (.inr rfl) hc rfl
  rw [if_neg z0]
  by_cases z1:m.kind=1
  ·
   rw [if_pos z1]
   conv at hr =>
    rhs
    rw [hTe]
    simp only [jH.code,jH.rs,zSs,reduceIte,zk,zn,zo,zq,Zc,zO,jc,jh,ji,zY,jm,jk,jg,wQ g0,yJ g0,yO g0,yX g0,yC g0,qg g0,ql g0,y9 g0 hm.b.ne,xk g0 hm.b.ne,zA (zO _ _ _),zA (jc _ _ _),zA (jh _ _ _),zA (ji _ _ _),zA (zY _ _ _),zA (jm _ _ _),zA (jk _ _ _),zA (jg _ _ _),zA (wQ g0),zA (yJ g0),zA (yO g0),zA (yX g0),zA (yC g0),zA (qg g0),zA (ql g0),zA (y9 g0 hm.b.ne),zA (xk g0 hm.b.ne),Wx (xk g0 hm.b.ne) (JF m),qB g0,gvw,e0,e6,c1,c2,zA (c1 _),zA (c2 _),hc0,decide_eq_false z0,decide_eq_true z1,c4]
   rw [hTe] at hr
   exact jH.runs hr (.inr rfl) hc rfl
  rw [if_neg z1]
  by_cases z3:m.kind=3
  ·
   obtain ⟨d,hd0⟩:∃ b,(decide (m.prep < -1) || decide (m.view≤m.prep))=b:=⟨_,rfl⟩
   rw [hd0]
   cases d
   ·
    rw [if_neg (by simp)]
    conv at hr =>
     rhs
     rw [hTe]
     simp only [jH.code,jH.rs,zSs,reduceIte,zk,zn,zo,zq,Zc,zO,jc,jh,ji,zY,jm,jk,jg,wQ g0,yJ g0,yO g0,yX g0,yC g0,qg g0,ql g0,y9 g0 hm.b.ne,xk g0 hm.b.ne,zA (zO _ _ _),zA (jc _ _ _),zA (jh _ _ _),zA (ji _ _ _),zA (zY _ _ _),zA (jm _ _ _),zA (jk _ _ _),zA (jg _ _ _),zA (wQ g0),zA (yJ g0),zA (yO g0),zA (yX g0),zA (yC g0),zA (qg g0),zA (ql g0),zA (y9 g0 hm.b.ne),zA (xk g0 hm.b.ne),Wx (xk g0 hm.b.ne) (JF m),qB g0,gvw,e0,e6,c1,c2,zA (c1 _),zA (c2 _),hc0,decide_eq_false z0,decide_eq_false z1,decide_eq_true z3,hd0,c5,zA (c5 _)]
    rw [hTe] at hr
    exact jH.runs hr (.inr rfl) hc rfl
   ·
    rw [if_pos ⟨z3,rfl⟩]
    conv at hr =>
     rhs
     rw [hTe]
     simp only [jH.code,jH.rs,zSs,reduceIte,zk,zn,zo,zq,Zc,zO,jc,jh,ji,zY,jm,jk,jg,wQ g0,yJ g0,yO g0,yX g0,yC g0,qg g0,ql g0,y9 g0 hm.b.ne,xk g0 hm.b.ne,zA (zO _ _ _),zA (jc _ _ _),zA (jh _ _ _),zA (ji _ _ _),zA (zY _ _ _),zA (jm _ _ _),zA (jk _ _ _),zA (jg _ _ _),zA (wQ g0),zA (yJ g0),zA (yO g0),zA (yX g0),zA (yC g0),zA (qg g0),zA (ql g0),zA (y9 g0 hm.b.ne),zA (xk g0 hm.b.ne),Wx (xk g0 hm.b.ne) (JF m),qB g0,gvw,e0,e6,c1,c2,zA (c1 _),zA (c2 _),hc0,decide_eq_false z0,decide_eq_false z1,decide_eq_true z3,hd0]
    rw [hTe] at hr
    exact jH.runs hr (.inr rfl) hc rfl
  rw [if_neg (fun h=>z3 h.1)]
  conv at hr =>
   rhs
   rw [hTe]
   simp only [jH.code,jH.rs,zSs,reduceIte,zk,zn,zo,zq,Zc,zO,jc,jh,ji,zY,jm,jk,jg,wQ g0,yJ g0,yO g0,yX g0,yC g0,qg g0,ql g0,y9 g0 hm.b.ne,xk g0 hm.b.ne,zA (zO _ _ _),zA (jc _ _ _),zA (jh _ _ _),zA (ji _ _ _),zA (zY _ _ _),zA (jm _ _ _),zA (jk _ _ _),zA (jg _ _ _),zA (wQ g0),zA (yJ g0),zA (yO g0),zA (yX g0),zA (yC g0),zA (qg g0),zA (ql g0),zA (y9 g0 hm.b.ne),zA (xk g0 hm.b.ne),Wx (xk g0 hm.b.ne) (JF m),qB g0,gvw,e0,e6,c1,c2,zA (c1 _),zA (c2 _),hc0,decide_eq_false z0,decide_eq_false z1,decide_eq_false z3,c5,zA (c5 _)]
  rw [hTe] at hr
  exact jH.runs hr (.inr rfl) hc rfl
 ·
  rw [if_pos rfl]
  conv at hr =>
   rhs
   rw [hTe]
   simp only [jH.code,jH.rs,zSs,reduceIte,zk,zn,zo,zq,Zc,zO,jc,jh,ji,zY,jm,jk,jg,wQ g0,yJ g0,yO g0,yX g0,yC g0,qg g0,ql g0,y9 g0 hm.b.ne,xk g0 hm.b.ne,zA (zO _ _ _),zA (jc _ _ _),zA (jh _ _ _),zA (ji _ _ _),zA (zY _ _ _),zA (jm _ _ _),zA (jk _ _ _),zA (jg _ _ _),zA (wQ g0),zA (yJ g0),zA (yO g0),zA (yX g0),zA (yC g0),zA (qg g0),zA (ql g0),zA (y9 g0 hm.b.ne),zA (xk g0 hm.b.ne),Wx (xk g0 hm.b.ne) (JF m),qB g0,gvw,e0,e6,c1,c2,zA (c1 _),zA (c2 _),hc0]
  rw [hTe] at hr
  exact jH.runs hr (.inr rfl) hc rfl
theorem Zd (b:vk):Jh b b=true:=by simp [Jh]
theorem right_eq (m:wY):qo m=Zb m:=by
 unfold qo Zb Zj
 by_cases hk:m.kind < 0∨6 < m.kind
 ·
  rw [if_pos hk]
  have:Zy m=false:=by simp only [Zy,if_neg (show ¬ m.kind=0 by omega),if_neg (show ¬ m.kind=1 by omega),if_neg (show ¬ m.kind=2 by omega),if_neg (show ¬ m.kind=3 by omega),if_neg (show ¬ (m.kind=4∨m.kind=5) by omega),if_neg (show ¬ m.kind=6 by omega)]
  rw [this]
  simp
 rw [if_neg hk]
 by_cases f0:m.frm < 0
 ·
  simp [f0]
 by_cases f7:6 < m.frm
 ·
  simp [f0,f7,show 7≤m.frm by omega]
 have f8:¬ 7≤m.frm:=by omega
 have hv:decide (0 < Y3 m.value)=xI m.value:=aio m.value
 have:m.kind=0∨m.kind=1∨m.kind=2∨m.kind=3∨m.kind=4∨m.kind=5∨m.kind=6:=by omega
 rcases this with h | h | h | h | h | h | h
 ·
  simp only [ZR,qh,Zy,h,decide_true,decide_false,Bool.true_and,Bool.false_and,Bool.not_true,Bool.not_false,zn,zo,if_true,if_false,reduceIte,aaW,vwB,kJ,YK,nameB,hv,f0,f7,f8,or_true,true_or,or_false,false_or,or_self,Bool.or_false,Bool.false_or,Zd,false_and,true_and]
  grind
 ·
  simp only [ZR,qh,Zy,h,decide_true,decide_false,Bool.true_and,Bool.false_and,Bool.not_true,Bool.not_false,zn,zo,if_true,if_false,reduceIte,aaW,vwB,kJ,YK,nameB,hv,f0,f7,f8,or_true,true_or,or_false,false_or,or_self,Bool.or_false,Bool.false_or,Zd,false_and,true_and]
  grind
 ·
  simp only [ZR,qh,Zy,h,decide_true,decide_false,Bool.true_and,Bool.false_and,Bool.not_true,Bool.not_false,zn,zo,if_true,if_false,reduceIte,aaW,vwB,kJ,YK,nameB,hv,f0,f7,f8,or_true,true_or,or_false,false_or,or_self,Bool.or_false,Bool.false_or,Zd,false_and,true_and]
  grind
 ·
  simp only [ZR,qh,Zy,h,decide_true,decide_false,Bool.true_and,Bool.false_and,Bool.not_true,Bool.not_false,zn,zo,if_true,if_false,reduceIte,aaW,vwB,kJ,YK,nameB,hv,f0,f7,f8,or_true,true_or,or_false,false_or,or_self,Bool.or_false,Bool.false_or,Zd,false_and,true_and]
  grind
 ·
  simp only [ZR,qh,Zy,h,decide_true,decide_false,Bool.true_and,Bool.false_and,Bool.not_true,Bool.not_false,zn,zo,if_true,if_false,reduceIte,aaW,vwB,kJ,YK,nameB,hv,f0,f7,f8,or_true,true_or,or_false,false_or,or_self,Bool.or_false,Bool.false_or,Zd,false_and,true_and]
  grind
 ·
  simp only [ZR,qh,Zy,h,decide_true,decide_false,Bool.true_and,Bool.false_and,Bool.not_true,Bool.not_false,zn,zo,if_true,if_false,reduceIte,aaW,vwB,kJ,YK,nameB,hv,f0,f7,f8,or_true,true_or,or_false,false_or,or_self,Bool.or_false,Bool.false_or,Zd,false_and,true_and]
  grind
 ·
  simp only [ZR,qh,Zy,h,decide_true,decide_false,Bool.true_and,Bool.false_and,Bool.not_true,Bool.not_false,zn,zo,if_true,if_false,reduceIte,aaW,vwB,kJ,YK,nameB,hv,f0,f7,f8,or_true,true_or,or_false,false_or,or_self,Bool.or_false,Bool.false_or,Zd,false_and,true_and]
  grind
end Go.Proofs.Ytfjogganfjkckaa
namespace Go.Proofs.Ytfjogganfjkckaa
open Go.Abs
theorem aeR {n:Int} (h:nameB n=true):0≤n∧n≤268435455:=by
 unfold nameB at h
 simp only [Bool.or_eq_true,decide_eq_true_eq] at h
 rcases h with h | h
 ·
  omega
 ·
  have:=vV.1 h;omega
structure abf (m:wY):Prop where
 kind:0≤m.kind∧m.kind≤6
 frm:0≤m.frm∧m.frm≤6
 index:0≤m.index∧m.index≤1000
 view:0≤m.view∧m.view≤1000
 value:-1≤m.value∧m.value≤268435455
 prep:-1≤m.prep∧m.prep≤1000
 tx:m.kind=0→qF m.tx=true
 blk:m.kind=1→jZ m.b=true
 notx:m.kind≠0→m.tx=⟨0,0⟩
 noblk:m.kind≠1→Jh m.b bk0=true
 noprep:m.kind≠3→m.prep=0
theorem ZC {m:wY} (h:qo m=true):abf m:=by
 rw [right_eq] at h
 unfold Zb at h
 split at h
 ·
  cases h
 rename_i hf
 split at h
 ·
  cases h
 rename_i ho
 simp only [Bool.or_eq_true,decide_eq_true_eq,not_or] at hf
 have ho:(m.kind≠0→m.tx=⟨0,0⟩)∧(m.kind≠1→Jh m.b bk0=true)∧(m.kind≠3→m.prep=0):=by
  unfold Zj at ho
  simp only [Bool.or_eq_true,Bool.and_eq_true,Bool.not_eq_true',decide_eq_false_iff_not,not_or,not_and,Decidable.not_not,Bool.not_eq_false] at ho
  exact ⟨ho.1.1,ho.1.2,ho.2⟩
 unfold Zy aaW vwB at h
 have nr:=fun hn=>aeR (n:=m.value) hn
 have k:m.kind=0∨m.kind=1∨m.kind=2∨m.kind=3∨m.kind=4∨m.kind=5∨m.kind=6:=by
  by_cases a:m.kind=0∨m.kind=1∨m.kind=2∨m.kind=3∨m.kind=4∨m.kind=5∨m.kind=6
  ·
   exact a
  ·
   simp only [if_neg (show ¬ m.kind=0 by omega),if_neg (show ¬ m.kind=1 by omega),if_neg (show ¬ m.kind=2 by omega),if_neg (show ¬ m.kind=3 by omega),if_neg (show ¬ (m.kind=4∨m.kind=5) by omega),if_neg (show ¬ m.kind=6 by omega)] at h
   cases h
 rcases k with k | k | k | k | k | k | k
 ·
  simp only [k,zn,if_true,if_false,reduceIte,or_true,true_or,or_false,or_self,Bool.and_eq_true,Bool.or_eq_true,decide_eq_true_eq] at h
  have hp:=ho.2.2
  have hv:-1≤m.value∧m.value≤268435455:=by grind
  refine ⟨by omega,by omega,by omega,by omega,hv,by grind,fun e=>by grind,fun e=>by grind,ho.1,ho.2.1,ho.2.2⟩
 ·
  simp only [k,zn,if_true,if_false,reduceIte,or_true,true_or,or_false,or_self,Bool.and_eq_true,Bool.or_eq_true,decide_eq_true_eq] at h
  have hp:=ho.2.2
  have hv:-1≤m.value∧m.value≤268435455:=by grind
  refine ⟨by omega,by omega,by omega,by omega,hv,by grind,fun e=>by grind,fun e=>by grind,ho.1,ho.2.1,ho.2.2⟩
 ·
  simp only [k,zn,if_true,if_false,reduceIte,or_true,true_or,or_false,or_self,Bool.and_eq_true,Bool.or_eq_true,decide_eq_true_eq] at h
  have hp:=ho.2.2
  have hv:-1≤m.value∧m.value≤268435455:=by grind
  refine ⟨by omega,by omega,by omega,by omega,hv,by grind,fun e=>by grind,fun e=>by grind,ho.1,ho.2.1,ho.2.2⟩
 ·
  simp only [k,zn,if_true,if_false,reduceIte,or_true,true_or,or_false,or_self,Bool.and_eq_true,Bool.or_eq_true,decide_eq_true_eq] at h
  have hp:=ho.2.2
  have hv:-1≤m.value∧m.value≤268435455:=by grind
  refine ⟨by omega,by omega,by omega,by omega,hv,by grind,fun e=>by grind,fun e=>by grind,ho.1,ho.2.1,ho.2.2⟩
 ·
  simp only [k,zn,if_true,if_false,reduceIte,or_true,true_or,or_false,or_self,Bool.and_eq_true,Bool.or_eq_true,decide_eq_true_eq] at h
  have hp:=ho.2.2
  have hv:-1≤m.value∧m.value≤268435455:=by grind
  refine ⟨by omega,by omega,by omega,by omega,hv,by grind,fun e=>by grind,fun e=>by grind,ho.1,ho.2.1,ho.2.2⟩
 ·
  simp only [k,zn,if_true,if_false,reduceIte,or_true,true_or,or_false,or_self,Bool.and_eq_true,Bool.or_eq_true,decide_eq_true_eq] at h
  have hp:=ho.2.2
  have hv:-1≤m.value∧m.value≤268435455:=by grind
  refine ⟨by omega,by omega,by omega,by omega,hv,by grind,fun e=>by grind,fun e=>by grind,ho.1,ho.2.1,ho.2.2⟩
 ·
  simp only [k,zn,if_true,if_false,reduceIte,or_true,true_or,or_false,or_self,Bool.and_eq_true,Bool.or_eq_true,decide_eq_true_eq] at h
  have hp:=ho.2.2
  have hv:-1≤m.value∧m.value≤268435455:=by grind
  refine ⟨by omega,by omega,by omega,by omega,hv,by grind,fun e=>by grind,fun e=>by grind,ho.1,ho.2.1,ho.2.2⟩
def Je (m:wY):List UInt8:=if m.kind=0 then txB m.tx else if m.kind=1 then XA m.b else []
def Yc (m:wY):List Int:=[m.kind,m.frm,m.index,m.view,m.value,m.prep]
def xB (m:wY):List UInt8:=encs (Yc m)++Je m
def mkM (m:wY):Nat:=(Yd (XD m.frm) (xB m)).toNat
def JZ (m:wY):List UInt8:=enc (mkM m)++xB m
def QS (m:wY):Value:=if qo m then .tuple #[by_ 2 (JZ m),.int .i64 0] else .tuple #[.slice none 0 0,.int .i64 121]
theorem adI (key:Int) (b:List UInt8):0≤Yd key b∧Yd key b < 18446744073709551616:=ac0 _ _
theorem agf (key:Int) (b:List UInt8):((Yd key b).toNat:Int)=Yd key b:=Int.toNat_of_nonneg (adI key b).1
theorem ajH (key:Int) (b:List UInt8):(Yd key b).toNat < 2 ^ 64:=by have:=adI key b;omega
theorem Xq {m:wY} (h:abf m):∀ n ∈ Yc m,-1≤n∧n≤268435455:=by
 intro n hn
 have h1:=h.kind;have h2:=h.frm;have h3:=h.index;have h4:=h.view;have h5:=h.value;have h6:=h.prep
 simp only [Yc,List.mem_cons,List.not_mem_nil,or_false] at hn
 rcases hn with rfl | rfl | rfl | rfl | rfl | rfl <;> omega
theorem VW {m:wY} (h:abf m):(encs (Yc m)).length≤60:=by
 have h1:=Xq h
 exact Jp (l:=Yc m) (fun n hn=>by have:=h1 n hn;omega)
theorem adu {b:vk} (h:jZ b=true):(XA b).length≤140:=by
 have hh:headB b=true∧ZJ b.txs=true:=by simpa [jZ] using h
 unfold XA
 have:=Q7 hh.1;have:=Q8 hh.2
 rw [List.length_append];omega
theorem ah3 {m:wY} (h:abf m):(Je m).length≤140:=by
 unfold Je
 split
 ·
  rename_i h0;have:=acd (h.tx h0);omega
 split
 ·
  rename_i h1;exact adu (h.blk h1)
 ·
  simp
theorem aau {m:wY} (h:abf m):(xB m).length≤200:=by
 unfold xB;have:=VW h;have:=ah3 h;rw [List.length_append];omega
theorem bs6 (a b c d e f:Int) (S:zx):jU zi 24 6 [(0,.int .i64 a),(1,.int .i64 b),(2,.int .i64 c),(3,.int .i64 d),(4,.int .i64 e),(5,.int .i64 f)] S=some (iz 2 [a,b,c,d,e,f],S):=by kernel_rfl
theorem zS.v {m:wY} (hm:m.Ok) (S:zx):jd zi O zS.id [mv m] S=some (QS m,S):=by
 obtain ⟨T,hTe⟩:∃ T,T=(mv m::zh::zh::zh::zh::zh::zh::zh::zh::zh::zh::zh::zh::zh::zh::zh::zh::zh::zh::zh::zh::zh::zh::zh::zh::zh::zh::zh::zh::zh::zh::zh::zh::zh::zh::zh::zh::zh::zh::zh::zh::zh::zh::zh::zh::zh::zh::zh::zh::zh::zh::zh::zh::zh::zh::zh::zh::zh::zh::zh::zh::zh::[]):=⟨_,rfl⟩
 have hr:zL zi O false zS.code T zx.empty=zL zi O false zS.code T zx.empty:=rfl
 have g0:=xK m
 have hc:[mv m].all (jL 16)=true:=all1 (yL hm.b.okl.le)
 have c0:∀ S,jd zi O 34 [mv m] S=some (.bool (qo m),S):=fun S=>by rw [right_eq];exact zu.v hm S
 unfold QS
 cases hR:qo m
 ·
  rw [hR] at c0
  conv at hr =>
   rhs
   rw [hTe]
   simp only [zS.code,zS.rs,zSs,reduceIte,zk,zn,zo,zq,Zc,zO,jc,jh,ji,zY,jm,jk,jg,wQ g0,yJ g0,yO g0,yX g0,yC g0,qg g0,ql g0,y9 g0 hm.b.ne,xk g0 hm.b.ne,c0]
  rw [hTe] at hr
  exact zS.runs hr (.inr rfl) rfl rfl hc rfl
 ·
  rw [hR] at c0
  have hf:=ZC hR
  have few:=Xq hf
  have c2:∀ S,jd zi O 35 [iz 1 [m.kind,m.frm,m.index,m.view,m.value,m.prep]] S=some (.tuple #[by_ 2 (encs (Yc m)),.int .i64 0],S):=fun S=>by
   rw [zJ.v (l:=[m.kind,m.frm,m.index,m.view,m.value,m.prep]) Okl.read (by decide) (fun n hn=>by have:=few n hn;omega) S,JR (l:=[m.kind,m.frm,m.index,m.view,m.value,m.prep]) (by simp) (fun n hn=>(few n hn).1) (by simp)];rfl
  have ck:∀ S,jd zi O 40 [.int .i64 m.frm] S=some (.int .u64 (XD m.frm),S):=fun S=>qc.v hf.frm.1 hf.frm.2 S
  have cn:∀ b S,jd zi O 38 [.int .u64 (Yd (XD m.frm) b)] S=some (by_ 2 (enc (Yd (XD m.frm) b).toNat),S):=fun b S=>by
   have:=jw.v (Yd (XD m.frm) b).toNat (ajH _ _) S
   rw [agf] at this
   exact this
  have a0:∀ S,yB zi 33 33 (by_ 2 (enc (mkM m))) (by_ 1 (xB m)) S=some (by_ 2 (JZ m),S):=fun S=>by
   rw [xu Okl.own (by decide) Okl.read (by have:=aau hf;have:=JJ (ajH (XD m.frm) (xB m));unfold mkM;omega)];rfl
  have em:enc (Yd (XD m.frm) (xB m)).toNat=enc (mkM m):=rfl
  have cof:∀ S,jd zi O 39 [.int .u64 (XD m.frm),by_ 1 (xB m)] S=some (.int .u64 (Yd (XD m.frm) (xB m)),S):=fun S=>je.v Okl.read (by decide) (by have:=aau hf;omega) S
  have hcv:jL 16 (.tuple #[by_ 2 (JZ m),.int .i64 0])=true:=yV (all2 (qH (k:=2) (Nat.le_refl 2)) rfl)
  by_cases k0:m.kind=0
  ·
   have c3:∀ S,jd zi O 36 [tv m.tx] S=some (.tuple #[by_ 2 (txB m.tx),.int .i64 0],S):=fun S=>by
    rw [jI.v m.tx S,akj,if_pos (hf.tx k0)]
   have a1:∀ S,yB zi 33 33 (by_ 2 (encs (Yc m))) (by_ 1 (txB m.tx)) S=some (by_ 2 (xB m),S):=fun S=>by
    rw [xu Okl.own (by decide) Okl.read (by have:=VW hf;have:=acd (hf.tx k0);omega)]
    rw [if_neg (by omega)];simp only [xB,Je,if_pos k0]
   conv at hr =>
    rhs
    rw [hTe]
    simp only [zS.code,zS.rs,zSs,reduceIte,zk,zn,zo,zq,Zc,zO,jc,jh,ji,zY,jm,jk,jg,wQ g0,yJ g0,yO g0,yX g0,yC g0,qg g0,ql g0,y9 g0 hm.b.ne,xk g0 hm.b.ne,c0,bs6,c2,decide_eq_true k0,decide_eq_false (show ¬ m.kind=1 by omega),c3,a1,ck,QY,cof,cn,em,a0]
   rw [hTe] at hr
   exact zS.runs hr (.inr rfl) (by simp only [List.getD_cons_succ,List.getD_cons_zero,wG,wz,jQ,jT,wu]) rfl hc hcv
  by_cases k1:m.kind=1
  ·
   have c3:∀ S,jd zi O 37 [bv m.b] S=some (.tuple #[by_ 2 (XA m.b),.int .i64 0],S):=fun S=>by
    rw [jy.v hm.b S,acA,if_pos (hf.blk k1)]
   have a1:∀ S,yB zi 33 33 (by_ 2 (encs (Yc m))) (by_ 1 (XA m.b)) S=some (by_ 2 (xB m),S):=fun S=>by
    rw [xu Okl.own (by decide) Okl.read (by have:=VW hf;have:=adu (hf.blk k1);omega)]
    rw [if_neg (by omega)];simp only [xB,Je,if_neg k0,if_pos k1]
   conv at hr =>
    rhs
    rw [hTe]
    simp only [zS.code,zS.rs,zSs,reduceIte,zk,zn,zo,zq,Zc,zO,jc,jh,ji,zY,jm,jk,jg,wQ g0,yJ g0,yO g0,yX g0,yC g0,qg g0,ql g0,y9 g0 hm.b.ne,xk g0 hm.b.ne,c0,bs6,c2,decide_eq_false k0,decide_eq_true k1,c3,a1,ck,QY,cof,cn,em,a0]
   rw [hTe] at hr
   exact zS.runs hr (.inr rfl) (by simp only [List.getD_cons_succ,List.getD_cons_zero,wG,wz,jQ,jT,wu]) rfl hc hcv
  have eb:encs (Yc m)=xB m:=by simp only [xB,Je,if_neg k0,if_neg k1,List.append_nil]
  conv at hr =>
   rhs
   rw [hTe]
   simp only [zS.code,zS.rs,zSs,reduceIte,zk,zn,zo,zq,Zc,zO,jc,jh,ji,zY,jm,jk,jg,wQ g0,yJ g0,yO g0,yX g0,yC g0,qg g0,ql g0,y9 g0 hm.b.ne,xk g0 hm.b.ne,c0,bs6,c2,decide_eq_false k0,decide_eq_false k1,eb,ck,QY,cof,cn,em,a0]
  rw [hTe] at hr
  exact zS.runs hr (.inr rfl) (by simp only [List.getD_cons_succ,List.getD_cons_zero,wG,wz,jQ,jT,wu]) rfl hc hcv
end Go.Proofs.Ytfjogganfjkckaa
namespace Go.Proofs.Ytfjogganfjkckaa
open Go.Abs
theorem ZI {a b:vk}:Jh a b=true ↔ a.slot=b.slot∧a.miner=b.miner∧a.variant=b.variant∧a.parent=b.parent∧a.txs=b.txs:=by
 simp [Jh]
theorem VO {m:wY} {b:vk} (h:Jh m.b b=true):qo { m with b:=b }=qo m:=by
 rw [right_eq,right_eq]
 obtain ⟨k,f,i,v,w,p,t,c⟩:=m
 obtain ⟨c1,c2,c3,c4,c5,c6⟩:=c
 obtain ⟨b1,b2,b3,b4,b5,b6⟩:=b
 obtain ⟨e1,e2,e3,e4,e5⟩:=ZI.1 h
 dsimp only at e1 e2 e3 e4 e5
 subst e1 e2 e3 e4 e5
 rfl
theorem af7 (l:List UInt8):qm 6 l=none∨∃ a b c d e f r,qm 6 l=some ([a,b,c,d,e,f],r)∧r.length≤l.length:=by
 cases h:qm 6 l with
 | none=>exact .inl rfl
 | some ar =>
  obtain ⟨a,r⟩:=ar
  obtain ⟨h1,h2⟩:=WM h
  match a,h1 with
  | [x,y,z,w,u,v],_=>exact .inr ⟨x,y,z,w,u,v,r,rfl,h2⟩
theorem Wp {x:wY} (hx:qo x=true):qm 6 (xB x)=some (Yc x,Je x):=by
 have f1:=Xq (ZC hx)
 exact (yY _ _ _ _).mpr ⟨rfl,rfl,fun n hn=>by have:=f1 n hn;unfold Few;omega⟩
theorem WA {l r:List UInt8} {a b c d e f:Int} (h:qm 6 l=some ([a,b,c,d,e,f],r)) {x:wY} (hx:qo x=true) (hl:l=xB x) :
  x.kind=a∧x.frm=b∧x.index=c∧x.view=d∧x.value=e∧x.prep=f∧Je x=r:=by
 have:=Wp hx
 rw [← hl,h] at this
 simp only [Option.some.injEq,Prod.mk.injEq,Yc,List.cons.injEq,and_true] at this
 obtain ⟨⟨h1,h2,h3,h4,h5,h6⟩,h7⟩:=this
 exact ⟨h1.symm,h2.symm,h3.symm,h4.symm,h5.symm,h6.symm,h7.symm⟩
def Yq (l:List UInt8) (m:wY) (ok:Bool):Prop:=m.Ok∧m.b.txs.length≤3∧((ok=true∧qo m=true∧l=xB m)∨(ok=false∧∀ x,qo x=true→l≠xB x))
theorem Ql:m0.Ok:=by
 have z:Big 0:=⟨by omega,by omega⟩
 exact ⟨ok0,⟨z,z⟩,z,z,z,z,z,z⟩
theorem yT {n:Int} (h:Few n):Big n:=by unfold Few at h;unfold Big;omega
theorem adr {t:TxV} (h:qF t=true):t.Ok:=by
 have:=xC.1 h
 exact ⟨⟨by omega,by omega⟩,⟨by omega,by omega⟩⟩
section
variable {l r:List UInt8} {a b c d e f:Int}
theorem aiy {t:TxV} (h:qm 6 l=some ([a,b,c,d,e,f],r)) (ha:a=0) (ht:af9 r=some t):Yq l ⟨a,b,c,d,e,f,t,bk0⟩ (qo ⟨a,b,c,d,e,f,t,bk0⟩):=by
 obtain ⟨_,g2,few⟩:=(yY _ _ _ _).mp h
 obtain ⟨t1,t2⟩:=(JX r t).1 ht
 refine ⟨⟨ok0,adr t1,yT (few _ (by simp)),yT (few _ (by simp)),yT (few _ (by simp)),yT (few _ (by simp)),yT (few _ (by simp)),yT (few _ (by simp))⟩,by simp,?_⟩
 cases hR:qo ⟨a,b,c,d,e,f,t,bk0⟩
 ·
  refine .inr ⟨rfl,fun x hx hl=>?_⟩
  obtain ⟨i1,i2,i3,i4,i5,i6,i7⟩:=WA h hx hl
  have hf:=ZC hx
  have k0:x.kind=0:=by omega
  have h3:=(JX r x.tx).2 ⟨hf.tx k0,by rw [← i7,Je,if_pos k0]⟩
  rw [ht] at h3
  have:=VO (m:=x) (b:=bk0) (hf.noblk (by omega))
  rw [hx] at this
  have e:({ x with b:=bk0 }:wY)=⟨a,b,c,d,e,f,t,bk0⟩:=mk_eq i1 i2 i3 i4 i5 i6 (by injection h3 with h3;exact h3.symm) rfl
  rw [e,hR] at this
  cases this
 ·
  refine .inl ⟨rfl,rfl,?_⟩
  rw [g2,t2]
  simp only [xB,Yc,Je,if_pos ha]
theorem afV {t:TxV} (h:qm 6 l=some ([a,b,c,d,e,f],r)) (ha:a=0) (ht:af9 r=none):Yq l ⟨a,b,c,d,e,f,⟨0,0⟩,bk0⟩ false:=by
 obtain ⟨_,g2,few⟩:=(yY _ _ _ _).mp h
 refine ⟨⟨ok0,Ql.tx,yT (few _ (by simp)),yT (few _ (by simp)),yT (few _ (by simp)),yT (few _ (by simp)),yT (few _ (by simp)),yT (few _ (by simp))⟩,by simp,.inr ⟨rfl,fun x hx hl=>?_⟩⟩
 obtain ⟨i1,i2,i3,i4,i5,i6,i7⟩:=WA h hx hl
 have k0:x.kind=0:=by omega
 have h3:=(JX r x.tx).2 ⟨(ZC hx).tx k0,by rw [← i7,Je,if_pos k0]⟩
 rw [ht] at h3
 cases h3
theorem ahk {y:vk} (h:qm 6 l=some ([a,b,c,d,e,f],r)) (ha:a=1) (hy:y.Ok) (hy3:y.txs.length≤3) (hb:ahf r=some ⟨y.slot,y.miner,y.variant,y.parent,0,y.txs⟩):Yq l ⟨a,b,c,d,e,f,⟨0,0⟩,y⟩ (qo ⟨a,b,c,d,e,f,⟨0,0⟩,y⟩):=by
 obtain ⟨_,g2,few⟩:=(yY _ _ _ _).mp h
 obtain ⟨⟨t1,_⟩,t2⟩:=(WO r _).1 hb
 refine ⟨⟨hy,Ql.tx,yT (few _ (by simp)),yT (few _ (by simp)),yT (few _ (by simp)),yT (few _ (by simp)),yT (few _ (by simp)),yT (few _ (by simp))⟩,hy3,?_⟩
 cases hR:qo ⟨a,b,c,d,e,f,⟨0,0⟩,y⟩
 ·
  refine .inr ⟨rfl,fun x hx hl=>?_⟩
  obtain ⟨i1,i2,i3,i4,i5,i6,i7⟩:=WA h hx hl
  have hf:=ZC hx
  have k1:x.kind=1:=by omega
  have h3:=(WO r ⟨x.b.slot,x.b.miner,x.b.variant,x.b.parent,0,x.b.txs⟩).2 ⟨⟨hf.blk k1,rfl⟩,by rw [← i7,Je,if_neg (by omega),if_pos k1];rfl⟩
  rw [hb] at h3
  simp only [Option.some.injEq,vk.mk.injEq,true_and] at h3
  have:=VO (m:=x) (b:=y) (ZI.2 ⟨h3.1.symm,h3.2.1.symm,h3.2.2.1.symm,h3.2.2.2.1.symm,h3.2.2.2.2.symm⟩)
  rw [hx] at this
  have e:({ x with b:=y }:wY)=⟨a,b,c,d,e,f,⟨0,0⟩,y⟩:=mk_eq i1 i2 i3 i4 i5 i6 (hf.notx (by omega)) rfl
  rw [e,hR] at this
  cases this
 ·
  refine .inl ⟨rfl,rfl,?_⟩
  rw [g2,t2]
  simp only [xB,Yc,Je,if_pos ha,if_neg (show ¬ a=0 by omega)]
  rfl
theorem afX (h:qm 6 l=some ([a,b,c,d,e,f],r)) (ha:a=1) (hb:ahf r=none):Yq l ⟨a,b,c,d,e,f,⟨0,0⟩,bk0⟩ false:=by
 obtain ⟨_,g2,few⟩:=(yY _ _ _ _).mp h
 refine ⟨⟨ok0,Ql.tx,yT (few _ (by simp)),yT (few _ (by simp)),yT (few _ (by simp)),yT (few _ (by simp)),yT (few _ (by simp)),yT (few _ (by simp))⟩,by simp,.inr ⟨rfl,fun x hx hl=>?_⟩⟩
 obtain ⟨i1,i2,i3,i4,i5,i6,i7⟩:=WA h hx hl
 have k1:x.kind=1:=by omega
 have h3:=(WO r ⟨x.b.slot,x.b.miner,x.b.variant,x.b.parent,0,x.b.txs⟩).2 ⟨⟨(ZC hx).blk k1,rfl⟩,by rw [← i7,Je,if_neg (by omega),if_pos k1];rfl⟩
 rw [hb] at h3
 cases h3
theorem ahP (h:qm 6 l=some ([a,b,c,d,e,f],r)) (h0:a≠0) (h1:a≠1):Yq l ⟨a,b,c,d,e,f,⟨0,0⟩,bk0⟩ (decide ((r.length:Int)=0) && qo ⟨a,b,c,d,e,f,⟨0,0⟩,bk0⟩):=by
 obtain ⟨_,g2,few⟩:=(yY _ _ _ _).mp h
 refine ⟨⟨ok0,Ql.tx,yT (few _ (by simp)),yT (few _ (by simp)),yT (few _ (by simp)),yT (few _ (by simp)),yT (few _ (by simp)),yT (few _ (by simp))⟩,by simp,?_⟩
 cases hR:(decide ((r.length:Int)=0) && qo ⟨a,b,c,d,e,f,⟨0,0⟩,bk0⟩)
 ·
  refine .inr ⟨rfl,fun x hx hl=>?_⟩
  obtain ⟨i1,i2,i3,i4,i5,i6,i7⟩:=WA h hx hl
  have hf:=ZC hx
  rw [Je,if_neg (by omega),if_neg (by omega)] at i7
  have:=VO (m:=x) (b:=bk0) (hf.noblk (by omega))
  rw [hx] at this
  have e:({ x with b:=bk0 }:wY)=⟨a,b,c,d,e,f,⟨0,0⟩,bk0⟩:=mk_eq i1 i2 i3 i4 i5 i6 (hf.notx (by omega)) rfl
  rw [e] at this
  rw [this,← i7] at hR
  simp at hR
 ·
  rw [Bool.and_eq_true,decide_eq_true_eq] at hR
  refine .inl ⟨rfl,hR.2,?_⟩
  have hr0:r=[]:=List.length_eq_zero_iff.1 (by omega)
  rw [g2,hr0]
  simp only [xB,Yc,Je,if_neg h0,if_neg h1]
theorem aeu (h:qm 6 l=none):Yq l m0 false:=⟨Ql,by simp,.inr ⟨rfl,fun x hx hl=>by
 have:=Wp hx
 rw [← hl,h] at this
 cases this⟩⟩
end
theorem jA.v {k:Nat} {l:List UInt8} (hk:Okl k l) (k2:k≠2) (hl:l.length≤140737488355328):∃ m ok,Yq l m ok∧∀ S,jd zi O jA.id [by_ k l] S=some (.tuple #[mv m,.bool ok],S):=by
 have a1:yR zi 48 zx.empty=some (.pointer (some ⟨0,0,none⟩),Y5 m0):=Xr zx.empty
 have g1:=xK m0
 have ne0:(0:Nat)≠2:=by decide
 have cl:[by_ k l].all (jL 16)=true:=all1 (qH (k:=k) hk.le)
 obtain ⟨T,hTe⟩:∃ T,T=(by_ k l::zh::zh::zh::zh::zh::zh::zh::zh::zh::zh::zh::zh::zh::zh::zh::zh::zh::zh::zh::zh::zh::zh::zh::zh::zh::zh::zh::zh::zh::zh::zh::zh::zh::zh::zh::zh::zh::zh::zh::zh::zh::zh::zh::zh::zh::zh::zh::zh::zh::zh::zh::zh::zh::zh::zh::zh::zh::zh::zh::zh::zh::zh::zh::zh::zh::zh::zh::zh::[]):=⟨_,rfl⟩
 have hr:zL zi O false jA.code T zx.empty=zL zi O false jA.code T zx.empty:=rfl
 have c1:=fun S=>zT.v (many:=6) hk k2 hl S
 have r1:∀ k0 k1,Zm k0 k1 6 l=_:=fun k0 k1=>xU (m:=6) (by decide) (by decide)
 rw [r1] at c1
 rcases af7 l with h | ⟨a,b,c,d,e,f,r,h,hlr⟩
 ·
  rw [h] at c1
  refine ⟨m0,false,aeu h,fun S=>?_⟩
  have s1:=Qe g1 m0
  conv at hr =>
   rhs
   rw [hTe]
   simp only [jA.code,jA.rs,zSs,reduceIte,zk,zn,zo,zq,if_neg k2,a1,c1,xk g1 (by decide),s1]
  rw [hTe] at hr
  exact jA.runs hr (.inr rfl) (xk (wP _ 0 m0) (by decide)) rfl rfl cl rfl
 ·
  rw [h] at c1
  have i0:=fun S=>vJ (k:=1) (i:=0) (m:=0) (l:=[a,b,c,d,e,f]) Okl.read rfl rfl S
  have i1:=fun S=>vJ (k:=1) (i:=1) (m:=1) (l:=[a,b,c,d,e,f]) Okl.read rfl rfl S
  have i2:=fun S=>vJ (k:=1) (i:=2) (m:=2) (l:=[a,b,c,d,e,f]) Okl.read rfl rfl S
  have i3:=fun S=>vJ (k:=1) (i:=3) (m:=3) (l:=[a,b,c,d,e,f]) Okl.read rfl rfl S
  have i4:=fun S=>vJ (k:=1) (i:=4) (m:=4) (l:=[a,b,c,d,e,f]) Okl.read rfl rfl S
  have i5:=fun S=>vJ (k:=1) (i:=5) (m:=5) (l:=[a,b,c,d,e,f]) Okl.read rfl rfl S
  have bd:=fun S=>Zr (y0:=.int .i64 a) (y1:=.int .i64 b) (y2:=.int .i64 c) (y3:=.int .i64 d) (y4:=.int .i64 e) (y5:=.int .i64 f) yS yS yS yS yS yS S
  have s1:wS zi 48 (.pointer (some ⟨0,0,none⟩)) (.agg [Value.int .i64 a,.int .i64 b,.int .i64 c,.int .i64 d,.int .i64 e,.int .i64 f,.int .i64 0,.int .i64 0,.int .i64 0,.int .i64 0,.int .i64 0,.int .i64 0,.slice none 0 0].toArray) (Y5 m0)=some (zh,kF (Y5 m0) 0 ⟨a,b,c,d,e,f,⟨0,0⟩,bk0⟩):=Qe g1 ⟨a,b,c,d,e,f,⟨0,0⟩,bk0⟩
  have g2:=wP (Y5 m0) 0 ⟨a,b,c,d,e,f,⟨0,0⟩,bk0⟩
  generalize kF (Y5 m0) 0 ⟨a,b,c,d,e,f,⟨0,0⟩,bk0⟩=A2 at s1 g2
  by_cases k0:a=0
  ·
   obtain ⟨t,x,o1,o2⟩:=Vr r
   have c2:=fun S=>y7.v (k:=1) (l:=r) Okl.read (by decide) (by omega) S
   rw [o1] at c2
   have s2:=ajB g2 t
   have g3:=wP A2 0 ⟨a,b,c,d,e,f,t,bk0⟩
   dsimp only at s2
   generalize kF A2 0 ⟨a,b,c,d,e,f,t,bk0⟩=A3 at s2 g3
   have s3:=Qe g3 ⟨a,b,c,d,e,f,t,bk0⟩
   have fin:=xk (wP A3 0 ⟨a,b,c,d,e,f,t,bk0⟩) (by show (0:Nat)≠2;decide)
   rcases o2 with ⟨rfl,o2⟩ | ⟨rfl,o2,rfl⟩
   ·
    have hP:=aiy h k0 o2
    have c3:=fun S=>jH.v hP.1 S
    refine ⟨_,_,hP,fun S=>?_⟩
    conv at hr =>
     rhs
     rw [hTe]
     simp only [jA.code,jA.rs,zSs,reduceIte,zk,zn,zo,zq,if_neg k2,a1,c1,i0,i1,i2,i3,i4,i5,qA,bd,s1,zO,wQ g2,decide_eq_true k0,c2,jk,s2,xk g3 ne0,kV (JF _),c3,qB g3,s3]
    rw [hTe] at hr
    exact jA.runs hr (.inr rfl) fin rfl rfl cl (yV (all2 (yL hP.1.b.okl.le) rfl))
   ·
    have hP:=afV (t:=⟨0,0⟩) h k0 o2
    refine ⟨_,_,hP,fun S=>?_⟩
    conv at hr =>
     rhs
     rw [hTe]
     simp only [jA.code,jA.rs,zSs,reduceIte,zk,zn,zo,zq,if_neg k2,a1,c1,i0,i1,i2,i3,i4,i5,qA,bd,s1,zO,wQ g2,decide_eq_true k0,c2,jk,s2,xk g3 ne0,kV (JF _),qB g3,s3]
    rw [hTe] at hr
    exact jA.runs hr (.inr rfl) fin rfl rfl cl (yV (all2 (yL hP.1.b.okl.le) rfl))
  by_cases k1:a=1
  ·
   obtain ⟨y,x,⟨hy,hy3,o2⟩,c2⟩:=jO.v (k:=1) (l:=r) Okl.read (by decide) (by omega)
   have s2:=ajM g2 y
   have g3:=wP A2 0 ⟨a,b,c,d,e,f,⟨0,0⟩,y⟩
   dsimp only at s2
   generalize kF A2 0 ⟨a,b,c,d,e,f,⟨0,0⟩,y⟩=A3 at s2 g3
   have s3:=Qe g3 ⟨a,b,c,d,e,f,⟨0,0⟩,y⟩
   have fin:=xk (wP A3 0 ⟨a,b,c,d,e,f,⟨0,0⟩,y⟩) hy.ne
   rcases o2 with ⟨rfl,o2,_⟩ | ⟨rfl,o2,rfl⟩
   ·
    have hP:=ahk h k1 hy hy3 o2
    have c3:=fun S=>jH.v hP.1 S
    refine ⟨_,_,hP,fun S=>?_⟩
    conv at hr =>
     rhs
     rw [hTe]
     simp only [jA.code,jA.rs,zSs,reduceIte,zk,zn,zo,zq,if_neg k2,a1,c1,i0,i1,i2,i3,i4,i5,qA,bd,s1,zO,wQ g2,decide_eq_false k0,decide_eq_true k1,c2,jg,s2,xk g3 hy.ne,kV (JF _),c3,qB g3,s3]
    rw [hTe] at hr
    exact jA.runs hr (.inr rfl) fin rfl rfl cl (yV (all2 (yL hP.1.b.okl.le) rfl))
   ·
    have hP:=afX h k1 o2
    refine ⟨_,_,hP,fun S=>?_⟩
    conv at hr =>
     rhs
     rw [hTe]
     simp only [jA.code,jA.rs,zSs,reduceIte,zk,zn,zo,zq,if_neg k2,a1,c1,i0,i1,i2,i3,i4,i5,qA,bd,s1,zO,wQ g2,decide_eq_false k0,decide_eq_true k1,c2,jg,s2,xk g3 ne0,kV (JF _),qB g3,s3]
    rw [hTe] at hr
    exact jA.runs hr (.inr rfl) fin rfl rfl cl (yV (all2 (yL hP.1.b.okl.le) rfl))
  have hP:=ahP h k0 k1
  have c3:=fun S=>jH.v hP.1 S
  have ln:∀ S,ZY zi 33 (by_ 1 r) S=some (.int .i64 r.length,S):=fun S=>Zv Okl.read
  have s3:=Qe g2 ⟨a,b,c,d,e,f,⟨0,0⟩,bk0⟩
  have fin:=xk (wP A2 0 ⟨a,b,c,d,e,f,⟨0,0⟩,bk0⟩) (by show (0:Nat)≠2;decide)
  refine ⟨_,_,hP,fun S=>?_⟩
  conv at hr =>
   rhs
   rw [hTe]
   simp only [jA.code,jA.rs,zSs,reduceIte,zk,zn,zo,zq,if_neg k2,a1,c1,i0,i1,i2,i3,i4,i5,qA,bd,s1,zO,wQ g2,decide_eq_false k0,decide_eq_false k1,ln,xk g2 ne0,zA (xk g2 ne0),zA (c3 _),gvw,kV (JF _),qB g2,s3]
  rw [hTe] at hr
  exact jA.runs hr (.inr rfl) fin rfl rfl cl (yV (all2 (yL hP.1.b.okl.le) rfl))
end Go.Proofs.Ytfjogganfjkckaa
namespace Go.Proofs.Ytfjogganfjkckaa
open Go.Abs
theorem vO {x y:wY}:ZR x y=true ↔ x.kind=y.kind∧x.frm=y.frm∧x.index=y.index∧x.view=y.view∧x.value=y.value∧x.prep=y.prep∧x.tx=y.tx∧Jh x.b y.b=true:=by
 simp [ZR]
theorem aec {a b:vk} (h:Jh a b=true):Jh b a=true:=by
 rw [ZI] at h ⊢;exact ⟨h.1.symm,h.2.1.symm,h.2.2.1.symm,h.2.2.2.1.symm,h.2.2.2.2.symm⟩
theorem acf {a b c:vk} (h:Jh a b=true) (k:Jh b c=true):Jh a c=true:=by
 rw [ZI] at h k ⊢;exact ⟨h.1.trans k.1,h.2.1.trans k.2.1,h.2.2.1.trans k.2.2.1,h.2.2.2.1.trans k.2.2.2.1,h.2.2.2.2.trans k.2.2.2.2⟩
theorem aeP (m:wY):ZR m m=true:=vO.2 ⟨rfl,rfl,rfl,rfl,rfl,rfl,rfl,Zd _⟩
theorem like {x y:wY} (h:ZR x y=true):qo y=qo x∧xB y=xB x∧JZ y=JZ x:=by
 obtain ⟨h1,h2,h3,h4,h5,h6,h7,h8⟩:=vO.1 h
 have e:y={ x with b:=y.b }:=mk_eq h1.symm h2.symm h3.symm h4.symm h5.symm h6.symm h7.symm rfl
 have hb:xB y=xB x:=by
  obtain ⟨s1,s2,s3,s4,s5⟩:=ZI.1 h8
  simp only [xB,Yc,Je,XA,← h1,← h2,← h3,← h4,← h5,← h6,← h7,← s1,← s2,← s3,← s4,← s5]
 refine ⟨?_,hb,?_⟩
 ·
  rw [e];exact VO h8
 ·
  simp only [JZ,mkM,hb,← h2]
theorem adt {x y:wY} (hx:qo x=true) (hy:qo y=true) (h:xB x=xB y):ZR x y=true:=by
 have e:=Wp hx
 rw [h,Wp hy] at e
 simp only [Option.some.injEq,Prod.mk.injEq,Yc,List.cons.injEq,and_true] at e
 obtain ⟨⟨h1,h2,h3,h4,h5,h6⟩,h7⟩:=e
 have fx:=ZC hx;have fy:=ZC hy
 refine vO.2 ⟨h1.symm,h2.symm,h3.symm,h4.symm,h5.symm,h6.symm,?_,?_⟩
 ·
  by_cases k:x.kind=0
  ·
   have ky:y.kind=0:=by omega
   rw [Je,Je,if_pos k,if_pos ky] at h7
   exact (af5 (r:=[]) (s:=[]) (fx.tx k) (fy.tx ky) (by rw [List.append_nil,List.append_nil,h7])).1
  ·
   rw [fx.notx k,fy.notx (by omega)]
 ·
  by_cases k:x.kind=1
  ·
   have ky:y.kind=1:=by omega
   rw [Je,Je,if_neg (show ¬ y.kind=0 by omega),if_neg (show ¬ x.kind=0 by omega),if_pos ky,if_pos k] at h7
   exact ZI.2 (adp (r:=[]) (s:=[]) (fx.blk k) (fy.blk ky) (by rw [List.append_nil,List.append_nil,h7])).1
  ·
   exact acf (fx.noblk k) (aec (fy.noblk (by omega)))
theorem abV (m:wY):mkM m < 2 ^ 64:=ajH _ _
theorem adP {x y:wY} (hx:qo x=true) (hy:qo y=true) (h:JZ x=JZ y):ZR x y=true :=
 adt hx hy (ajX (abV x) (abV y) h).2
def J6 (l:List UInt8) (m:wY) (e:Int):Prop:=m.Ok∧m.b.txs.length≤3∧((e=0∧qo m=true∧l=JZ m)∨(e=121∧m=m0∧∀ x,qo x=true→l≠JZ x))
theorem Xd {l:List UInt8} (h:scan 0 0 l=none):J6 l m0 121:=⟨Ql,by simp,.inr ⟨rfl,rfl,fun x hx hl=>by
 have:=YP (abV x) (xB x)
 rw [show enc (mkM x)++xB x=l from hl.symm,h] at this
 cases this⟩⟩
theorem Q9 {l r:List UInt8} {n:Nat} (h:scan 0 0 l=some (n,r)) {x:wY} (hl:l=JZ x):n=mkM x∧r=xB x:=by
 have:=YP (abV x) (xB x)
 rw [show enc (mkM x)++xB x=l from hl.symm,h] at this
 simpa using this
theorem wR.v {k:Nat} {l:List UInt8} (hk:Okl k l) (k2:k≠2) (hl:l.length≤140737488355328):∃ m e,J6 l m e∧∀ S,jd zi O wR.id [by_ k l] S=some (.tuple #[mv m,.int .i64 e],S):=by
 have a1:yR zi 48 zx.empty=some (.pointer (some ⟨0,0,none⟩),Y5 m0):=Xr zx.empty
 have g1:=xK m0
 have ne0:(0:Nat)≠2:=by decide
 have cl:[by_ k l].all (jL 16)=true:=all1 (qH (k:=k) hk.le)
 obtain ⟨T,hTe⟩:∃ T,T=(by_ k l::zh::zh::zh::zh::zh::zh::zh::zh::zh::zh::zh::zh::zh::zh::zh::zh::zh::zh::zh::zh::zh::zh::zh::zh::zh::zh::zh::zh::zh::zh::zh::zh::zh::zh::zh::[]):=⟨_,rfl⟩
 have hr:zL zi O false wR.code T zx.empty=zL zi O false wR.code T zx.empty:=rfl
 have c1:=fun S=>jB.v hk k2 hl S
 unfold XL at c1
 have z0:∀ S,yw zi 48 [] S=some (mv m0,S):=fun S=>Vh S
 cases h:scan 0 0 l with
 | none =>
  rw [h] at c1
  have s1:=Qe g1 m0
  refine ⟨m0,121,Xd h,fun S=>?_⟩
  conv at hr =>
   rhs
   rw [hTe]
   simp only [wR.code,wR.rs,zSs,reduceIte,zk,zn,zo,zq,if_neg k2,a1,c1,z0,s1]
  rw [hTe] at hr
  exact wR.runs hr (.inr rfl) (xk (wP _ 0 m0) ne0) rfl rfl cl rfl
 | some nr =>
  obtain ⟨n,r⟩:=nr
  rw [h] at c1
  obtain ⟨hn,hlr⟩:=Xw l 0 0 (by decide) (by decide) n r h
  obtain ⟨m,ok,⟨mo,m3,hP⟩,c2⟩:=jA.v (k:=1) (l:=r) Okl.read (by decide) (by omega)
  have a2:yR zi 48 (Y5 m0)=some (.pointer (some ⟨1,0,none⟩),Qi m0 m0):=Xr (Y5 m0)
  have s1:=Qe (acV m0 m0) m
  have g2:=wP (Qi m0 m0) 1 m
  have g3:(kF (Qi m0 m0) 1 m).get 0=some (.cells (fM m0) (.own []) 0):=(yF (by decide)).trans (acy m0 m0)
  generalize kF (Qi m0 m0) 1 m=A2 at s1 g2 g3
  have s2:=Qe g3 m0
  have f2:=xk (wP A2 0 m0) ne0
  have s3:=Qe g3 m
  have f3:=xk (wP A2 0 m) mo.b.ne
  rcases hP with ⟨rfl,hR,hb⟩ | ⟨rfl,hP⟩
  ·
   have ck:=fun S=>kU.v m.frm S
   have ct:=fun S=>qE.v (k:=1) (l:=r) Okl.read rfl (by omega) (key:=XD m.frm) (mark:=n) S
   have em:Yd (XD m.frm) r=(mkM m:Nat):=by rw [hb];exact (agf _ _).symm
   by_cases hq:Yd (XD m.frm) r=n
   ·
    refine ⟨m,0,⟨mo,m3,.inl ⟨rfl,hR,?_⟩⟩,fun S=>?_⟩
    ·
     rw [(aa7 h).1,JZ,← hb]
     congr 2
     omega
    rw [decide_eq_true hq] at ct
    conv at hr =>
     rhs
     rw [hTe]
     simp only [wR.code,wR.rs,zSs,reduceIte,zk,zn,zo,zq,if_neg k2,a1,c1,c2,a2,s1,jc,yJ g2,ck,ct,xk g2 mo.b.ne,s3]
    rw [hTe] at hr
    exact wR.runs hr (.inr rfl) f3 rfl rfl cl (yV (all2 (yL mo.b.okl.le) rfl))
   ·
    refine ⟨m0,121,⟨Ql,by simp,.inr ⟨rfl,rfl,fun x hx hl=>?_⟩⟩,fun S=>?_⟩
    ·
     obtain ⟨i1,i2⟩:=Q9 h hl
     have hs:=adt hx hR (by rw [← i2,hb])
     refine hq ?_
     rw [em,i1]
     simp only [mkM,(like hs).2.1,(vO.1 hs).2.1]
    rw [decide_eq_false hq] at ct
    conv at hr =>
     rhs
     rw [hTe]
     simp only [wR.code,wR.rs,zSs,reduceIte,zk,zn,zo,zq,if_neg k2,a1,c1,c2,a2,s1,jc,yJ g2,ck,ct,z0,s2]
    rw [hTe] at hr
    exact wR.runs hr (.inr rfl) f2 rfl rfl cl rfl
  ·
   refine ⟨m0,121,⟨Ql,by simp,.inr ⟨rfl,rfl,fun x hx hl=>hP x hx (Q9 h hl).2⟩⟩,fun S=>?_⟩
   conv at hr =>
    rhs
    rw [hTe]
    simp only [wR.code,wR.rs,zSs,reduceIte,zk,zn,zo,zq,if_neg k2,a1,c1,c2,a2,s1,z0,s2]
   rw [hTe] at hr
   exact wR.runs hr (.inr rfl) f2 rfl rfl cl rfl
theorem aai {l r:List UInt8} {n:Nat} (h:scan 0 0 l=some (n,r)) {m:wY} (hm:m.Ok) (h3:m.b.txs.length≤3) (hP:∀ x,qo x=true→r=xB x→ZR x m=true) :
  J6 l (if qo m=true∧JZ m=l then m else m0) (if qo m=true∧JZ m=l then 0 else 121):=by
 by_cases hq:qo m=true∧JZ m=l
 ·
  rw [if_pos hq,if_pos hq]
  exact ⟨hm,h3,.inl ⟨rfl,hq.1,hq.2.symm⟩⟩
 ·
  rw [if_neg hq,if_neg hq]
  refine ⟨Ql,by simp,.inr ⟨rfl,rfl,fun x hx hl=>hq ?_⟩⟩
  have hs:=like (hP x hx (Q9 h hl).2)
  exact ⟨hs.1.trans hx,hs.2.2.trans hl.symm⟩
theorem zF.v {k:Nat} {l:List UInt8} (hk:Okl k l) (k2:k≠2) (hl:l.length≤140737488355328):∃ m e,J6 l m e∧∀ S,jd zi O zF.id [by_ k l] S=some (.tuple #[mv m,.int .i64 e],S):=by
 have a1:yR zi 48 zx.empty=some (.pointer (some ⟨0,0,none⟩),Y5 m0):=Xr zx.empty
 have g1:=xK m0
 have ne0:(0:Nat)≠2:=by decide
 have cl:[by_ k l].all (jL 16)=true:=all1 (qH (k:=k) hk.le)
 obtain ⟨T,hTe⟩:∃ T,T=(by_ k l::zh::zh::zh::zh::zh::zh::zh::zh::zh::zh::zh::zh::zh::zh::zh::zh::zh::zh::zh::zh::zh::zh::zh::zh::zh::zh::zh::zh::zh::zh::zh::zh::zh::zh::zh::zh::zh::zh::zh::zh::zh::zh::zh::zh::zh::zh::zh::zh::zh::zh::zh::zh::zh::zh::zh::zh::zh::zh::zh::zh::zh::zh::zh::zh::zh::zh::zh::zh::zh::zh::zh::zh::zh::zh::zh::zh::zh::zh::zh::zh::zh::zh::zh::[]):=⟨_,rfl⟩
 have hr:zL zi O false zF.code T zx.empty=zL zi O false zF.code T zx.empty:=rfl
 have c1:=fun S=>zH.v hk k2 hl S
 unfold XL at c1
 have z0:∀ S,yw zi 48 [] S=some (mv m0,S):=fun S=>Vh S
 cases h:scan 0 0 l with
 | none =>
  rw [h] at c1
  have s1:=Qe g1 m0
  refine ⟨m0,121,Xd h,fun S=>?_⟩
  conv at hr =>
   rhs
   rw [hTe]
   simp only [zF.code,zF.rs,zSs,reduceIte,zk,zn,zo,zq,if_neg k2,a1,c1,z0,s1]
  rw [hTe] at hr
  exact zF.runs hr (.inr rfl) (xk (wP _ 0 m0) ne0) rfl rfl cl rfl
 | some nr =>
  obtain ⟨n,r0⟩:=nr
  rw [h] at c1
  obtain ⟨hn,hlr⟩:=Xw l 0 0 (by decide) (by decide) n r0 h
  have c2:=fun S=>zC.v (k:=1) (l:=r0) (many:=6) Okl.read (by decide) (by omega) S
  have r1:∀ k0 k1,Zm k0 k1 6 r0=_:=fun k0 k1=>xU (m:=6) (by decide) (by decide)
  rw [r1] at c2
  rcases af7 r0 with h6 | ⟨a,b,c,d,e,f,r,h6,hlr6⟩
  ·
   rw [h6] at c2
   have s1:=Qe g1 m0
   refine ⟨m0,121,⟨Ql,by simp,.inr ⟨rfl,rfl,fun x hx hl=>?_⟩⟩,fun S=>?_⟩
   ·
    have:=Wp hx
    rw [← (Q9 h hl).2,h6] at this
    cases this
   conv at hr =>
    rhs
    rw [hTe]
    simp only [zF.code,zF.rs,zSs,reduceIte,zk,zn,zo,zq,if_neg k2,a1,c1,c2,z0,s1]
   rw [hTe] at hr
   exact zF.runs hr (.inr rfl) (xk (wP _ 0 m0) ne0) rfl rfl cl rfl
  ·
   rw [h6] at c2
   have few:=((yY _ _ _ _).mp h6).2.2
   have i0:=fun S=>vJ (k:=1) (i:=0) (m:=0) (l:=[a,b,c,d,e,f]) Okl.read rfl rfl S
   have i1:=fun S=>vJ (k:=1) (i:=1) (m:=1) (l:=[a,b,c,d,e,f]) Okl.read rfl rfl S
   have i2:=fun S=>vJ (k:=1) (i:=2) (m:=2) (l:=[a,b,c,d,e,f]) Okl.read rfl rfl S
   have i3:=fun S=>vJ (k:=1) (i:=3) (m:=3) (l:=[a,b,c,d,e,f]) Okl.read rfl rfl S
   have i4:=fun S=>vJ (k:=1) (i:=4) (m:=4) (l:=[a,b,c,d,e,f]) Okl.read rfl rfl S
   have i5:=fun S=>vJ (k:=1) (i:=5) (m:=5) (l:=[a,b,c,d,e,f]) Okl.read rfl rfl S
   have bd:=fun S=>Zr (y0:=.int .i64 a) (y1:=.int .i64 b) (y2:=.int .i64 c) (y3:=.int .i64 d) (y4:=.int .i64 e) (y5:=.int .i64 f) yS yS yS yS yS yS S
   have a2:yR zi 48 (Y5 m0)=some (.pointer (some ⟨1,0,none⟩),Qi m0 m0):=Xr (Y5 m0)
   have s1:wS zi 48 (.pointer (some ⟨1,0,none⟩)) (.agg [Value.int .i64 a,.int .i64 b,.int .i64 c,.int .i64 d,.int .i64 e,.int .i64 f,.int .i64 0,.int .i64 0,.int .i64 0,.int .i64 0,.int .i64 0,.int .i64 0,.slice none 0 0].toArray) (Qi m0 m0)=some (zh,kF (Qi m0 m0) 1 ⟨a,b,c,d,e,f,⟨0,0⟩,bk0⟩):=Qe (acV m0 m0) ⟨a,b,c,d,e,f,⟨0,0⟩,bk0⟩
   have g2:=wP (Qi m0 m0) 1 ⟨a,b,c,d,e,f,⟨0,0⟩,bk0⟩
   have g3:(kF (Qi m0 m0) 1 ⟨a,b,c,d,e,f,⟨0,0⟩,bk0⟩).get 0=some (.cells (fM m0) (.own []) 0):=(yF (by decide)).trans (acy m0 m0)
   generalize kF (Qi m0 m0) 1 ⟨a,b,c,d,e,f,⟨0,0⟩,bk0⟩=A2 at s1 g2 g3
   have okA:okq 3 (.agg [Value.int .i64 a,.int .i64 b,.int .i64 c,.int .i64 d,.int .i64 e,.int .i64 f,.int .i64 0,.int .i64 0,.int .i64 0,.int .i64 0,.int .i64 0,.int .i64 0,.slice none 0 0].toArray)=true:=rfl
   have fin:∀ (m:wY) (A:zx),A.get 1=some (.cells (fM m) (.own []) 0)→A.get 0=some (.cells (fM m0) (.own []) 0)→m.Ok→∀ S,
     wS zi 48 (.pointer (some ⟨0,0,none⟩)) (mv m) A=some (zh,kF A 0 m)∧wS zi 48 (.pointer (some ⟨0,0,none⟩)) (mv m0) A=some (zh,kF A 0 m0)∧jd zi O 19 [mv m] S=some (QS m,S) :=
    fun m A h1 h0 hm S=>⟨Qe h0 m,Qe h0 m0,zS.v hm S⟩
   have cs1:∀ S,Jv zi 33 9 (by_ k l) S=some (.string ⟨l.toArray⟩,S):=fun S=>Kt hk
   have cs2:∀ (x:List UInt8) S,Jv zi 33 9 (by_ 1 x) S=some (.string ⟨x.toArray⟩,S):=fun x S=>Kt Okl.read
   have tb:∀ t:TxV,t.Ok→wY.Ok ⟨a,b,c,d,e,f,t,bk0⟩:=fun t ht=>⟨ok0,ht,yT (few _ (by simp)),yT (few _ (by simp)),yT (few _ (by simp)),yT (few _ (by simp)),yT (few _ (by simp)),yT (few _ (by simp))⟩
   by_cases k0:a=0
   ·
    obtain ⟨t,x,o1,o2⟩:=Vr r
    have c3:=fun S=>zX.v (k:=1) (l:=r) Okl.read (by decide) (by omega) S
    rw [o1] at c3
    have s2:=ajB g2 t
    have q1:=wP A2 1 ⟨a,b,c,d,e,f,t,bk0⟩
    have q0:(kF A2 1 ⟨a,b,c,d,e,f,t,bk0⟩).get 0=some (.cells (fM m0) (.own []) 0):=(yF (by decide)).trans g3
    dsimp only at s2
    generalize kF A2 1 ⟨a,b,c,d,e,f,t,bk0⟩=A3 at s2 q1 q0
    have ht:t.Ok:=by
     rcases o2 with ⟨_,o2⟩ | ⟨_,_,rfl⟩
     ·
      exact adr ((JX r t).1 o2).1
     ·
      exact Ql.tx
    have hm:=tb t ht
    have hP:∀ x,qo x=true→r0=xB x→ZR x ⟨a,b,c,d,e,f,t,bk0⟩=true:=fun x hx hl=>by
     obtain ⟨i1,i2,i3,i4,i5,i6,i7⟩:=WA h6 hx hl
     have hf:=ZC hx
     have k0:x.kind=0:=by omega
     have h3:=(JX r x.tx).2 ⟨hf.tx k0,by rw [← i7,Je,if_pos k0]⟩
     refine vO.2 ⟨i1,i2,i3,i4,i5,i6,?_,hf.noblk (by omega)⟩
     rcases o2 with ⟨_,o2⟩ | ⟨_,o2,_⟩
     ·
      rw [o2] at h3;injection h3 with h3;exact h3.symm
     ·
      rw [o2] at h3;cases h3
    have hR:=aai h hm (by simp) hP
    obtain ⟨w0,w1,_⟩:=fin _ A3 q1 q0 hm zx.empty
    have w2:=fun S=>(fin _ A3 q1 q0 hm S).2.2
    have kk:=decide_eq_true k0
    have kl:decide (a=1)=false:=decide_eq_false (by omega)
    have hcm:=yL (d:=9) hm.b.okl.le
    refine ⟨_,_,hR,fun S=>?_⟩
    unfold QS at w2
    by_cases hb:qo (⟨a,b,c,d,e,f,t,bk0⟩:wY)=true
    ·
     simp only [if_pos hb] at w2
     by_cases hq:JZ (⟨a,b,c,d,e,f,t,bk0⟩:wY)=l
     ·
      rw [if_pos ⟨hb,hq⟩,if_pos ⟨hb,hq⟩]
      have dq:=decide_eq_true hq
      conv at hr =>
       rhs
       rw [hTe]
       simp only [zF.code,zF.rs,zSs,reduceIte,zk,zn,zo,zq,if_neg k2,a1,c1,c2,i0,i1,i2,i3,i4,i5,qA,kV (Wl (d:=3)),kV okA,bd,a2,s1,xX,zO,wQ g2,kk,c3,jk,s2,kl,wQ q1,xk q1 ne0,w2,cs1,cs2,vw,dq,w0]
      rw [hTe] at hr
      exact zF.runs hr (.inr rfl) (xk (wP A3 0 (⟨a,b,c,d,e,f,t,bk0⟩:wY)) ne0) rfl rfl cl (yV (all2 hcm rfl))
     ·
      rw [if_neg (fun h=>hq h.2),if_neg (fun h=>hq h.2)]
      have dq:=decide_eq_false hq
      conv at hr =>
       rhs
       rw [hTe]
       simp only [zF.code,zF.rs,zSs,reduceIte,zk,zn,zo,zq,if_neg k2,a1,c1,c2,i0,i1,i2,i3,i4,i5,qA,kV (Wl (d:=3)),kV okA,bd,a2,s1,xX,zO,wQ g2,kk,c3,jk,s2,kl,wQ q1,xk q1 ne0,w2,cs1,cs2,vw,dq,z0,w1]
      rw [hTe] at hr
      exact zF.runs hr (.inr rfl) (xk (wP A3 0 m0) ne0) rfl rfl cl rfl
    ·
     simp only [if_neg hb] at w2
     rw [if_neg (fun h=>hb h.1),if_neg (fun h=>hb h.1)]
     conv at hr =>
      rhs
      rw [hTe]
      simp only [zF.code,zF.rs,zSs,reduceIte,zk,zn,zo,zq,if_neg k2,a1,c1,c2,i0,i1,i2,i3,i4,i5,qA,kV (Wl (d:=3)),kV okA,bd,a2,s1,xX,zO,wQ g2,kk,c3,jk,s2,kl,wQ q1,xk q1 ne0,w2,cs1,cs2,vw,z0,w1]
     rw [hTe] at hr
     exact zF.runs hr (.inr rfl) (xk (wP A3 0 m0) ne0) rfl rfl cl rfl
   by_cases k1:a=1
   ·
    obtain ⟨y,x,⟨hy,hy3,o2⟩,c3⟩:=zU.v (k:=1) (l:=r) Okl.read (by decide) (by omega)
    have s2:=ajM g2 y
    have q1:=wP A2 1 ⟨a,b,c,d,e,f,⟨0,0⟩,y⟩
    have q0:(kF A2 1 ⟨a,b,c,d,e,f,⟨0,0⟩,y⟩).get 0=some (.cells (fM m0) (.own []) 0):=(yF (by decide)).trans g3
    dsimp only at s2
    generalize kF A2 1 ⟨a,b,c,d,e,f,⟨0,0⟩,y⟩=A3 at s2 q1 q0
    have hm:wY.Ok ⟨a,b,c,d,e,f,⟨0,0⟩,y⟩:=⟨hy,Ql.tx,yT (few _ (by simp)),yT (few _ (by simp)),yT (few _ (by simp)),yT (few _ (by simp)),yT (few _ (by simp)),yT (few _ (by simp))⟩
    have hP:∀ x,qo x=true→r0=xB x→ZR x ⟨a,b,c,d,e,f,⟨0,0⟩,y⟩=true:=fun x hx hl=>by
     obtain ⟨i1,i2,i3,i4,i5,i6,i7⟩:=WA h6 hx hl
     have hf:=ZC hx
     have k1:x.kind=1:=by omega
     have h3:=(WO r ⟨x.b.slot,x.b.miner,x.b.variant,x.b.parent,0,x.b.txs⟩).2 ⟨⟨hf.blk k1,rfl⟩,by rw [← i7,Je,if_neg (by omega),if_pos k1];rfl⟩
     refine vO.2 ⟨i1,i2,i3,i4,i5,i6,hf.notx (by omega),?_⟩
     rcases o2 with ⟨_,o2,_⟩ | ⟨_,o2,_⟩
     ·
      rw [o2] at h3
      simp only [Option.some.injEq,vk.mk.injEq,true_and] at h3
      exact ZI.2 ⟨h3.1.symm,h3.2.1.symm,h3.2.2.1.symm,h3.2.2.2.1.symm,h3.2.2.2.2.symm⟩
     ·
      rw [o2] at h3;cases h3
    have hR:=aai h hm hy3 hP
    obtain ⟨w0,w1,_⟩:=fin _ A3 q1 q0 hm zx.empty
    have w2:=fun S=>(fin _ A3 q1 q0 hm S).2.2
    have kk:=decide_eq_true k1
    have kl:decide (a=0)=false:=decide_eq_false k0
    have hcm:=yL (d:=9) hm.b.okl.le
    refine ⟨_,_,hR,fun S=>?_⟩
    unfold QS at w2
    by_cases hb:qo (⟨a,b,c,d,e,f,⟨0,0⟩,y⟩:wY)=true
    ·
     simp only [if_pos hb] at w2
     by_cases hq:JZ (⟨a,b,c,d,e,f,⟨0,0⟩,y⟩:wY)=l
     ·
      rw [if_pos ⟨hb,hq⟩,if_pos ⟨hb,hq⟩]
      have dq:=decide_eq_true hq
      conv at hr =>
       rhs
       rw [hTe]
       simp only [zF.code,zF.rs,zSs,reduceIte,zk,zn,zo,zq,if_neg k2,a1,c1,c2,i0,i1,i2,i3,i4,i5,qA,kV (Wl (d:=3)),kV okA,bd,a2,s1,xX,zO,wQ g2,kk,c3,jg,s2,kl,wQ q1,xk q1 hy.ne,w2,cs1,cs2,vw,dq,w0]
      rw [hTe] at hr
      exact zF.runs hr (.inr rfl) (xk (wP A3 0 (⟨a,b,c,d,e,f,⟨0,0⟩,y⟩:wY)) hy.ne) rfl rfl cl (yV (all2 hcm rfl))
     ·
      rw [if_neg (fun h=>hq h.2),if_neg (fun h=>hq h.2)]
      have dq:=decide_eq_false hq
      conv at hr =>
       rhs
       rw [hTe]
       simp only [zF.code,zF.rs,zSs,reduceIte,zk,zn,zo,zq,if_neg k2,a1,c1,c2,i0,i1,i2,i3,i4,i5,qA,kV (Wl (d:=3)),kV okA,bd,a2,s1,xX,zO,wQ g2,kk,c3,jg,s2,kl,wQ q1,xk q1 hy.ne,w2,cs1,cs2,vw,dq,z0,w1]
      rw [hTe] at hr
      exact zF.runs hr (.inr rfl) (xk (wP A3 0 m0) ne0) rfl rfl cl rfl
    ·
     simp only [if_neg hb] at w2
     rw [if_neg (fun h=>hb h.1),if_neg (fun h=>hb h.1)]
     conv at hr =>
      rhs
      rw [hTe]
      simp only [zF.code,zF.rs,zSs,reduceIte,zk,zn,zo,zq,if_neg k2,a1,c1,c2,i0,i1,i2,i3,i4,i5,qA,kV (Wl (d:=3)),kV okA,bd,a2,s1,xX,zO,wQ g2,kk,c3,jg,s2,kl,wQ q1,xk q1 hy.ne,w2,cs1,cs2,vw,z0,w1]
     rw [hTe] at hr
     exact zF.runs hr (.inr rfl) (xk (wP A3 0 m0) ne0) rfl rfl cl rfl
   have hm:=tb ⟨0,0⟩ Ql.tx
   have hP:∀ x,qo x=true→r0=xB x→ZR x ⟨a,b,c,d,e,f,⟨0,0⟩,bk0⟩=true:=fun x hx hl=>by
    obtain ⟨i1,i2,i3,i4,i5,i6,i7⟩:=WA h6 hx hl
    have hf:=ZC hx
    exact vO.2 ⟨i1,i2,i3,i4,i5,i6,hf.notx (by omega),hf.noblk (by omega)⟩
   have hR:=aai h hm (by simp) hP
   obtain ⟨w0,w1,_⟩:=fin _ A2 g2 g3 hm zx.empty
   have w2:=fun S=>(fin _ A2 g2 g3 hm S).2.2
   have kk:=decide_eq_false k0
   have kl:=decide_eq_false k1
   have hcm:=yL (d:=9) hm.b.okl.le
   refine ⟨_,_,hR,fun S=>?_⟩
   unfold QS at w2
   by_cases hb:qo (⟨a,b,c,d,e,f,⟨0,0⟩,bk0⟩:wY)=true
   ·
    simp only [if_pos hb] at w2
    by_cases hq:JZ (⟨a,b,c,d,e,f,⟨0,0⟩,bk0⟩:wY)=l
    ·
     rw [if_pos ⟨hb,hq⟩,if_pos ⟨hb,hq⟩]
     have dq:=decide_eq_true hq
     conv at hr =>
      rhs
      rw [hTe]
      simp only [zF.code,zF.rs,zSs,reduceIte,zk,zn,zo,zq,if_neg k2,a1,c1,c2,i0,i1,i2,i3,i4,i5,qA,kV (Wl (d:=3)),kV okA,bd,a2,s1,xX,zO,wQ g2,kk,kl,xk g2 ne0,w2,cs1,cs2,vw,dq,w0]
     rw [hTe] at hr
     exact zF.runs hr (.inr rfl) (xk (wP A2 0 (⟨a,b,c,d,e,f,⟨0,0⟩,bk0⟩:wY)) ne0) rfl rfl cl (yV (all2 hcm rfl))
    ·
     rw [if_neg (fun h=>hq h.2),if_neg (fun h=>hq h.2)]
     have dq:=decide_eq_false hq
     conv at hr =>
      rhs
      rw [hTe]
      simp only [zF.code,zF.rs,zSs,reduceIte,zk,zn,zo,zq,if_neg k2,a1,c1,c2,i0,i1,i2,i3,i4,i5,qA,kV (Wl (d:=3)),kV okA,bd,a2,s1,xX,zO,wQ g2,kk,kl,xk g2 ne0,w2,cs1,cs2,vw,dq,z0,w1]
     rw [hTe] at hr
     exact zF.runs hr (.inr rfl) (xk (wP A2 0 m0) ne0) rfl rfl cl rfl
   ·
    simp only [if_neg hb] at w2
    rw [if_neg (fun h=>hb h.1),if_neg (fun h=>hb h.1)]
    conv at hr =>
     rhs
     rw [hTe]
     simp only [zF.code,zF.rs,zSs,reduceIte,zk,zn,zo,zq,if_neg k2,a1,c1,c2,i0,i1,i2,i3,i4,i5,qA,kV (Wl (d:=3)),kV okA,bd,a2,s1,xX,zO,wQ g2,kk,kl,xk g2 ne0,w2,cs1,cs2,vw,z0,w1]
    rw [hTe] at hr
    exact zF.runs hr (.inr rfl) (xk (wP A2 0 m0) ne0) rfl rfl cl rfl
end Go.Proofs.Ytfjogganfjkckaa
namespace Go.Proofs.Ytfjogganfjkckaa
open Go.Abs
theorem aj3 (m:wY) (S:zx):∃ S2,JK (mv m) S=some (.pointer (some ⟨S.next,0,none⟩),S2)∧S2.get S.next=some (.cells (fM m) (.own []) 0)∧Ext S S2∧S.next < S2.next:=adv (mv m) S
theorem acF (m:wY) (S:zx):∃ S2,wS zi 48 (.pointer (some ⟨S.next,0,none⟩)) (mv m) (S.push (.cells (fM m0) (.own []) 0))=some (zh,S2)∧S2.get S.next=some (.cells (fM m) (.own []) 0)∧Ext S S2∧S.next < S2.next :=
 KG S (by rw [qG];rfl) Qc rfl (ajw m)
abbrev tM:Ty:=.pair (.int .i64) (.pair (.int .i64) (.pair (.int .i64) (.pair (.int .i64) (.pair (.int .i64) (.pair (.int .i64) (.pair tTx (.pair tBk .unit)))))))
theorem alP (x:tM.Val) (hg:tM.Good x):∃ m:wY,tM.Y2 x=fM m∧m.Ok:=by
 obtain ⟨a,b,c,d,e,f,t,y,u⟩:=x
 obtain ⟨h1,h2,h3,h4,h5,h6,h7,h8,_⟩:=hg
 obtain ⟨t',t1,ht⟩:=akY t h7
 obtain ⟨y',y1,hy⟩:=als y h8
 refine ⟨⟨a,b,c,d,e,f,t',y'⟩,?_,⟨hy,ht,YD h1,YD h2,YD h3,YD h4,YD h5,YD h6⟩⟩
 show [Value.int .i64 a]++([Value.int .i64 b]++([Value.int .i64 c]++([Value.int .i64 d]++([Value.int .i64 e]++([Value.int .i64 f]++(tTx.Y2 t++(tBk.Y2 y++[])))))))=_
 rw [t1,y1];rfl
theorem aex {l:List UInt8} {x y:wY} {e f:Int} (h:J6 l x e) (g:J6 l y f):ZR x y=true∧e=f:=by
 obtain ⟨_,_,⟨rfl,h1,h2⟩ | ⟨rfl,rfl,h2⟩⟩:=h <;> obtain ⟨_,_,⟨rfl,g1,g2⟩ | ⟨rfl,rfl,g2⟩⟩:=g
 ·
  exact ⟨adP h1 g1 (h2.symm.trans g2),rfl⟩
 ·
  exact absurd h2 (g2 _ h1)
 ·
  exact absurd g2 (h2 _ g1)
 ·
  exact ⟨aeP _,rfl⟩
theorem V6 {m:wY} (h:qo m=true):(JZ m).length≤210:=by
 unfold JZ
 have:=aau (ZC h);have:=JJ (abV m)
 rw [List.length_append];omega
end Go.Proofs.Ytfjogganfjkckaa
namespace Go.Proofs.Ytfjogganfjkckaa
open Go.Abs
abbrev encS (s:List UInt8):Value:=.string ⟨s.toArray⟩
abbrev encI (n:Int):Value:=.int .i64 n
theorem afs:aef encS .string:=⟨fun _=>rfl,fun a b=>by
 show some (a.toArray == b.toArray)=_
 congr 1
 by_cases h:a=b
 ·
  subst h;simp
 ·
  rw [decide_eq_false h]
  refine beq_eq_false_iff_ne.2 fun h2=>h ?_
  have:=congrArg Array.toList h2
  exact this⟩
abbrev aa6 (l:List (List UInt8)):List (List UInt8×Value):=l.map fun s=>(s,.bool true)
abbrev QC (l:List (Int×List UInt8)):List (Int×Value):=l.map fun p=>(p.1,encS p.2)
theorem aho (l:List (List UInt8)) (s:List UInt8):(Vs (aa6 l) s).getD (.bool false)=.bool (decide (s ∈ l)):=by
 induction l with
 | nil=>rfl
 | cons a l ih =>
  simp only [List.map_cons,Vs]
  by_cases h:a=s
  ·
   simp [h]
  ·
   rw [if_neg h,ih]
   have:s≠a:=fun h2=>h h2.symm
   simp [this]
theorem ahQ (l:List (List UInt8)) (s:List UInt8):ahT (aa6 l) s (.bool true)=aa6 (if s ∈ l then l else l++[s]):=by
 induction l with
 | nil=>rfl
 | cons a l ih =>
  simp only [List.map_cons,ahT]
  by_cases h:a=s
  ·
   simp [h]
  ·
   rw [if_neg h,ih]
   have:s≠a:=fun h2=>h h2.symm
   by_cases h2:s ∈ l <;> simp [h2,this]
def VE:List (Int×List UInt8)→Int→Option (List UInt8)
 | [],_=>none
 | (a,t)::l,n=>if a=n then some t else VE l n
theorem KQ (l:List (Int×List UInt8)) (n:Int):Vs (QC l) n=(VE l n).map encS:=by
 induction l with
 | nil=>rfl
 | cons a l ih =>
  simp only [List.map_cons,Vs,VE]
  by_cases h:a.1=n
  ·
   rw [if_pos h,if_pos h];rfl
  ·
   rw [if_neg h,if_neg h,ih]
theorem afq {l:List (Int×List UInt8)} {n:Int} (h:VE l n=none) (t:List UInt8):ahT (QC l) n (encS t)=QC (l++[(n,t)]):=by
 rw [aaQ (by rw [KQ,h];rfl)]
 simp
structure Gt (S:zx) (q:Nat) (bad:List Int) (said:List (List UInt8)) (known:List (Int×List UInt8)):Prop where
 lt:q < S.next
 cell:∃ k a b,Okl k bad∧k≠2∧bad.length≤17592186044416∧a < S.next∧b < S.next∧a≠b∧S.get q=some (.cells [iz k bad,.map (some a),.map (some b)] (.own []) 0)∧MapAt encS S a (aa6 said)∧MapAt encI S b (QC known)
theorem Gt.ext {S S1:zx} {q:Nat} {bad:List Int} {said:List (List UInt8)} {known:List (Int×List UInt8)} (h:Gt S q bad said known) (k:Ext S S1):Gt S1 q bad said known:=by
 obtain ⟨k0,a,b,h1,h2,h3,h4,h5,h6,h7,h8,h9⟩:=h.cell
 exact ⟨Nat.lt_of_lt_of_le h.lt k.1,k0,a,b,h1,h2,h3,Nat.lt_of_lt_of_le h4 k.1,Nat.lt_of_lt_of_le h5 k.1,h6,by rw [k.2 q h.lt];exact h7,h8.keep (k.2 a h4),h9.keep (k.2 b h5)⟩
section
variable {S:zx} {q:Nat} {bad:List Int} {said:List (List UInt8)} {known:List (Int×List UInt8)}
theorem wM.v (h:Gt S q bad said known) (n:Int):jd zi O wM.id [.pointer (some ⟨q,0,none⟩),.int .i64 n] S=some (.bool (bad.any fun x=>decide (n=x)),S):=by
 obtain ⟨T,hTe⟩:∃ T,T=(.pointer (some ⟨q,0,none⟩)::.int .i64 n::zh::zh::zh::zh::zh::zh::zh::zh::zh::[]):=⟨_,rfl⟩
 have hr:zL zi O false wM.code T S=zL zi O false wM.code T S:=rfl
 obtain ⟨k0,a,b,h1,h2,h3,h4,h5,h6,h7,h8,h9⟩:=h.cell
 have l1:jl zi false 24 (.pointer (some ⟨q,0+0,none⟩)) S=some (iz k0 bad,S):=by
  have:=QZ (t:=24) (o:=0+0) h7 ajA rfl (by intro l;unfold iz vs sv;split <;> (intro hh;cases hh))
  rwa [Vz,if_neg h2] at this
 have c1:=fun S=>slices_Contains.v h1 h2 h3 (v:=n) S
 conv at hr =>
  rhs
  rw [hTe]
  simp only [wM.code,wM.rs,zSs,reduceIte,zk,zn,zo,zq,qX,XI,l1,if_neg h2,c1]
 rw [hTe] at hr
 exact wM.runs hr (.inr rfl)
end
def Ye (b:vk):List UInt8:=if jZ b then XA b else []
theorem y8.v {b:vk} (hb:b.Ok) (S:zx):jd zi O y8.id [bv b] S=some (encS (Ye b),S):=by
 obtain ⟨T,hTe⟩:∃ T,T=(bv b::zh::zh::zh::zh::zh::zh::zh::zh::zh::zh::zh::[]):=⟨_,rfl⟩
 have hr:zL zi O false y8.code T zx.empty=zL zi O false y8.code T zx.empty:=rfl
 obtain ⟨k,x,e,h1,_,h3,h4⟩:=aep b
 have c1:=fun S=>wL.v hb S
 rw [h3] at c1
 have hx:Ye b=x:=by
  unfold Ye
  rcases h4 with ⟨_,g1,g2,_⟩ | ⟨_,g1,g2,_⟩
  ·
   rw [if_pos g1,g2]
  ·
   rw [g1,g2];rfl
 have s1:∀ S,Jv zi 33 9 (by_ (if k=2 then 1 else k) x) S=some (.string ⟨x.toArray⟩,S):=fun S=>Kt h1.dem
 have lb:=XB (qp b) hb.ne
 rw [hx]
 conv at hr =>
  rhs
  rw [hTe]
  simp only [y8.code,y8.rs,zSs,reduceIte,zk,zn,zo,zq,J5,lb,c1,Vz,s1]
 rw [hTe] at hr
 exact y8.runs hr (.inr rfl) (all1 (yP hb.okl.le)) rfl
theorem wK.v {k:Nat} {l:List Int} (hk:Okl k l) (k2:k≠2) (hl:l.length≤17592186044416) (S:zx):jd zi O wK.id [iz k l] S=some (iz (if k=0 then 0 else 2) l,S):=by
 obtain ⟨T,hTe⟩:∃ T,T=(iz k l::zh::zh::zh::zh::zh::zh::zh::[]):=⟨_,rfl⟩
 have hr:zL zi O false wK.code T S=zL zi O false wK.code T S:=rfl
 by_cases h0:k=0
 ·
  subst h0
  have:=hk.nil rfl
  subst this
  conv at hr =>
   rhs
   rw [hTe]
   simp only [wK.code,wK.rs,zSs,reduceIte,zk,zn,zo,zq,iz]
  rw [hTe] at hr
  exact wK.runs hr (.inr rfl)
 ·
  have cp:∀ S,yB zi 24 24 (iz 2 []) (iz k l) S=some (iz 2 l,S):=fun S=>by
   rw [Ky Okl.own (by decide) hk (by simp;omega),if_neg (fun h=>by have:=h.1;omega),List.nil_append]
  have iz0:∀ S,jU zi 24 0 [] S=some (iz 2 [],S):=fun S=>by rw [Vp];rfl
  rw [if_neg h0]
  conv at hr =>
   rhs
   rw [hTe]
   simp only [wK.code,wK.rs,zSs,reduceIte,zk,zn,zo,zq,if_neg k2,ahy hk,decide_eq_false h0,cp,iz0]
  rw [hTe] at hr
  exact wK.runs hr (.inr rfl)
theorem qP.v {k:Nat} {l:List Int} (hk:Okl k l) (k2:k≠2) (hl:l.length≤17592186044416) (S:zx):∃ q S1,jd zi O qP.id [iz k l] S=some (.pointer (some ⟨q,0,none⟩),S1)∧Gt S1 q l [] []∧Ext S S1∧S.next≤q:=by
 obtain ⟨T,hTe⟩:∃ T,T=(iz k l::zh::zh::zh::zh::zh::zh::zh::zh::[]):=⟨_,rfl⟩
 have hr:zL zi O false qP.code T S=zL zi O false qP.code T S:=rfl
 have c1:=fun S=>wK.v hk k2 hl S
 have hk0:Okl (if k=0 then 0 else 2) l:=⟨by split <;> omega,fun h=>by split at h <;> first | (exact hk.nil ‹_›) | omega⟩
 generalize (if k=0 then 0 else 2)=k0 at c1 hk0
 obtain ⟨S2,m1,m2,m3,m4,m5⟩:=acJ (P:=zi) (t:=59) encS S
 obtain ⟨S3,n1,n2,n3,n4,n5⟩:=acJ (P:=zi) (t:=60) encI S2
 have bd:=fun S=>Jj (y0:=iz (if k0=2 then 1 else k0) l) (y1:=.map (some S.next)) (y2:=.map (some S2.next)) YO rfl rfl S
 have bd:∀ S5,yw zi 62 [(0,iz (if k0=2 then 1 else k0) l),(1,.map (some S.next)),(2,.map (some S2.next))] S5=some (.agg [iz (if k0=2 then 1 else k0) l,.map (some S.next),.map (some S2.next)].toArray,S5):=fun S5=>Jj YO rfl rfl S5
 obtain ⟨S4,b1,b2,b3,b4⟩:=adv (.agg [iz (if k0=2 then 1 else k0) l,.map (some S.next),.map (some S2.next)].toArray) S3
 have dm:dem (iz k0 l)=iz (if k0=2 then 1 else k0) l:=Vz
 refine ⟨S3.next,S4,?_,⟨b4,_,S.next,S2.next,hk0.dem,WJ _,hl,by omega,by omega,by omega,b2,?_,?_⟩,m5.trans (n5.trans b3),by omega⟩
 ·
  conv at hr =>
   rhs
   rw [hTe]
   simp only [qP.code,qP.rs,zSs,reduceIte,zk,zn,zo,zq,if_neg k2,c1,dm,m1,n1,bd,b1]
  rw [hTe] at hr
  exact qP.runs hr (.inr rfl)
 ·
  exact (m2.keep (n4 _ (by omega))).keep (b3.2 _ (by omega))
 ·
  exact n2.keep (b3.2 _ (by omega))
end Go.Proofs.Ytfjogganfjkckaa
namespace Go.Proofs.Ytfjogganfjkckaa
open Go.Abs
def Zf (S S1:zx):Prop:=S.next≤S1.next∧∀ p cs own e,p < S.next→S.get p=some (.cells cs own e)→S1.get p=S.get p
theorem Zf.refl (S:zx):Zf S S:=⟨Nat.le_refl _,fun _ _ _ _ _ _=>rfl⟩
theorem Zf.trans {S S1 S2:zx} (h:Zf S S1) (k:Zf S1 S2):Zf S S2:=⟨Nat.le_trans h.1 k.1,fun p cs own e hp hg=>by
 have h1:=h.2 p cs own e hp hg
 rw [k.2 p cs own e (Nat.lt_of_lt_of_le hp h.1) (h1.trans hg),h1]⟩
theorem Zf.ext {S S1:zx} (h:Ext S S1):Zf S S1:=⟨h.1,fun p _ _ _ hp _=>h.2 p hp⟩
def ai7 (said:List (List UInt8)) (data:List UInt8):List (List UInt8):=if data ∈ said then said else said++[data]
def ahI (known:List (Int×List UInt8)) (b:vk):List (Int×List UInt8):=if (VE known (nameOf b)).isSome then known else known++[(nameOf b,Ye b)]
def ade (known:List (Int×List UInt8)) (m:wY) (e:Int):List (Int×List UInt8):=if e=0∧m.kind=1 then ahI known m.b else known
theorem acp {P:Program} {t:TypeId} {x k v u:Value} {S S1:zx} (h:yZ P t x k v S=some (u,S1)):S.log.length≤S1.log.length:=by
 unfold yZ at h
 repeat' split at h
 all_goals first | (cases h;done) | (cases h;exact Nat.le_succ _)
theorem afP {m:wY} {S S2:zx} {u:Value} (h:wS zi 48 (.pointer (some ⟨S.next,0,none⟩)) (mv m) (S.push (.cells (fM m0) (.own []) 0))=some (u,S2)):S.log.length < S2.log.length:=by
 have hg:(S.push (.cells (fM m0) (.own []) 0)).get S.next=some (.cells (fM m0) (.own []) 0):=by rw [zx.yA,if_pos rfl]
 rw [vU (x:=mv m) (n:=13) hg Qc (by rw [qG];rfl) (by rw [qG,List.toList_toArray];exact ajw m) (by simp [fM])] at h
 cases h
 exact Nat.lt_succ_self _
section
variable {S:zx} {q:Nat} {bad:List Int} {said:List (List UInt8)} {known:List (Int×List UInt8)}
theorem Gt.say (h:Gt S q bad said known) {a b k:Nat} (h1:Okl k bad) (h2:k≠2) (h3:bad.length≤17592186044416) (h4:a < S.next) (h5:b < S.next) (h6:a≠b) (h7:S.get q=some (.cells [iz k bad,.map (some a),.map (some b)] (.own []) 0)) (h8:MapAt encS S a (aa6 said)) (h9:MapAt encI S b (QC known)) (data:List UInt8) :
  ∃ S1,yZ zi 59 (.map (some a)) (encS data) (.bool true) S=some (zh,S1)∧S1.next=S.next∧S1.get q=some (.cells [iz k bad,.map (some a),.map (some b)] (.own []) 0)∧MapAt encS S1 a (aa6 (ai7 said data))∧MapAt encI S1 b (QC known)∧Zf S S1:=by
 obtain ⟨S1,m1,m2,m3,m4,_⟩:=ab7 afs h8 Ws aal data (.bool true)
 obtain ⟨es,c,g,_⟩:=h8
 have hne:∀ p cs own e,S.get p=some (.cells cs own e)→p≠a:=fun p cs own e hp hpa=>by rw [hpa,g] at hp;cases hp
 rw [ahQ] at m2
 exact ⟨S1,m1,m3,(m4 q (hne q _ _ _ h7)).trans h7,m2,h9.keep (m4 b (fun h=>h6 h.symm)),Nat.le_of_eq m3.symm,fun p cs own e _ hg=>m4 p (hne p _ _ _ hg)⟩
theorem Gt.know {a b k:Nat} (h4:a < S.next) (h5:b < S.next) (h6:a≠b) (h7:S.get q=some (.cells [iz k bad,.map (some a),.map (some b)] (.own []) 0)) (h8:MapAt encS S a (aa6 said)) (h9:MapAt encI S b (QC known)) {n:Int} {t:List UInt8} (hn:VE known n=none) :
  ∃ S1,yZ zi 60 (.map (some b)) (encI n) (encS t) S=some (zh,S1)∧S1.next=S.next∧S1.get q=some (.cells [iz k bad,.map (some a),.map (some b)] (.own []) 0)∧MapAt encS S1 a (aa6 said)∧MapAt encI S1 b (QC (known++[(n,t)]))∧Zf S S1:=by
 obtain ⟨S1,m1,m2,m3,m4,_⟩:=ab7 Xi h9 Jw abv n (encS t)
 obtain ⟨es,c,g,_⟩:=h9
 have hne:∀ p cs own e,S.get p=some (.cells cs own e)→p≠b:=fun p cs own e hp hpa=>by rw [hpa,g] at hp;cases hp
 rw [afq hn] at m2
 exact ⟨S1,m1,m3,(m4 q (hne q _ _ _ h7)).trans h7,h8.keep (m4 a h6),m2,Nat.le_of_eq m3.symm,fun p cs own e _ hg=>m4 p (hne p _ _ _ hg)⟩
theorem jq.v (h:Gt S q bad said known) {k:Nat} {data:List UInt8} (hk:Okl k data) (k2:k≠2) (hl:data.length≤140737488355328) :
  ∃ m e S1,J6 data m e∧jd zi O jq.id [.pointer (some ⟨q,0,none⟩),by_ k data] S=some (.tuple #[],S1)∧Gt S1 q bad (ai7 said data) (ade known m e)∧Zf S S1∧S.log.length < S1.log.length:=by
 obtain ⟨T,hTe⟩:∃ T,T=(.pointer (some ⟨q,0,none⟩)::by_ k data::zh::zh::zh::zh::zh::zh::zh::zh::zh::zh::zh::zh::zh::zh::zh::zh::zh::zh::zh::zh::zh::zh::zh::zh::zh::zh::zh::zh::zh::zh::zh::zh::zh::zh::zh::zh::zh::zh::zh::zh::zh::zh::zh::zh::zh::zh::zh::[]):=⟨_,rfl⟩
 have hr:zL zi O false jq.code T S=zL zi O false jq.code T S:=rfl
 obtain ⟨k0,a,b,h1,h2,h3,h4,h5,h6,h7,h8,h9⟩:=h.cell
 have l1:jl zi false 59 (.pointer (some ⟨q,0+1,none⟩)) S=some (.map (some a),S):=QT (t:=59) (o:=0+1) h7 WG rfl
 have s1:∀ S,Jv zi 33 9 (by_ k data) S=some (.string ⟨data.toArray⟩,S):=fun S=>Kt hk
 have s2:∀ S,qL zi false false 33 9 (by_ k data) S=some (.string ⟨data.toArray⟩,S):=fun S=>by rw [YM];exact s1 S
 obtain ⟨S1,m1,m2,m3,m4,m5,m6⟩:=h.say h1 h2 h3 h4 h5 h6 h7 h8 h9 data
 obtain ⟨m,e,hR,c1⟩:=wR.v hk k2 hl
 obtain ⟨S2,n1,n2,n3,n4⟩:=acF m S1
 have am:yR zi 48 S1=some (.pointer (some ⟨S1.next,0,none⟩),S1.push (.cells (fM m0) (.own []) 0)):=Xr S1
 have hq1:q < S1.next:=by rw [m2];exact h.lt
 have st2:Zf S S2:=m6.trans (Zf.ext n3)
 have lg:S.log.length < S2.log.length:=Nat.lt_of_le_of_lt (acp m1) (afP n1)
 have G2:Gt S2 q bad (ai7 said data) known:=⟨Nat.lt_of_lt_of_le hq1 n3.1,k0,a,b,h1,h2,h3,by have:=n3.1;omega,by have:=n3.1;omega,h6,(n3.2 q hq1).trans m3,m4.keep (n3.2 a (by omega)),m5.keep (n3.2 b (by omega))⟩
 have hR2:=hR
 obtain ⟨ok,_,hcase⟩:=hR2
 by_cases he:e=0
 ·
  subst he
  have d1:=wQ n2
  by_cases hkd:m.kind=1
  ·
   have dk:=decide_eq_true hkd
   have g2q:=(n3.2 q hq1).trans m3
   have l2:jl zi false 60 (.pointer (some ⟨q,0+2,none⟩)) S2=some (.map (some b),S2):=QT (t:=60) (o:=0+2) g2q Yf rfl
   have c2:=fun S=>wZ.v ok.b S
   have lk:=adQ Xi (m5.keep (n3.2 b (by omega))) Jw abv adg rfl (nameOf m.b)
   rw [KQ] at lk
   cases hf:VE known (nameOf m.b) with
   | some t =>
    rw [hf] at lk
    simp only [Option.map_some,Option.map_none,Option.getD_some,Option.getD_none,Option.isSome_some,Option.isSome_none] at lk
    refine ⟨m,0,S2,hR,?_,?_,st2,lg⟩
    ·
     conv at hr =>
      rhs
      rw [hTe]
      simp only [jq.code,jq.rs,zSs,reduceIte,zk,zn,zo,zq,if_neg k2,qX,qJ,l1,s1,s2,m1,c1,am,n1,zO,d1,dk,jg,y9 n2 ok.b.ne,c2,vS,l2,lk]
     rw [hTe] at hr
     exact jq.runs hr (.inl rfl)
    ·
     rw [ade,if_pos ⟨rfl,hkd⟩,ahI,hf];exact G2
   | none =>
    rw [hf] at lk
    simp only [Option.map_some,Option.map_none,Option.getD_some,Option.getD_none,Option.isSome_some,Option.isSome_none] at lk
    obtain ⟨S3,p1,p2,p3,p4,p5,p6⟩:=Gt.know (t:=Ye m.b) (by have:=n3.1;omega) (by have:=n3.1;omega) h6 g2q (m4.keep (n3.2 a (by omega))) (m5.keep (n3.2 b (by omega))) hf
    have c3:=fun S=>y8.v ok.b S
    have okm:okq 3 (.map (some b))=true:=rfl
    refine ⟨m,0,S3,hR,?_,?_,st2.trans p6,Nat.lt_of_lt_of_le lg (acp p1)⟩
    ·
     conv at hr =>
      rhs
      rw [hTe]
      simp only [jq.code,jq.rs,zSs,reduceIte,zk,zn,zo,zq,if_neg k2,qX,qJ,l1,s1,s2,m1,c1,am,n1,zO,d1,dk,jg,y9 n2 ok.b.ne,c2,vS,l2,lk,kV okm,Ja,c3,qB g2q,p1]
     rw [hTe] at hr
     exact jq.runs hr (.inl rfl)
    ·
     rw [ade,if_pos ⟨rfl,hkd⟩,ahI,hf]
     exact ⟨by rw [p2];exact G2.lt,k0,a,b,h1,h2,h3,by have:=n3.1;omega,by have:=n3.1;omega,h6,p3,p4,p5⟩
  ·
   have dk:=decide_eq_false hkd
   refine ⟨m,0,S2,hR,?_,?_,st2,lg⟩
   ·
    conv at hr =>
     rhs
     rw [hTe]
     simp only [jq.code,jq.rs,zSs,reduceIte,zk,zn,zo,zq,if_neg k2,qX,qJ,l1,s1,s2,m1,c1,am,n1,zO,d1,dk]
    rw [hTe] at hr
    exact jq.runs hr (.inr rfl)
   ·
    rw [ade,if_neg (fun hh=>hkd hh.2)];exact G2
 ·
  have de:=decide_eq_false he
  refine ⟨m,e,S2,hR,?_,?_,st2,lg⟩
  ·
   conv at hr =>
    rhs
    rw [hTe]
    simp only [jq.code,jq.rs,zSs,reduceIte,zk,zn,zo,zq,if_neg k2,qX,qJ,l1,s1,s2,m1,c1,am,n1,de]
   rw [hTe] at hr
   exact jq.runs hr (.inr rfl)
  ·
   rw [ade,if_neg (fun hh=>he hh.1)];exact G2
def isBad (bad:List Int) (n:Int):Bool:=bad.any fun x=>decide (n=x)
def xQ (bad:List Int) (said:List (List UInt8)) (known:List (Int×List UInt8)) (data:List UInt8) (m:wY) (e:Int):Bool×List (Int×List UInt8) :=
 if e=0 then (if data ∈ said then (true,known) else if isBad bad m.frm then (if m.kind=1 then (match VE known (nameOf m.b) with
  | some t=>(decide (t=Ye m.b),known)
  | none=>if isBad bad m.b.miner then (true,known++[(nameOf m.b,Ye m.b)]) else (false,known)) else (true,known)) else (false,known)) else (false,known)
theorem zM.v (h:Gt S q bad said known) {k:Nat} {data:List UInt8} (hk:Okl k data) (k2:k≠2) (hl:data.length≤140737488355328) :
  ∃ m e S1,J6 data m e∧jd zi O zM.id [.pointer (some ⟨q,0,none⟩),by_ k data] S=some (.bool (xQ bad said known data m e).1,S1)∧Gt S1 q bad said (xQ bad said known data m e).2∧Zf S S1∧S.log.length < S1.log.length:=by
 obtain ⟨T,hTe⟩:∃ T,T=(.pointer (some ⟨q,0,none⟩)::by_ k data::zh::zh::zh::zh::zh::zh::zh::zh::zh::zh::zh::zh::zh::zh::zh::zh::zh::zh::zh::zh::zh::zh::zh::zh::zh::zh::zh::zh::zh::zh::zh::zh::zh::zh::zh::zh::zh::zh::zh::zh::zh::zh::zh::zh::zh::zh::zh::zh::zh::zh::zh::zh::zh::zh::zh::zh::zh::zh::zh::zh::zh::zh::zh::zh::zh::zh::[]):=⟨_,rfl⟩
 have hr:zL zi O false zM.code T S=zL zi O false zM.code T S:=rfl
 obtain ⟨m,e,hR,c1⟩:=wR.v hk k2 hl
 obtain ⟨S2,n1,n2,n3,n4⟩:=acF m S
 have am:yR zi 48 S=some (.pointer (some ⟨S.next,0,none⟩),S.push (.cells (fM m0) (.own []) 0)):=Xr S
 have st2:Zf S S2:=Zf.ext n3
 have lg:S.log.length < S2.log.length:=afP n1
 have G2:=h.ext n3
 obtain ⟨k0,a,b,h1,h2,h3,h4,h5,h6,h7,h8,h9⟩:=G2.cell
 have hR2:=hR
 obtain ⟨ok,_,hcase⟩:=hR2
 by_cases he:e=0
 ·
  subst he
  have l1:jl zi false 59 (.pointer (some ⟨q,0+1,none⟩)) S2=some (.map (some a),S2):=QT (t:=59) (o:=0+1) h7 WG rfl
  have s1:∀ S,Jv zi 33 9 (by_ k data) S=some (.string ⟨data.toArray⟩,S):=fun S=>Kt hk
  have s2:∀ S,qL zi false false 33 9 (by_ k data) S=some (.string ⟨data.toArray⟩,S):=fun S=>by rw [YM];exact s1 S
  have lk:=agJ afs h8 Ws aal ai4 rfl data
  rw [aho] at lk
  by_cases hs:data ∈ said
  ·
   have ds:=decide_eq_true hs
   rw [ds] at lk
   have hp:xQ bad said known data m 0=(true,known):=by rw [xQ,if_pos rfl,if_pos hs]
   refine ⟨m,0,S2,hR,?_,by rw [hp];exact G2,st2,lg⟩
   rw [hp]
   conv at hr =>
    rhs
    rw [hTe]
    simp only [zM.code,zM.rs,zSs,reduceIte,zk,zn,zo,zq,if_neg k2,c1,am,n1,qX,qJ,l1,s1,s2,lk]
   rw [hTe] at hr
   exact zM.runs hr (.inr rfl)
  ·
   have ds:=decide_eq_false hs
   rw [ds] at lk
   have cb:=wM.v G2 m.frm
   have d1:=yJ n2
   have d0:=wQ n2
   cases hb:isBad bad m.frm
   ·
    have hb2:(bad.any fun x=>decide (m.frm=x))=false:=hb
    rw [hb2] at cb
    have hp:xQ bad said known data m 0=(false,known):=by rw [xQ,if_pos rfl,if_neg hs,hb];rfl
    refine ⟨m,0,S2,hR,?_,by rw [hp];exact G2,st2,lg⟩
    rw [hp]
    conv at hr =>
     rhs
     rw [hTe]
     simp only [zM.code,zM.rs,zSs,reduceIte,zk,zn,zo,zq,if_neg k2,c1,am,n1,qX,qJ,l1,s1,s2,lk,jc,d1,cb]
    rw [hTe] at hr
    exact zM.runs hr (.inr rfl)
   ·
    have hb2:(bad.any fun x=>decide (m.frm=x))=true:=hb
    rw [hb2] at cb
    by_cases hkd:m.kind=1
    ·
     have dk:=decide_eq_true hkd
     have l2:jl zi false 60 (.pointer (some ⟨q,0+2,none⟩)) S2=some (.map (some b),S2):=QT (t:=60) (o:=0+2) h7 Yf rfl
     have c2:=fun S=>wZ.v ok.b S
     have c3:=fun S=>y8.v ok.b S
     have lk2:=adQ Xi h9 Jw abv adg rfl (nameOf m.b)
     rw [KQ] at lk2
     cases hf:VE known (nameOf m.b) with
     | some t =>
      rw [hf] at lk2
      simp only [Option.map_some,Option.map_none,Option.getD_some,Option.getD_none,Option.isSome_some,Option.isSome_none] at lk2
      have hp:xQ bad said known data m 0=(decide (t=Ye m.b),known):=by rw [xQ,if_pos rfl,if_neg hs,hb,if_pos rfl,if_pos hkd,hf]
      have cq:∀ S,wH zi .eql 9 (encS t) (encS (Ye m.b)) S=some (.bool (decide (t=Ye m.b)),S):=fun S=>ahb (t:=9)
      refine ⟨m,0,S2,hR,?_,by rw [hp];exact G2,st2,lg⟩
      rw [hp]
      conv at hr =>
       rhs
       rw [hTe]
       simp only [zM.code,zM.rs,zSs,reduceIte,zk,zn,zo,zq,if_neg k2,c1,am,n1,qX,qJ,l1,s1,s2,lk,jc,d1,cb,zO,d0,dk,jg,y9 n2 ok.b.ne,c2,vS,l2,lk2,c3,cq]
      rw [hTe] at hr
      exact zM.runs hr (.inr rfl)
     | none =>
      rw [hf] at lk2
      simp only [Option.map_some,Option.map_none,Option.getD_some,Option.getD_none,Option.isSome_some,Option.isSome_none] at lk2
      have cb2:=wM.v G2 m.b.miner
      have d2:jl zi false 3 (.pointer (some ⟨S.next,0+8+1,none⟩)) S2=some (.int .i64 m.b.miner,S2):=qK (t:=3) (o:=0+8+1) n2 ZW rfl
      cases hb3:isBad bad m.b.miner
      ·
       have hb4:(bad.any fun x=>decide (m.b.miner=x))=false:=hb3
       rw [hb4] at cb2
       have hp:xQ bad said known data m 0=(false,known):=by rw [xQ,if_pos rfl,if_neg hs,hb,if_pos rfl,if_pos hkd,hf];dsimp only;rw [hb3];rfl
       refine ⟨m,0,S2,hR,?_,by rw [hp];exact G2,st2,lg⟩
       rw [hp]
       conv at hr =>
        rhs
        rw [hTe]
        simp only [zM.code,zM.rs,zSs,reduceIte,zk,zn,zo,zq,if_neg k2,c1,am,n1,qX,qJ,l1,s1,s2,lk,jc,d1,cb,zO,d0,dk,jg,y9 n2 ok.b.ne,c2,vS,l2,lk2,jR,d2,cb2]
       rw [hTe] at hr
       exact zM.runs hr (.inr rfl)
      ·
       have hb4:(bad.any fun x=>decide (m.b.miner=x))=true:=hb3
       rw [hb4] at cb2
       have hp:xQ bad said known data m 0=(true,known++[(nameOf m.b,Ye m.b)]):=by rw [xQ,if_pos rfl,if_neg hs,hb,if_pos rfl,if_pos hkd,hf];dsimp only;rw [hb3];rfl
       obtain ⟨S3,p1,p2,p3,p4,p5,p6⟩:=Gt.know (t:=Ye m.b) h4 h5 h6 h7 h8 h9 hf
       have okm:okq 3 (.map (some b))=true:=rfl
       refine ⟨m,0,S3,hR,?_,?_,st2.trans p6,Nat.lt_of_lt_of_le lg (acp p1)⟩
       ·
        rw [hp]
        conv at hr =>
         rhs
         rw [hTe]
         simp only [zM.code,zM.rs,zSs,reduceIte,zk,zn,zo,zq,if_neg k2,c1,am,n1,qX,qJ,l1,s1,s2,lk,jc,d1,cb,zO,d0,dk,jg,y9 n2 ok.b.ne,c2,vS,l2,lk2,jR,d2,cb2,c3,kV okm,Ja,qB h7,p1]
        rw [hTe] at hr
        exact zM.runs hr (.inr rfl)
       ·
        rw [hp]
        exact ⟨by rw [p2];exact G2.lt,k0,a,b,h1,h2,h3,by omega,by omega,h6,p3,p4,p5⟩
    ·
     have dk:=decide_eq_false hkd
     have hp:xQ bad said known data m 0=(true,known):=by rw [xQ,if_pos rfl,if_neg hs,hb,if_pos rfl,if_neg hkd]
     refine ⟨m,0,S2,hR,?_,by rw [hp];exact G2,st2,lg⟩
     rw [hp]
     conv at hr =>
      rhs
      rw [hTe]
      simp only [zM.code,zM.rs,zSs,reduceIte,zk,zn,zo,zq,if_neg k2,c1,am,n1,qX,qJ,l1,s1,s2,lk,jc,d1,cb,zO,d0,dk]
     rw [hTe] at hr
     exact zM.runs hr (.inr rfl)
 ·
  have de:=decide_eq_false he
  have hp:xQ bad said known data m e=(false,known):=by rw [xQ,if_neg he]
  refine ⟨m,e,S2,hR,?_,by rw [hp];exact G2,st2,lg⟩
  rw [hp]
  conv at hr =>
   rhs
   rw [hTe]
   simp only [zM.code,zM.rs,zSs,reduceIte,zk,zn,zo,zq,if_neg k2,c1,am,n1,de]
  rw [hTe] at hr
  exact zM.runs hr (.inr rfl)
end
end Go.Proofs.Ytfjogganfjkckaa
namespace Go.Proofs.Ytfjogganfjkckaa
open Go.Abs
theorem YB {x m:wY} {e:Int} (hx:qo x=true) (h:J6 (JZ x) m e):e=0∧ZR x m=true:=by
 obtain ⟨_,_,⟨h1,h2,h3⟩ | ⟨_,_,h3⟩⟩:=h
 ·
  exact ⟨h1,adP hx h2 h3⟩
 ·
  exact absurd rfl (h3 x hx)
theorem ac8 {a b:vk} (h:Jh a b=true):nameOf a=nameOf b∧Ye a=Ye b∧a.miner=b.miner:=by
 obtain ⟨h1,h2,h3,h4,h5⟩:=ZI.1 h
 have hr:jZ a=jZ b:=by unfold jZ headB;rw [h1,h2,h3,h4,h5]
 refine ⟨by unfold nameOf;rw [hr,h1,h2,h3],?_,h2⟩
 unfold Ye XA
 rw [hr,h1,h2,h3,h4,h5]
theorem afz {x m:wY} (h:ZR x m=true) (bad:List Int) (said:List (List UInt8)) (known:List (Int×List UInt8)) (d:List UInt8) (e:Int):xQ bad said known d m e=xQ bad said known d x e:=by
 obtain ⟨h1,h2,_,_,_,_,_,h8⟩:=vO.1 h
 obtain ⟨g1,g2,g3⟩:=ac8 h8
 unfold xQ
 rw [h1,h2,g1,g2,g3]
theorem ahs {x m:wY} (h:ZR x m=true) (known:List (Int×List UInt8)) (e:Int):ade known m e=ade known x e:=by
 obtain ⟨h1,h2,_,_,_,_,_,h8⟩:=vO.1 h
 obtain ⟨g1,g2,g3⟩:=ac8 h8
 unfold ade ahI
 rw [h1,g1,g2]
section
variable {S:zx} {q:Nat} {bad:List Int} {said:List (List UInt8)} {known:List (Int×List UInt8)}
theorem YT (h:Gt S q bad said known) {x:wY} (hx:qo x=true):∃ S1,jd zi O zM.id [.pointer (some ⟨q,0,none⟩),by_ 1 (JZ x)] S=some (.bool (xQ bad said known (JZ x) x 0).1,S1)∧Gt S1 q bad said (xQ bad said known (JZ x) x 0).2∧Zf S S1:=by
 obtain ⟨m,e,S1,h1,h2,h3,h4,_⟩:=zM.v h (k:=1) (data:=JZ x) Okl.read (by decide) (by have:=V6 hx;omega)
 obtain ⟨rfl,hs⟩:=YB hx h1
 rw [afz hs] at h2 h3
 exact ⟨S1,h2,h3,h4⟩
theorem ajY (h:Gt S q bad said known) {x:wY} (hx:qo x=true):∃ S1,jd zi O jq.id [.pointer (some ⟨q,0,none⟩),by_ 1 (JZ x)] S=some (.tuple #[],S1)∧Gt S1 q bad (ai7 said (JZ x)) (ade known x 0)∧Zf S S1:=by
 obtain ⟨m,e,S1,h1,h2,h3,h4,_⟩:=jq.v h (k:=1) (data:=JZ x) Okl.read (by decide) (by have:=V6 hx;omega)
 obtain ⟨rfl,hs⟩:=YB hx h1
 rw [ahs hs] at h3
 exact ⟨S1,h2,h3,h4⟩
end
abbrev mkm (f:Int) (b:vk):wY:=⟨1,f,0,0,0,0,⟨0,0⟩,b⟩
theorem jP.v {f:Int} {b:vk} (hb:b.Ok) (hf:Big f) (hR:qo (mkm f b)=true) (S:zx):∃ S1,jd zi O jP.id [.int .i64 f,bv b] S=some (by_ 2 (JZ (mkm f b)),S1)∧Ext S S1:=by
 obtain ⟨T,hTe⟩:∃ T,T=(.int .i64 f::bv b::zh::zh::zh::zh::zh::zh::zh::zh::zh::zh::zh::zh::zh::[]):=⟨_,rfl⟩
 have hr:zL zi O false jP.code T S=zL zi O false jP.code T S:=rfl
 obtain ⟨S2,b1,b2,b3,b4⟩:=adv (bv b) S
 have b2:S2.get S.next=some (.cells (fBk b) (.own []) 0):=b2
 have z0:Big 0:=by unfold Big;decide
 have z1:Big 1:=by unfold Big;decide
 have ok:(mkm f b).Ok:=⟨hb,⟨z0,z0⟩,z1,hf,z0,z0,z0,z0⟩
 have bd:∀ S,yw zi 48 [(0,.int .i64 1),(1,.int .i64 f),(7,bv b)] S=some (mv (mkm f b),S):=fun S=>QL rfl rfl S
 have c1:=fun S=>zS.v ok S
 unfold QS at c1
 rw [hR] at c1
 refine ⟨S2,?_,b3⟩
 conv at hr =>
  rhs
  rw [hTe]
  simp only [jP.code,jP.rs,zSs,reduceIte,zk,zn,zo,zq,b1,XB b2 hb.ne,bd,c1]
 rw [hTe] at hr
 exact jP.runs hr (.inr rfl)
abbrev bbk:vk:=⟨1,1,0,0,0,[]⟩
abbrev cbk:vk:=⟨1,1,0,0,1,[⟨1,0⟩]⟩
theorem Yk:bbk.Ok:=⟨Okl.none,by decide,by decide,by decide⟩
theorem aiE:cbk.Ok:=⟨Okl.read,by decide,by decide,by decide⟩
theorem r1b:qo (mkm 1 bbk)=true:=by kernel_rfl
theorem r2b:qo (mkm 2 bbk)=true:=by kernel_rfl
theorem r3b:qo (mkm 3 bbk)=true:=by kernel_rfl
theorem r2c:qo (mkm 2 cbk)=true:=by kernel_rfl
abbrev K1:List (Int×List UInt8):=[(nameOf bbk,Ye bbk)]
abbrev S1s:List (List UInt8):=[JZ (mkm 1 bbk)]
theorem pa1:xQ [2] [] [] (JZ (mkm 2 bbk)) (mkm 2 bbk) 0=(false,[]):=by kernel_rfl
theorem pa2:xQ [2] S1s K1 (JZ (mkm 2 bbk)) (mkm 2 bbk) 0=(true,K1):=by kernel_rfl
theorem pa3:xQ [2] S1s K1 (JZ (mkm 2 cbk)) (mkm 2 cbk) 0=(false,K1):=by kernel_rfl
theorem pa4:xQ [2] S1s K1 (JZ (mkm 3 bbk)) (mkm 3 bbk) 0=(false,K1):=by kernel_rfl
theorem pa5:xQ [2] S1s K1 (JZ (mkm 1 bbk)) (mkm 1 bbk) 0=(true,K1):=by kernel_rfl
theorem sa1:ai7 [] (JZ (mkm 1 bbk))=S1s:=rfl
theorem sa2:ade [] (mkm 1 bbk) 0=K1:=by kernel_rfl
theorem jf.v (S:zx):jd zi O jf.id [] S=some (.bool true,S):=by
 obtain ⟨T,hTe⟩:∃ T,T=(zh::zh::zh::zh::zh::zh::zh::zh::zh::zh::zh::zh::zh::zh::zh::zh::zh::zh::zh::zh::zh::zh::zh::zh::zh::zh::zh::zh::zh::zh::zh::zh::zh::zh::zh::zh::zh::zh::zh::zh::zh::zh::zh::zh::zh::zh::zh::zh::zh::zh::zh::zh::zh::zh::zh::zh::zh::zh::[]):=⟨_,rfl⟩
 have hr:zL zi O false jf.code T zx.empty=zL zi O false jf.code T zx.empty:=rfl
 have i0:∀ S,jU zi 24 1 [(0,.int .i64 2)] S=some (iz 2 [2],S):=fun S=>by kernel_rfl
 obtain ⟨q,S1,c1,G1,_,_⟩:=qP.v (k:=1) (l:=[2]) Okl.read (by decide) (by decide) zx.empty
 have pn:∀ S,wH zi .eql 22 (.pointer (some ⟨q,0,none⟩)) (.pointer none) S=some (.bool false,S):=fun S=>rfl
 have bb:∀ S,yw zi 46 [(0,.int .i64 1),(1,.int .i64 1)] S=some (bv bbk,S):=fun S=>QN rfl rfl S
 have bt:∀ S,yw zi 43 [(0,.int .i64 1)] S=some (tv ⟨1,0⟩,S):=fun S=>acB rfl S
 have bs:=fun S=>afx ⟨1,0⟩ S
 have bc:∀ S,yw zi 46 [(0,.int .i64 1),(1,.int .i64 1),(4,tl 1 [⟨1,0⟩])] S=some (bv cbk,S):=fun S=>Qd rfl rfl YO S
 have a1:=XK S1
 obtain ⟨A1,hA1⟩:∃ A1,A1=S1.push (.cells (fBk bk0) (.own []) 0):=⟨_,rfl⟩
 rw [← hA1] at a1
 have a2:=XK A1
 have n1:A1.next=S1.next+1:=by rw [hA1];rfl
 obtain ⟨A2,hA2⟩:∃ A2,A2=A1.push (.cells (fBk bk0) (.own []) 0):=⟨_,rfl⟩
 rw [← hA2] at a2
 have E1:Ext S1 A1:=by rw [hA1];exact Ext.push _ _
 have E2:Ext A1 A2:=by rw [hA2];exact Ext.push _ _
 have g1:A2.get S1.next=some (.cells (fBk bk0) (.own []) 0):=by rw [E2.2 _ (by omega),hA1,zx.yA,if_pos rfl]
 have g2:A2.get A1.next=some (.cells (fBk bk0) (.own []) 0):=by rw [hA2,zx.yA,if_pos rfl]
 obtain ⟨A3,s1,s2,s3,s4,s5⟩:=XH bbk g1 (E1.trans E2) (Nat.le_refl _)
 have g3:A3.get A1.next=some (.cells (fBk bk0) (.own []) 0):=(s5 _ (by omega)).trans g2
 obtain ⟨A4,t1,t2,t3,t4,t5⟩:=XH cbk g3 s3 (by omega)
 have G4:=G1.ext t3
 have m4:A2.next=A1.next+1:=by rw [hA2];rfl
 have hb4:A4.get S1.next=some (.cells (fBk bbk) (.own []) 0):=(t5 _ (by omega)).trans s2
 have hn4:A1.next < A4.next:=by omega
 have kp:∀ {X Y:zx},Zf X Y→(A1.next < X.next∧X.get S1.next=some (.cells (fBk bbk) (.own []) 0)∧X.get A1.next=some (.cells (fBk cbk) (.own []) 0))→(A1.next < Y.next∧Y.get S1.next=some (.cells (fBk bbk) (.own []) 0)∧Y.get A1.next=some (.cells (fBk cbk) (.own []) 0)):=fun h k=>⟨Nat.lt_of_lt_of_le k.1 h.1,(h.2 _ _ _ _ (by omega) k.2.1).trans k.2.1,(h.2 _ _ _ _ k.1 k.2.2).trans k.2.2⟩
 have k4:A1.next < A4.next∧A4.get S1.next=some (.cells (fBk bbk) (.own []) 0)∧A4.get A1.next=some (.cells (fBk cbk) (.own []) 0):=⟨hn4,hb4,t2⟩
 have z1:Big 1:=by unfold Big;decide
 have z2:Big 2:=by unfold Big;decide
 have z3:Big 3:=by unfold Big;decide
 have l4:=XB k4.2.1 Yk.ne
 obtain ⟨B1,c2,x1⟩:=jP.v Yk z2 r2b A4
 obtain ⟨B2,c3,G5,y1⟩:=YT (G4.ext x1) r2b
 rw [pa1] at c3 G5
 have k5:=kp y1 (kp (Zf.ext x1) k4)
 have l5:=XB k5.2.1 Yk.ne
 obtain ⟨B3,c4,x2⟩:=jP.v Yk z1 r1b B2
 obtain ⟨B4,c5,G6,y2⟩:=ajY (G5.ext x2) r1b
 rw [sa1,sa2] at G6
 have k6:=kp y2 (kp (Zf.ext x2) k5)
 have l6:=XB k6.2.1 Yk.ne
 obtain ⟨B5,c6,x3⟩:=jP.v Yk z2 r2b B4
 obtain ⟨B6,c7,G7,y3⟩:=YT (G6.ext x3) r2b
 rw [pa2] at c7 G7
 have k7:=kp y3 (kp (Zf.ext x3) k6)
 have l7:=XB k7.2.2 aiE.ne
 obtain ⟨B7,c8,x4⟩:=jP.v aiE z2 r2c B6
 obtain ⟨B8,c9,G8,y4⟩:=YT (G7.ext x4) r2c
 rw [pa3] at c9 G8
 have k8:=kp y4 (kp (Zf.ext x4) k7)
 have l8:=XB k8.2.1 Yk.ne
 obtain ⟨B9,c10,x5⟩:=jP.v Yk z3 r3b B8
 obtain ⟨B10,c11,G9,y5⟩:=YT (G8.ext x5) r3b
 rw [pa4] at c11 G9
 have k9:=kp y5 (kp (Zf.ext x5) k8)
 have l9:=XB k9.2.1 Yk.ne
 obtain ⟨B11,c12,x6⟩:=jP.v Yk z1 r1b B10
 obtain ⟨B12,c13,G10,y6⟩:=YT (G9.ext x6) r1b
 rw [pa5] at c13 G10
 have c14:jd zi O wM.id [.pointer (some ⟨q,0,none⟩),.int .i64 2] B12=some (.bool true,B12):=wM.v G10 2
 have c15:jd zi O wM.id [.pointer (some ⟨q,0,none⟩),.int .i64 1] B12=some (.bool false,B12):=wM.v G10 1
 conv at hr =>
  rhs
  rw [hTe]
  simp only [jf.code,jf.rs,zSs,reduceIte,zk,zn,zo,zq,i0,c1,pn,bb,bt,bs,bc,a1,a2,s1,t1,l4,c2,c3,l5,c4,c5,l6,c6,c7,l7,c8,c9,l8,c10,c11,l9,c12,c13,c14,c15]
 rw [hTe] at hr
 exact jf.runs hr (.inr rfl) rfl rfl
end Go.Proofs.Ytfjogganfjkckaa
namespace Go.Abs
open Go.RowKit
abbrev ms (q n:Nat):Value:=.slice (some ⟨q,0,none⟩) n n
theorem alp {k e n:Nat} {cs:List Value}:YL (sv k e n cs)=false:=by unfold sv;split <;> rfl
theorem alv {α:Type} {f:α→List Value} {e k:Nat} {l:List α}:YL (vs f e k l)=false:=alp
theorem ajn {P:Program} {O:Ora} {g:FuncId} {args:List Value} {S:zx} {r:Option (Value×zx)} (h:jd P O g args S=r) (ha:args.all (fun x=>!QO x)=true):ZB (jd P O) g args S=r:=(aik ha).trans h
theorem YG {α:Type} {f:α→List Value} {e q:Nat} {l:List α} {rest:List Value} {anc:List Nat} {S:zx} (hf:∀ x,(f x).length=e) (hg:S.get q=some (.cells (l.flatMap f++rest) (.own anc) e)) :
  Jt (ms q l.length) S=some (vs f e 1 l,S.set q .dead):=by
 have hl:=Zx hf l
 have e0:Jt (ms q l.length) S=Jr (ms q l.length) S:=rfl
 rw [e0,aeG hg (by rw [List.length_append,hl];omega),List.drop_zero,← hl,List.take_left]
 rfl
theorem abO {x y:Value} {args:List Value} {S S1:zx} (h:Jt x S=some (y,S1)) (ha:args.all (fun x=>!QO x)=true):xJ (x::args) S=some (y::args,S1):=by
 simp only [xJ,h,JV ha]
theorem abN {x y x2 y2:Value} {args:List Value} {S S1 S2:zx} (h:Jt x S=some (y,S1)) (h2:Jt x2 S1=some (y2,S2)) (ha:args.all (fun x=>!QO x)=true):xJ (x::x2::args) S=some (y::y2::args,S2):=by
 simp only [xJ,h,h2,JV ha]
section
variable {P:Program} {O:Ora} {α:Type} {f:α→List Value} {e q:Nat} {l:List α} {rest:List Value} {anc:List Nat} {S:zx}
end
end Go.Abs
namespace Go.Proofs.Ytfjogganfjkckaa
open Go.Abs
theorem ae6 {x:Value} {D:List UInt8} {S:zx} (src:QM zi 33 1 x (S.push (.cells [] (.own []) 1))=some (D.length,D.flatMap cb)) (hl:D.length≤140737488351232):∃ y S0 r S1,yN zi 33 0 [] S=some (y,S0)∧kQ zi true 33 33 y x S0=some (ms r D.length,S1)∧S1.get r=some (.cells (D.flatMap cb++[]) (.own []) 1)∧Ext S S1∧S.next≤r∧r < S1.next:=by
 have g0:(S.push (.cells [] (.own []) 1)).get S.next=some (.cells [] (.own []) 1):=by rw [zx.yA,if_pos rfl]
 have e1:=XV (P:=zi) (hp:=true) (t:=33) (tx:=33) (o:=0) (n:=0) (c:=0) xZ Qo agt rfl aft (by decide) src g0 (by simp) (by omega) (by omega) (by rfl)
 rw [if_pos (by rfl),Nat.zero_add] at e1
 refine ⟨_,_,_,_,(by kernel_rfl),e1,?_,((Ext.push S _).set (Nat.le_refl _) _).trans (Ext.push _ _),by simp,by simp⟩
 rw [zx.yA,zx.aao,zx.JG,if_pos rfl];simp
theorem ajb (l:List UInt8):(l.flatMap cb).all (·.oneCell')=true:=by rw [List.all_flatMap,List.all_eq_true];exact fun x _=>rfl
theorem akV (l:List UInt8):(l.flatMap cb).length=l.length:=by rw [Zx abD,Nat.mul_one]
theorem aam {k:Nat} {D:List UInt8} (h:Okl k D) (hl:D.length≤140737488351232) (S:zx):∃ y S0 r S1,yN zi 33 0 [] S=some (y,S0)∧kQ zi true 33 33 y (by_ k D) S0=some (ms r D.length,S1)∧S1.get r=some (.cells (D.flatMap cb++[]) (.own []) 1)∧Ext S S1∧S.next≤r∧r < S1.next :=
 ae6 (adE xZ h.okv (by rw [akV,Nat.mul_one]) (ajb D)) hl
theorem ahw {q:Nat} {D:List UInt8} {S:zx} (hg:S.get q=some (.cells (D.flatMap cb++[]) (.own []) 1)) (hq:q < S.next) (hl:D.length≤140737488351232):∃ y S0 r S1,yN zi 33 0 [] S=some (y,S0)∧kQ zi true 33 33 y (ms q D.length) S0=some (ms r D.length,S1)∧S1.get r=some (.cells (D.flatMap cb++[]) (.own []) 1)∧Ext S S1∧S.next≤r∧r < S1.next:=by
 have g1:(S.push (.cells [] (.own []) 1)).get q=some (.cells (D.flatMap cb++[]) (.own []) 1):=by rw [zx.yA,if_neg (by omega)];exact hg
 have e:((D.flatMap cb++[]).drop 0).take (D.length * 1)=D.flatMap cb:=by
  rw [List.drop_zero,List.append_nil,Nat.mul_one,← akV D,List.take_length]
 have src:=agR (P:=zi) (e:=1) (o:=0) (m:=D.length) (c:=D.length) xZ g1 (by rw [List.append_nil,akV];omega) (by rw [e];exact ajb D)
 rw [e] at src
 exact ae6 src hl
theorem air {k:Nat} {l:List Int} (h:Okl k l) (hl:l.length≤17592186044416) (S:zx):∃ y S0 r S1,yN zi 24 0 [] S=some (y,S0)∧kQ zi true 24 24 y (iz k l) S0=some (ms r l.length,S1)∧S1.get r=some (.cells (l.flatMap ci++[]) (.own []) 1)∧Ext S S1∧S.next≤r:=by
 have g0:(S.push (.cells [] (.own []) 1)).get S.next=some (.cells [] (.own []) 1):=by rw [zx.yA,if_pos rfl]
 have src:QM zi 24 1 (iz k l) (S.push (.cells [] (.own []) 1))=some (l.length,l.flatMap ci):=adE Yp h.okv (by rw [Zx (f:=ci) (e:=1) (fun _=>rfl)]) (by rw [List.all_flatMap,List.all_eq_true];exact fun x _=>rfl)
 have e1:=XV (P:=zi) (hp:=true) (t:=24) (tx:=24) (o:=0) (n:=0) (c:=0) Yp abx ak9 rfl alc (by decide) src g0 (by simp) (by omega) (by omega) (by rfl)
 rw [if_pos (by rfl),Nat.zero_add] at e1
 refine ⟨_,_,_,_,(by kernel_rfl),e1,?_,((Ext.push S _).set (Nat.le_refl _) _).trans (Ext.push _ _),by simp⟩
 rw [zx.yA,zx.aao,zx.JG,if_pos rfl];simp
theorem adF {call:FuncId→List Value→M Value} {g:FuncId} {args m:List Value} {S S1 S2:zx} {v:Value} (h:xJ args S=some (m,S1)) (hc:call g m S1=some (v,S2)) (hl:S1.log.length < S2.log.length):ZB call g args S=some (v,S2):=by
 unfold ZB;rw [h]
 dsimp only
 rw [hc]
 dsimp only
 have e:(S2.log == S1.log)=false:=beq_eq_false_iff_ne.2 fun e=>by rw [e] at hl;exact Nat.lt_irrefl _ hl
 rw [VB,e,Bool.and_false]
 rfl
section
variable {S S1:zx} {q r:Nat} {bad:List Int} {said:List (List UInt8)} {known:List (Int×List UInt8)} {D:List UInt8}
theorem akl (h:Gt S q bad said known) (hE:Ext S S1) (hr:S.next≤r) (hg:S1.get r=some (.cells (D.flatMap cb++[]) (.own []) 1)) (hl:D.length≤140737488351232) :
  ∃ m e S2,J6 D m e∧ZB (jd zi O) jq.id [.pointer (some ⟨q,0,none⟩),ms r D.length] S1=some (.tuple #[],S2)∧Gt S2 q bad (ai7 said D) (ade known m e)∧Zf S S2:=by
 have hX:Ext S (S1.set r .dead):=hE.set hr _
 obtain ⟨m,e,S2,h1,h2,h3,h4,h5⟩:=jq.v (h.ext hX) (k:=1) (data:=D) Okl.read (by decide) (by omega)
 exact ⟨m,e,S2,h1,adF (abN (Qq rfl) (YG (f:=cb) (e:=1) (fun _=>rfl) hg) rfl) h2 h5,h3,(Zf.ext hX).trans h4⟩
theorem adk (h:Gt S q bad said known) (hE:Ext S S1) (hr:S.next≤r) (hg:S1.get r=some (.cells (D.flatMap cb++[]) (.own []) 1)) (hl:D.length≤140737488351232) :
  ∃ m e S2,J6 D m e∧ZB (jd zi O) zM.id [.pointer (some ⟨q,0,none⟩),ms r D.length] S1=some (.bool (xQ bad said known D m e).1,S2)∧Gt S2 q bad said (xQ bad said known D m e).2∧Zf S S2:=by
 have hX:Ext S (S1.set r .dead):=hE.set hr _
 obtain ⟨m,e,S2,h1,h2,h3,h4,h5⟩:=zM.v (h.ext hX) (k:=1) (data:=D) Okl.read (by decide) (by omega)
 exact ⟨m,e,S2,h1,adF (abN (Qq rfl) (YG (f:=cb) (e:=1) (fun _=>rfl) hg) rfl) h2 h5,h3,(Zf.ext hX).trans h4⟩
end
theorem agA {k:Nat} {l:List TxV} {d:Nat} (h:k≤2):xH [1] (d+2) (tl k l)=true:=by
 have hc:(l.flatMap fT).all (xH [1] (d+1))=true:=by rw [List.all_flatMap,List.all_eq_true];exact fun x _=>rfl
 match k,h with
 | 0,_=>rfl
 | 1,_=>exact hc
 | 2,_=>exact hc
theorem agQ {m:wY} (hm:m.Ok):xH [1] 15 (mv m)=true:=by
 have h:=agA (l:=m.b.txs) (d:=12) hm.b.okl.le
 show (fM m).all (xH [1] 14)=true
 simp only [fM,List.all_cons,List.all_nil,h,Bool.and_true];rfl
theorem alr {k:Nat} {l:List TxV}:YL (tl k l)=false:=alv
theorem alB (m:wY):QO (mv m)=false:=by
 show (fM m).any YL=false
 simp only [fM,List.any_cons,List.any_nil,alr,Bool.or_false];rfl
theorem ahm {D:List UInt8} (hl:D.length≤140737488351232) {r:Nat}:∃ m e,J6 D m e∧∀ S:zx,S.get r=some (.cells (D.flatMap cb++[]) (.own []) 1)→ZB (jd zi O) 16 [ms r D.length] S=some (.tuple #[mv m,.int .i64 e],S):=by
 obtain ⟨b,e,h1,h2⟩:=zF.v (k:=1) (l:=D) Okl.read (by decide) (by omega)
 refine ⟨b,e,h1,fun S hg=>?_⟩
 refine acZ (abO (YG (f:=cb) (e:=1) (fun _=>rfl) hg) rfl) (h2 _) rfl ?_ rfl
 have hs:ahK S [ms r D.length]=[1]:=by simp [ahK,parts,szs,hg]
 rw [hs]
 show ([mv b,Value.int .i64 e].all (xH [1] 15))=true
 simp only [List.all_cons,List.all_nil,agQ h1.1,Bool.true_and,Bool.and_true];rfl
theorem aev {A D:List Value} {x y:Value} {o:Nat} (h:o=A.length):splice (A++(x::D)) o [y]=A++(y::D):=by
 subst h
 simp [splice]
theorem alq (n:Int):∃ b:UInt8,IntKind.u8.wrap n=(b.toNat:Int):=by
 have h:0≤IntKind.u8.wrap n∧IntKind.u8.wrap n < 256:=by
  have e:IntKind.u8.wrap n=n % 256:=rfl
  omega
 refine ⟨UInt8.ofNat (IntKind.u8.wrap n).toNat,?_⟩
 have:(UInt8.ofNat (IntKind.u8.wrap n).toNat).toNat=(IntKind.u8.wrap n).toNat % 256:=UInt8.toNat_ofNat ..
 rw [this]
 omega
end Go.Proofs.Ytfjogganfjkckaa
