/-
The law GateSays returns true for every input, and leaves it as it was; no condition. Part 6 of 7 of the texts (put together by a program: own names are short, what isn't needed is left out).
-/
import Derived.Test.YtfjogganfjkckaaZGateSays5

set_option linter.unusedVariables false
set_option linter.unusedSimpArgs false
set_option maxRecDepth 100000
open Go renaming undef → zh
namespace Go.Proofs.Ytfjogganfjkckaa
open Go.Abs
theorem TxV.ext_iff' {t u:TxV}:t=u ↔ t.id=u.id∧t.fee=u.fee:=by cases t;cases u;simp
theorem ahz (t u:TxV) (S:zn):wB Try.prog .eql 43 (tv t) (tv u) S=some (.bool (decide (t=u)),S)∧wB Try.prog .neq 43 (tv t) (tv u) S=some (.bool (!decide (t=u)),S):=by
 have h:=adz (S:=S) (xs:=#[Value.int .i64 t.id,.int .i64 t.fee]) (ys:=#[Value.int .i64 u.id,.int .i64 u.fee]) (bs:=[t.id == u.id,t.fee == u.fee]) ahf (by kernel_rfl) (by kernel_rfl)
  ⟨⟨by decide,.int .i64 t.id,.int .i64 u.id,by kernel_rfl,by kernel_rfl,by kernel_rfl⟩,⟨by decide,.int .i64 t.fee,.int .i64 u.fee,by kernel_rfl,by kernel_rfl,by kernel_rfl⟩,trivial⟩ rfl rfl
 have e:[t.id == u.id,t.fee == u.fee].all id=decide (t=u):=by
  rw [Bool.eq_iff_iff]
  simp [TxV.ext_iff']
 rw [e] at h
 exact h
theorem zF.round {k j:Nat} {a b:List TxV} (hk:Okl k a) (hj:Okl j b) (k2:k≠2) (j2:j≠2) (hab:a.length=b.length) (hlen:a.length≤17592186044416) {S:zn}:∀ (sa sb pa pb:List TxV) {T:List Value} {r:St},qw (zG Try.prog O false zF.jL) T S=r→T.length=26 →
  T.getD 0 zh=tl k a→T.getD 1 zh=tl j b→T.getD 12 zh=.int .i64 a.length→T.getD 13 zh=.int .i64 pa.length→a=pa++sa→b=pb++sb→pa.length=pb.length→pa=pb →
  ∃ e T',r=some (e,T',S)∧if a=b then e=.exit 0∧T'.length=26 else e=.ret∧T'.getD 4 zh=.bool false:=by
 intro sa
 induction sa with
 | nil =>
  intro sb pa pb T r hL hT h0 h1 h12 h13 ha hb hp hpp
  have hTe:=zF.eta hT
  rw [h0,h1,h12,h13] at hTe
  have hr:zG Try.prog O false zF.jL T S=zG Try.prog O false zF.jL T S:=rfl
  have hd:¬ (pa.length:Int) < (a.length:Int):=by rw [ha];simp
  conv at hr =>
   rhs
   rw [hTe]
   simp only [zF.jL,zF.code,zF.rs,zSs,reduceIte,Nat.reduceEqDiff,Int.reduceEq,Int.reduceLT,Int.reduceLE,hd]
  have hsb:sb=[]:=by rw [ha,hb] at hab;simp [hp] at hab;exact hab
  refine ⟨_,_,hL.symm.trans (jZ hr (by simp)),?_⟩
  rw [if_pos (by rw [ha,hb,hsb,hpp])]
  exact ⟨rfl,rfl⟩
 | cons x sa ih =>
  intro sb pa pb T r hL hT h0 h1 h12 h13 ha hb hp hpp
  have hTe:=zF.eta hT
  rw [h0,h1,h12,h13] at hTe
  have hr:zG Try.prog O false zF.jL T S=zG Try.prog O false zF.jL T S:=rfl
  have hd:(pa.length:Int) < (a.length:Int):=by rw [ha];simp;omega
  cases sb with
  | nil=>rw [ha,hb] at hab;simp [hp] at hab
  | cons y sb =>
   have e1:=fun S=>Qj (S:=S) hk ha
   have e2:∀ S,jo Try.prog 44 (tl j b) (.int .i64 pa.length) S=some (EP [.int .i64 y.id,.int .i64 y.fee],S):=fun S=>by rw [hp];exact Qj hj hb
   have wi:IntKind.i64.wrap ((pa.length:Int)+1)=((pa++[x]).length:Int):=by rw [wrap_i64 (by omega) (by omega)];simp
   have q:∀ S,wB Try.prog .neq 43 (.agg [Value.int .i64 x.id,.int .i64 x.fee].toArray) (.agg [Value.int .i64 y.id,.int .i64 y.fee].toArray) S=some (.bool (!decide (x=y)),S):=fun S=>(ahz x y S).2
   by_cases hxy:x=y
   ·
    conv at hr =>
     rhs
     rw [hTe]
     simp only [zF.jL,zF.code,zF.rs,zSs,reduceIte,Nat.reduceEqDiff,Int.reduceEq,Int.reduceLT,Int.reduceLE,hd,if_neg k2,if_neg j2,e1,e2,kY,q,decide_eq_true hxy,wi]
    subst hxy
    exact ih sb (pa++[x]) (pb++[x]) ((wY hr).symm.trans hL) rfl rfl rfl rfl rfl (by simp [ha]) (by simp [hb]) (by simp [hp]) (by rw [hpp])
   ·
    conv at hr =>
     rhs
     rw [hTe]
     simp only [zF.jL,zF.code,zF.rs,zSs,reduceIte,Nat.reduceEqDiff,Int.reduceEq,Int.reduceLT,Int.reduceLE,hd,if_neg k2,if_neg j2,e1,e2,kY,q,decide_eq_false hxy]
    refine ⟨_,_,hL.symm.trans (jZ hr (by simp)),?_⟩
    rw [if_neg (by rw [ha,hb,hpp];simp [hxy])]
    exact ⟨rfl,rfl⟩
theorem zF.v {k j:Nat} {a b:List TxV} (hk:Okl k a) (hj:Okl j b) (k2:k≠2) (j2:j≠2) (hlen:a.length≤17592186044416) (S:zn):zW Try.prog O zF.id [tl k a,tl j b] S=some (.bool (decide (a=b)),S):=by
 obtain ⟨T,hTe⟩:∃ T,T=(tl k a::tl j b::zh::zh::zh::zh::zh::zh::zh::zh::zh::zh::zh::zh::zh::zh::zh::zh::zh::zh::zh::zh::zh::zh::zh::zh::[]):=⟨_,rfl⟩
 have hr:zG Try.prog O false zF.code T S=zG Try.prog O false zF.code T S:=rfl
 by_cases hab:a.length=b.length
 ·
  have d1:¬ (a.length:Int)≠(b.length:Int):=by omega
  conv at hr =>
   rhs
   rw [hTe]
   simp only [zF.code,zF.rs,zSs,reduceIte,Nat.reduceEqDiff,Int.reduceEq,Int.reduceLT,Int.reduceLE,if_neg k2,if_neg j2,Z5 hk,Z5 hj,hab]
  rw [← hab] at hr
  generalize hL:qw (zG Try.prog O false zF.jL) _ _=r at hr
  obtain ⟨e,T',rfl,g⟩:=zF.round hk hj k2 j2 hab hlen a b [] [] hL rfl rfl rfl rfl rfl rfl rfl rfl rfl
  by_cases h:a=b
  ·
   rw [if_pos h] at g
   obtain ⟨rfl,g2⟩:=g
   have hTe':=zF.eta g2
   conv at hr =>
    rhs
    rw [hTe']
    simp only [zF.code,zF.rs,zSs,reduceIte,Nat.reduceEqDiff,Int.reduceEq,Int.reduceLT,Int.reduceLE]
   rw [hTe] at hr
   rw [decide_eq_true h]
   exact zF.runs hr (.inr rfl)
  ·
   rw [if_neg h] at g
   obtain ⟨rfl,g2⟩:=g
   conv at hr =>
    rhs
    simp only [zSs,reduceIte,Nat.reduceEqDiff,Int.reduceEq,Int.reduceLT,Int.reduceLE]
   rw [hTe] at hr
   have hrun:=zF.runs hr (.inr rfl)
   rw [g2] at hrun
   rw [decide_eq_false h]
   exact hrun
 ·
  have d1:¬ (a.length:Int)=(b.length:Int):=by omega
  conv at hr =>
   rhs
   rw [hTe]
   simp only [zF.code,zF.rs,zSs,reduceIte,Nat.reduceEqDiff,Int.reduceEq,Int.reduceLT,Int.reduceLE,if_neg k2,if_neg j2,Z5 hk,Z5 hj,d1]
  rw [hTe] at hr
  rw [decide_eq_false (fun h:a=b=>hab (by rw [h]))]
  exact zF.runs hr (.inr rfl)
theorem slices_Equal.round {k j:Nat} {a b:List TxV} (hk:Okl k a) (hj:Okl j b) (k2:k≠2) (j2:j≠2) (hab:a.length=b.length) (hlen:a.length≤17592186044416) {S:zn}:∀ (sa sb pa pb:List TxV) {T:List Value} {r:St},qw (zG Try.prog O false slices_Equal.jL) T S=r→T.length=26 →
  T.getD 0 zh=tl k a→T.getD 1 zh=tl j b→T.getD 12 zh=.int .i64 a.length→T.getD 13 zh=.int .i64 pa.length→a=pa++sa→b=pb++sb→pa.length=pb.length→pa=pb →
  ∃ e T',r=some (e,T',S)∧if a=b then e=.exit 0∧T'.length=26 else e=.ret∧T'.getD 4 zh=.bool false:=by
 intro sa
 induction sa with
 | nil =>
  intro sb pa pb T r hL hT h0 h1 h12 h13 ha hb hp hpp
  have hTe:=slices_Equal.eta hT
  rw [h0,h1,h12,h13] at hTe
  have hr:zG Try.prog O false slices_Equal.jL T S=zG Try.prog O false slices_Equal.jL T S:=rfl
  have hd:¬ (pa.length:Int) < (a.length:Int):=by rw [ha];simp
  conv at hr =>
   rhs
   rw [hTe]
   simp only [slices_Equal.jL,slices_Equal.code,slices_Equal.rs,zSs,reduceIte,Nat.reduceEqDiff,Int.reduceEq,Int.reduceLT,Int.reduceLE,hd]
  have hsb:sb=[]:=by rw [ha,hb] at hab;simp [hp] at hab;exact hab
  refine ⟨_,_,hL.symm.trans (jZ hr (by simp)),?_⟩
  rw [if_pos (by rw [ha,hb,hsb,hpp])]
  exact ⟨rfl,rfl⟩
 | cons x sa ih =>
  intro sb pa pb T r hL hT h0 h1 h12 h13 ha hb hp hpp
  have hTe:=slices_Equal.eta hT
  rw [h0,h1,h12,h13] at hTe
  have hr:zG Try.prog O false slices_Equal.jL T S=zG Try.prog O false slices_Equal.jL T S:=rfl
  have hd:(pa.length:Int) < (a.length:Int):=by rw [ha];simp;omega
  cases sb with
  | nil=>rw [ha,hb] at hab;simp [hp] at hab
  | cons y sb =>
   have e1:=fun S=>Qj (S:=S) hk ha
   have e2:∀ S,jo Try.prog 44 (tl j b) (.int .i64 pa.length) S=some (EP [.int .i64 y.id,.int .i64 y.fee],S):=fun S=>by rw [hp];exact Qj hj hb
   have wi:IntKind.i64.wrap ((pa.length:Int)+1)=((pa++[x]).length:Int):=by rw [wrap_i64 (by omega) (by omega)];simp
   have q:∀ S,wB Try.prog .neq 43 (.agg [Value.int .i64 x.id,.int .i64 x.fee].toArray) (.agg [Value.int .i64 y.id,.int .i64 y.fee].toArray) S=some (.bool (!decide (x=y)),S):=fun S=>(ahz x y S).2
   by_cases hxy:x=y
   ·
    conv at hr =>
     rhs
     rw [hTe]
     simp only [slices_Equal.jL,slices_Equal.code,slices_Equal.rs,zSs,reduceIte,Nat.reduceEqDiff,Int.reduceEq,Int.reduceLT,Int.reduceLE,hd,if_neg k2,if_neg j2,e1,e2,kY,q,decide_eq_true hxy,wi]
    subst hxy
    exact ih sb (pa++[x]) (pb++[x]) ((wY hr).symm.trans hL) rfl rfl rfl rfl rfl (by simp [ha]) (by simp [hb]) (by simp [hp]) (by rw [hpp])
   ·
    conv at hr =>
     rhs
     rw [hTe]
     simp only [slices_Equal.jL,slices_Equal.code,slices_Equal.rs,zSs,reduceIte,Nat.reduceEqDiff,Int.reduceEq,Int.reduceLT,Int.reduceLE,hd,if_neg k2,if_neg j2,e1,e2,kY,q,decide_eq_false hxy]
    refine ⟨_,_,hL.symm.trans (jZ hr (by simp)),?_⟩
    rw [if_neg (by rw [ha,hb,hpp];simp [hxy])]
    exact ⟨rfl,rfl⟩
theorem slices_Equal.v {k j:Nat} {a b:List TxV} (hk:Okl k a) (hj:Okl j b) (k2:k≠2) (j2:j≠2) (hlen:a.length≤17592186044416) (S:zn):zW Try.prog O slices_Equal.id [tl k a,tl j b] S=some (.bool (decide (a=b)),S):=by
 obtain ⟨T,hTe⟩:∃ T,T=(tl k a::tl j b::zh::zh::zh::zh::zh::zh::zh::zh::zh::zh::zh::zh::zh::zh::zh::zh::zh::zh::zh::zh::zh::zh::zh::zh::[]):=⟨_,rfl⟩
 have hr:zG Try.prog O false slices_Equal.code T S=zG Try.prog O false slices_Equal.code T S:=rfl
 by_cases hab:a.length=b.length
 ·
  have d1:¬ (a.length:Int)≠(b.length:Int):=by omega
  conv at hr =>
   rhs
   rw [hTe]
   simp only [slices_Equal.code,slices_Equal.rs,zSs,reduceIte,Nat.reduceEqDiff,Int.reduceEq,Int.reduceLT,Int.reduceLE,if_neg k2,if_neg j2,Z5 hk,Z5 hj,hab]
  rw [← hab] at hr
  generalize hL:qw (zG Try.prog O false slices_Equal.jL) _ _=r at hr
  obtain ⟨e,T',rfl,g⟩:=slices_Equal.round hk hj k2 j2 hab hlen a b [] [] hL rfl rfl rfl rfl rfl rfl rfl rfl rfl
  by_cases h:a=b
  ·
   rw [if_pos h] at g
   obtain ⟨rfl,g2⟩:=g
   have hTe':=slices_Equal.eta g2
   conv at hr =>
    rhs
    rw [hTe']
    simp only [slices_Equal.code,slices_Equal.rs,zSs,reduceIte,Nat.reduceEqDiff,Int.reduceEq,Int.reduceLT,Int.reduceLE]
   rw [hTe] at hr
   rw [decide_eq_true h]
   exact slices_Equal.runs hr (.inr rfl)
  ·
   rw [if_neg h] at g
   obtain ⟨rfl,g2⟩:=g
   conv at hr =>
    rhs
    simp only [zSs,reduceIte,Nat.reduceEqDiff,Int.reduceEq,Int.reduceLT,Int.reduceLE]
   rw [hTe] at hr
   have hrun:=slices_Equal.runs hr (.inr rfl)
   rw [g2] at hrun
   rw [decide_eq_false h]
   exact hrun
 ·
  have d1:¬ (a.length:Int)=(b.length:Int):=by omega
  conv at hr =>
   rhs
   rw [hTe]
   simp only [slices_Equal.code,slices_Equal.rs,zSs,reduceIte,Nat.reduceEqDiff,Int.reduceEq,Int.reduceLT,Int.reduceLE,if_neg k2,if_neg j2,Z5 hk,Z5 hj,d1]
  rw [hTe] at hr
  rw [decide_eq_false (fun h:a=b=>hab (by rw [h]))]
  exact slices_Equal.runs hr (.inr rfl)
theorem VQ:∀ {a b:List TxV},flat a=flat b→a=b:=by
 intro a
 induction a with
 | nil=>intro b h;cases b with
  | nil=>rfl
  | cons u b=>simp [flat] at h
 | cons t a ih =>
  intro b h
  cases b with
  | nil=>simp [flat] at h
  | cons u b =>
   have h':[t.id,t.fee]++flat a=[u.id,u.fee]++flat b:=h
   simp at h'
   rw [ih h'.2.2,TxV.ext_iff'.mpr ⟨h'.1,h'.2.1⟩]
theorem afx {l:List TxV} (h:∀ t ∈ l,qp t=true):∀ n ∈ flat l,Few n:=fun n hn=>by have:=VN h n hn;unfold Few;omega
theorem aew {a b:List TxV} {r s:List UInt8} (la:a.length≤1000) (lb:b.length≤1000) (ha:∀ t ∈ a,qp t=true) (hb:∀ t ∈ b,qp t=true) (h:Vj a++r=Vj b++s):a=b∧r=s:=by
 rw [Zg,Zg,List.append_assoc,List.append_assoc] at h
 obtain ⟨h1,h2⟩:=Wx (a:=[(a.length:Int)]) (c:=[(b.length:Int)]) rfl (by simp [Few];omega) (by simp [Few];omega) h
 simp at h1
 obtain ⟨h3,h4⟩:=Wx (by rw [Jz,Jz];omega) (afx ha) (afx hb) h2
 exact ⟨VQ h3,h4⟩
theorem acL {a b:List TxV} {r s:List UInt8} (ha:Zx a=true) (hb:Zx b=true) (h:Vj a++r=Vj b++s):a=b∧r=s:=by
 obtain ⟨h1,h2⟩:=xB.mp ha
 obtain ⟨h3,h4⟩:=xB.mp hb
 exact aew (by omega) (by omega) h1.2 h3.2 h
noncomputable def Zc (l:List UInt8):Option (List TxV):=rd (fun t=>Zx t=true) Vj l
theorem xH (l:List UInt8) (t:List TxV):Zc l=some t ↔ Zx t=true∧l=Vj t :=
 afK (fun x y hx hy h=>(acL (r:=[]) (s:=[]) hx hy (by simpa using h)).1) l t
theorem aeh {l:List UInt8} (h:∀ t,¬ (Zx t=true∧l=Vj t)):Zc l=none:=by
 cases hr:Zc l with
 | none=>rfl
 | some t=>exact absurd ((xH l t).mp hr) (h t)
noncomputable def Xv (k:Nat) (l:List UInt8):Value:=match Zc l with
 | some t=>.tuple #[tl (if t=[] then k else 2) t,.int .i64 0]
 | none=>.tuple #[.slice none 0 0,.int .i64 61]
def WS:Nat→List UInt8→Option (List TxV×List UInt8)
 | 0,l=>some ([],l)
 | m+1,l=>match y8 2 l with
  | some ([a,b],r)=>if qp ⟨a,b⟩ then (match WS m r with
   | some (x,y)=>some (⟨a,b⟩::x,y)
   | none=>none) else none
  | _=>none
theorem Xu:∀ (m:Nat) (l:List UInt8) (a:List TxV) (b:List UInt8),WS m l=some (a,b) ↔ a.length=m∧(∀ t ∈ a,qp t=true)∧l=encs (flat a)++b:=by
 intro m
 induction m with
 | zero =>
  intro l a b
  constructor
  ·
   intro h;cases h;exact ⟨rfl,(fun t h=>by cases h),rfl⟩
  ·
   rintro ⟨h1,h2,h3⟩
   have:a=[]:=List.length_eq_zero_iff.mp h1
   subst this
   rw [h3];rfl
 | succ m ih =>
  intro l a b
  rw [WS]
  constructor
  ·
   intro h
   rcases QM l with hn | ⟨x,y,r,hn,hlr⟩
   ·
    rw [hn] at h;cases h
   ·
    rw [hn] at h
    dsimp only at h
    split at h
    ·
     rename_i hok
     cases hr:WS m r with
     | none=>rw [hr] at h;cases h
     | some ab =>
      obtain ⟨a',b'⟩:=ab
      rw [hr] at h
      obtain ⟨h1,h2,h3⟩:=(ih r a' b').mp hr
      cases h
      obtain ⟨f1,f2,f3⟩:=(yQ _ _ _ _).mp hn
      refine ⟨by simp [h1],fun t ht=>?_,?_⟩
      ·
       rcases List.mem_cons.1 ht with rfl | ht
       ·
        exact hok
       ·
        exact h2 t ht
      ·
       rw [f2,h3,show flat (⟨x,y⟩::a')=[x,y]++flat a' from rfl,Zl,List.append_assoc]
    ·
     cases h
  ·
   rintro ⟨h1,h2,h3⟩
   cases a with
   | nil=>simp at h1
   | cons t a =>
    have ht:=h2 t (by simp)
    obtain ⟨b1,b2,b3,b4⟩:=xg.mp ht
    have hn:=(yQ 2 l [t.id,t.fee] (encs (flat a)++b)).mpr ⟨rfl,by rw [h3,show flat (t::a)=[t.id,t.fee]++flat a from rfl,Zl,List.append_assoc],by simp [Few];omega⟩
    rw [hn]
    dsimp only
    rw [if_pos ht,(ih (encs (flat a)++b) a b).mpr ⟨by simpa using h1,fun u hu=>h2 u (by simp [hu]),rfl⟩]
theorem aiR (l:List UInt8):y8 1 l=none∨∃ a r,y8 1 l=some ([a],r)∧r.length≤l.length:=by
 cases h:y8 1 l with
 | none=>exact .inl rfl
 | some ar =>
  obtain ⟨a,r⟩:=ar
  obtain ⟨h1,h2⟩:=Wp h
  match a,h1 with
  | [x],_=>exact .inr ⟨x,r,rfl,h2⟩
theorem WH {l r:List UInt8} {n:Int} (h:y8 1 l=some ([n],r)) (t:List TxV):Zc l=some t ↔ 0≤n∧n≤3∧WS n.toNat r=some (t,[])∧unl t=true:=by
 obtain ⟨_,h2,h3⟩:=(yQ _ _ _ _).mp h
 rw [xH,Xu]
 constructor
 ·
  rintro ⟨g1,g2⟩
  obtain ⟨h5,h6⟩:=xB.mp g1
  rw [Zg,h2] at g2
  obtain ⟨h7,h8⟩:=Wx (a:=[n]) (c:=[(t.length:Int)]) rfl h3 (by simp [Few];omega) g2
  simp at h7
  refine ⟨by omega,by omega,⟨by omega,h5.2,by simpa using h8⟩,?_⟩
  unfold Zx at g1
  simp at g1
  exact g1.1
 ·
  rintro ⟨g1,g2,⟨g3,g4,g5⟩,g6⟩
  refine ⟨?_,?_⟩
  ·
   unfold Zx
   rw [g6,Bool.true_and,List.all_eq_true]
   exact g4
  ·
   have:n=(t.length:Int):=by omega
   rw [h2,g5,List.append_nil,Zg,this]
theorem Vf {l:List UInt8} (h:y8 1 l=none):Zc l=none:=by
 refine aeh fun t ht=>?_
 obtain ⟨h5,h6⟩:=xB.mp ht.1
 have:=(yQ 1 l [(t.length:Int)] (encs (flat t))).mpr ⟨rfl,by rw [ht.2,Zg],by simp [Few];omega⟩
 rw [h] at this
 cases this
end Go.Proofs.Ytfjogganfjkckaa
namespace Go.Proofs.Ytfjogganfjkckaa
open Go.Abs
theorem aeM (t:TxV) (S:zn):jH Try.prog 44 1 [(0,tv t)] S=some (tl 2 [t],S):=by kernel_rfl
theorem akX (k:Nat) (hk:k≤2) (a:Int) (h:k≠0) (S:zn):jo Try.prog 24 (iz k [a]) (.int .i64 0) S=some (EP [.int .i64 a],S):=abD ⟨hk,fun h0=>absurd h0 h⟩ (by decide) (by simp)
theorem afL {k:Nat} (hk:k≤2) (l:List TxV):Okl (if l=[] then k else 2) l:=⟨by split <;> omega,fun h=>by split at h <;> first | assumption | omega⟩
theorem zQ.round {n:Int} (hn:n≤3):∀ (m:Nat) (i:Int) (rest:List UInt8) (out:List TxV) {T:List Value} {S:zn} {r:St},qw (zG Try.prog O false zQ.jL) T S=r→T.length=59 →
  T.getD 5 zh=by_ 2 rest→T.getD 7 zh=tl (if out=[] then 0 else 2) out→T.getD 33 zh=.int .i64 n→T.getD 34 zh=.int .i64 i→0≤i→n=i+m→out.length≤3 - m→rest.length≤140737488355328 →
  ∃ e T' S',r=some (e,T',S')∧match WS m rest with
   | some (ts,r')=>e=.exit 0∧T'.length=59∧T'.getD 5 zh=by_ 2 r'∧T'.getD 7 zh=tl (if out++ts=[] then 0 else 2) (out++ts)
   | none=>e=.ret∧T'.getD 2 zh=.slice none 0 0∧T'.getD 3 zh=.int .i64 61:=by
 intro m
 induction m with
 | zero =>
  intro i rest out T S r hL hT h5 h7 h33 h34 hi hm ho hl
  have hTe:=zQ.eta hT
  rw [h5,h7,h33,h34] at hTe
  have hr:zG Try.prog O false zQ.jL T S=zG Try.prog O false zQ.jL T S:=rfl
  have d1:¬ i < n:=by omega
  conv at hr =>
   rhs
   rw [hTe]
   simp only [zQ.jL,zQ.code,zQ.rs,zSs,reduceIte,Nat.reduceEqDiff,Int.reduceEq,Int.reduceLT,Int.reduceLE,d1]
  refine ⟨_,_,_,hL.symm.trans (jZ hr (by simp)),?_⟩
  rw [WS]
  exact ⟨rfl,rfl,rfl,by rw [List.append_nil];rfl⟩
 | succ m ih =>
  intro i rest out T S r hL hT h5 h7 h33 h34 hi hm ho hl
  have hTe:=zQ.eta hT
  rw [h5,h7,h33,h34] at hTe
  have hr:zG Try.prog O false zQ.jL T S=zG Try.prog O false zQ.jL T S:=rfl
  have d1:i < n:=by omega
  have c1:=fun S=>wZ.v (k:=1) (l:=rest) Okl.read (by decide) hl S
  unfold ahu at c1
  rw [WS]
  rcases QM rest with h | ⟨a,b,q,h,hlr⟩
  ·
   rw [h] at c1
   rw [h]
   obtain ⟨S2,p1,p2,p3,p4⟩:=Xn S ⟨0,0⟩
   conv at hr =>
    rhs
    rw [hTe]
    simp only [zQ.jL,zQ.code,zQ.rs,zSs,reduceIte,Nat.reduceEqDiff,Int.reduceEq,Int.reduceLT,Int.reduceLE,d1,c1,JC,p1]
   exact ⟨_,_,_,hL.symm.trans (jZ hr (by simp)),rfl,rfl,rfl⟩
  ·
   rw [h] at c1
   rw [h]
   obtain ⟨S2,p1,p2,p3,p4⟩:=Xn S ⟨a,b⟩
   by_cases hok:qp ⟨a,b⟩=true
   ·
    have wi:IntKind.i64.wrap (i+1)=i+1:=wrap_i64 (by omega) (by omega)
    have ap:∀ S,wP Try.prog 44 44 (tl (if out=[] then 0 else 2) out) (tl 2 [⟨a,b⟩]) S=some (tl 2 (out++[⟨a,b⟩]),S):=fun S=>afe ⟨by split <;> omega,fun h=>by split at h <;> first | assumption | omega⟩ (by split <;> omega) (by omega)
    have c2:∀ S,jH Try.prog 44 1 [(0,.agg [Value.int .i64 a,.int .i64 b].toArray)] S=some (tl 2 [⟨a,b⟩],S):=fun S=>aeM ⟨a,b⟩ S
    have c3:jf Try.prog false 43 (.pointer (some ⟨S.next,0,none⟩)) S2=some (.agg [Value.int .i64 a,.int .i64 b].toArray,S2):=J6 p2
    conv at hr =>
     rhs
     rw [hTe]
     simp only [zQ.jL,zQ.code,zQ.rs,zSs,reduceIte,Nat.reduceEqDiff,Int.reduceEq,Int.reduceLT,Int.reduceLE,d1,c1,JC,p1,hok,c3,c2,ap,wi]
    obtain ⟨e,T',S',j1,j2⟩:=ih (i+1) q (out++[⟨a,b⟩]) ((wY hr).symm.trans hL) rfl rfl (by rw [show (if out++[TxV.mk a b]=[] then 0 else 2)=2 from if_neg (by simp)];rfl) rfl rfl (by omega) (by omega) (by simp;omega) (by omega)
    refine ⟨e,T',S',j1,?_⟩
    dsimp only
    rw [if_pos hok]
    cases hq:WS m q with
    | none=>rw [hq] at j2;exact j2
    | some tr =>
     obtain ⟨ts,r'⟩:=tr
     rw [hq] at j2
     dsimp only at j2 ⊢
     rw [List.append_assoc] at j2
     exact j2
   ·
    dsimp only
    rw [if_neg hok]
    rw [Bool.not_eq_true] at hok
    conv at hr =>
     rhs
     rw [hTe]
     simp only [zQ.jL,zQ.code,zQ.rs,zSs,reduceIte,Nat.reduceEqDiff,Int.reduceEq,Int.reduceLT,Int.reduceLE,d1,c1,JC,p1,hok]
    exact ⟨_,_,_,hL.symm.trans (jZ hr (by simp)),rfl,rfl,rfl⟩
theorem zQ.v {k:Nat} {l:List UInt8} (hk:Okl k l) (k2:k≠2) (hl:l.length≤140737488355328) (S:zn):zW Try.prog O zQ.id [by_ k l] S=some (Xv 0 l,S):=by
 obtain ⟨T,hTe⟩:∃ T,T=(by_ k l::zh::zh::zh::zh::zh::zh::zh::zh::zh::zh::zh::zh::zh::zh::zh::zh::zh::zh::zh::zh::zh::zh::zh::zh::zh::zh::zh::zh::zh::zh::zh::zh::zh::zh::zh::zh::zh::zh::zh::zh::zh::zh::zh::zh::zh::zh::zh::zh::zh::zh::zh::zh::zh::zh::zh::zh::zh::zh::[]):=⟨_,rfl⟩
 have hr:zG Try.prog O false zQ.code T zn.empty=zG Try.prog O false zQ.code T zn.empty:=rfl
 have c1:=fun S=>zL.v (many:=1) hk k2 hl S
 have r1:vO 0 (if k=0 then 0 else 2) 1 l=_:=xI (m:=1) (by decide) (by decide)
 rw [r1] at c1
 have cl:[by_ k l].all (jP 16)=true:=all1 (qx (k:=k) hk.le)
 unfold Xv
 rcases aiR l with h | ⟨n,rest,h,hlr⟩
 ·
  rw [h] at c1
  rw [Vf h]
  conv at hr =>
   rhs
   rw [hTe]
   simp only [zQ.code,zQ.rs,zSs,reduceIte,Nat.reduceEqDiff,Int.reduceEq,Int.reduceLT,Int.reduceLE,if_neg k2,c1]
  rw [hTe] at hr
  exact zQ.runs hr (.inr rfl) rfl rfl cl rfl
 ·
  rw [h] at c1
  have e0:=akX 1 (by decide) n (by decide)
  by_cases h0:n < 0
  ·
   have hno:Zc l=none:=by
    cases hx:Zc l with
    | none=>rfl
    | some t=>have:=(WH h t).mp hx;omega
   rw [hno]
   conv at hr =>
    rhs
    rw [hTe]
    simp only [zQ.code,zQ.rs,zSs,reduceIte,Nat.reduceEqDiff,Int.reduceEq,Int.reduceLT,Int.reduceLE,if_neg k2,c1,e0,ql,h0]
   rw [hTe] at hr
   exact zQ.runs hr (.inr rfl) rfl rfl cl rfl
  ·
   by_cases h3:3 < n
   ·
    have hno:Zc l=none:=by
     cases hx:Zc l with
     | none=>rfl
     | some t=>have:=(WH h t).mp hx;omega
    rw [hno]
    conv at hr =>
     rhs
     rw [hTe]
     simp only [zQ.code,zQ.rs,zSs,reduceIte,Nat.reduceEqDiff,Int.reduceEq,Int.reduceLT,Int.reduceLE,if_neg k2,c1,e0,ql,h0,h3]
    rw [hTe] at hr
    exact zQ.runs hr (.inr rfl) rfl rfl cl rfl
   ·
    conv at hr =>
     rhs
     rw [hTe]
     simp only [zQ.code,zQ.rs,zSs,reduceIte,Nat.reduceEqDiff,Int.reduceEq,Int.reduceLT,Int.reduceLE,if_neg k2,c1,e0,ql,h0,h3]
    generalize hL:qw (zG Try.prog O false zQ.jL) _ _=r at hr
    obtain ⟨e,T',S',rfl,g⟩:=zQ.round (n:=n) (by omega) n.toNat 0 rest [] hL rfl rfl rfl rfl rfl (by omega) (by omega) (by simp) (by omega)
    cases hts:WS n.toNat rest with
    | none =>
     rw [hts] at g
     obtain ⟨rfl,g2,g3⟩:=g
     have hno:Zc l=none:=by
      cases hx:Zc l with
      | none=>rfl
      | some t=>have:=(WH h t).mp hx;rw [hts] at this;simp at this
     rw [hno]
     conv at hr =>
      rhs
      simp only [zSs,reduceIte,Nat.reduceEqDiff,Int.reduceEq,Int.reduceLT,Int.reduceLE]
     rw [hTe] at hr
     have hrun:=zQ.runs (S:=S) hr (.inr rfl) (by rw [g2];rfl) (by rw [g3];rfl) cl (by rw [g2,g3];rfl)
     rw [g2,g3] at hrun
     exact hrun
    | some tr =>
     obtain ⟨ts,r'⟩:=tr
     rw [hts] at g
     obtain ⟨rfl,g2,g3,g4⟩:=g
     rw [List.nil_append] at g4
     have hTe':=zQ.eta g2
     rw [g3,g4] at hTe'
     by_cases hr0:r'=[]
     ·
      subst hr0
      have hts3:ts.length≤3:=by have:=(Xu _ _ _ _).mp hts;omega
      have c3:=fun S=>jG.v (afL (by decide) ts).dem (J5 (if ts=[] then 0 else 2)) (by omega) S
      by_cases hu:unl ts=true
      ·
       have hyes:Zc l=some ts:=(WH h ts).mpr ⟨by omega,by omega,hts,hu⟩
       rw [hyes]
       conv at hr =>
        rhs
        rw [hTe']
        simp only [zQ.code,zQ.rs,zSs,reduceIte,Nat.reduceEqDiff,Int.reduceEq,Int.reduceLT,Int.reduceLE,Zy Okl.read,goInt,List.length_nil,Int.natCast_zero,Int.lt_irrefl,ac3,c3,hu]
       rw [hTe] at hr
       exact zQ.runs hr (.inr rfl) (by simp only [List.getD_cons_succ,List.getD_cons_zero,wC,jW,jK,jO,jX]) rfl cl (yO (all2 (Jc (afL (by decide) ts).le fun _ _=>rfl) rfl))
      ·
       have hno:Zc l=none:=by
        cases hx:Zc l with
        | none=>rfl
        | some t=>have:=(WH h t).mp hx;rw [hts] at this;simp at this;rw [this.2.2.1] at hu;exact absurd this.2.2.2 hu
       rw [hno]
       rw [Bool.not_eq_true] at hu
       conv at hr =>
        rhs
        rw [hTe']
        simp only [zQ.code,zQ.rs,zSs,reduceIte,Nat.reduceEqDiff,Int.reduceEq,Int.reduceLT,Int.reduceLE,Zy Okl.read,goInt,List.length_nil,Int.natCast_zero,Int.lt_irrefl,ac3,c3,hu]
       rw [hTe] at hr
       exact zQ.runs hr (.inr rfl) rfl rfl cl rfl
     ·
      have hp:(0:Int) < (r'.length:Int):=by have:=List.length_pos_iff.mpr hr0;omega
      have hno:Zc l=none:=by
       cases hx:Zc l with
       | none=>rfl
       | some t=>have:=(WH h t).mp hx;rw [hts] at this;simp at this;exact absurd this.2.2.1.2 hr0
      rw [hno]
      conv at hr =>
       rhs
       rw [hTe']
       simp only [zQ.code,zQ.rs,zSs,reduceIte,Nat.reduceEqDiff,Int.reduceEq,Int.reduceLT,Int.reduceLE,Zy Okl.read,goInt,decide_eq_true hp]
      rw [hTe] at hr
      exact zQ.runs hr (.inr rfl) rfl rfl cl rfl
end Go.Proofs.Ytfjogganfjkckaa
namespace Go.Proofs.Ytfjogganfjkckaa
open Go.Abs
theorem ajn:∀ (m:Nat) (l:List Int),l.length=2 * m→∃ ts:List TxV,l=flat ts∧ts.length=m:=by
 intro m
 induction m with
 | zero=>intro l h;exact ⟨[],List.length_eq_zero_iff.mp (by omega),rfl⟩
 | succ m ih =>
  intro l h
  match l,h with
  | a::b::l,h =>
   obtain ⟨ts,h1,h2⟩:=ih l (by simp at h;omega)
   exact ⟨⟨a,b⟩::ts,by rw [h1];rfl,by simp [h2]⟩
theorem ai6 {n0:Int} {pre suf:List TxV} {t:TxV} {l:List Int} (hl:l=n0::flat (pre++t::suf)):l[1+2 * pre.length]?=some t.id∧l[2+2 * pre.length]?=some t.fee:=by
 have e:l=(n0::flat pre)++(t.id::t.fee::flat suf):=by rw [hl,Yf];rfl
 have hlen:(n0::flat pre).length=1+2 * pre.length:=by rw [List.length_cons,Jz];omega
 constructor
 ·
  rw [e,List.getElem?_append_right (by omega),hlen,Nat.sub_self];rfl
 ·
  rw [e,List.getElem?_append_right (by omega),hlen,show 2+2 * pre.length - (1+2 * pre.length)=1 by omega];rfl
theorem xQ {k:Nat} {l:List Int} {i:Int} {x:Int} {m:Nat} (h:Okl k l) (hi:i=(m:Int)) (hx:l[m]?=some x) (S:zn):jo Try.prog 24 (iz k l) (.int .i64 i) S=some (EP [.int .i64 x],S):=by
 obtain ⟨h1,h2⟩:=List.getElem?_eq_some_iff.mp hx
 subst hi
 rw [abD h (by omega) (by omega)]
 simp [← h2]
theorem zo.inner {ns:List Int} {n0:Int} {ts:List TxV} (hns:ns=n0::flat ts) (hts:ts.length≤3):∀ (suf pre:List TxV) {T:List Value} {S:zn} {r:St},qw (zG Try.prog O false zo.jL) T S=r→T.length=69 →
  T.getD 4 zh=.int .i64 ts.length→T.getD 5 zh=iz 2 ns→T.getD 8 zh=tl 2 pre→T.getD 9 zh=.int .i64 pre.length→ts=pre++suf →
  ∃ T',r=some (.exit 2,T',S)∧T'.length=69∧T'.getD 8 zh=tl 2 ts∧T'.getD 4 zh=.int .i64 ts.length∧T'.getD 0 zh=T.getD 0 zh:=by
 intro suf
 induction suf with
 | nil =>
  intro pre T S r hL hT h4 h5 h8 h9 hpre
  have hTe:=zo.eta hT
  rw [h4,h5,h8,h9] at hTe
  have hr:zG Try.prog O false zo.jL T S=zG Try.prog O false zo.jL T S:=rfl
  have d1:¬ (pre.length:Int) < (ts.length:Int):=by rw [hpre];simp
  conv at hr =>
   rhs
   rw [hTe]
   simp only [zo.jL,zo.code,zo.rs,zSs,reduceIte,Nat.reduceEqDiff,Int.reduceEq,Int.reduceLT,Int.reduceLE,d1]
  rw [List.append_nil] at hpre
  exact ⟨_,hL.symm.trans (jZ hr (by simp)),rfl,by rw [hpre];rfl,rfl,rfl⟩
 | cons t suf ih =>
  intro pre T S r hL hT h4 h5 h8 h9 hpre
  have hTe:=zo.eta hT
  rw [h4,h5,h8,h9] at hTe
  have hr:zG Try.prog O false zo.jL T S=zG Try.prog O false zo.jL T S:=rfl
  have d1:(pre.length:Int) < (ts.length:Int):=by rw [hpre];simp;omega
  obtain ⟨f1,f2⟩:=ai6 (by rw [hns,hpre]:ns=n0::flat (pre++t::suf))
  have w1:IntKind.i64.wrap (2 * (pre.length:Int))=2 * (pre.length:Int):=wrap_i64 (by omega) (by omega)
  have w2:IntKind.i64.wrap (1+2 * (pre.length:Int))=1+2 * (pre.length:Int):=wrap_i64 (by omega) (by omega)
  have w3:IntKind.i64.wrap (2+2 * (pre.length:Int))=2+2 * (pre.length:Int):=wrap_i64 (by omega) (by omega)
  have wi:IntKind.i64.wrap ((pre.length:Int)+1)=((pre++[t]).length:Int):=by rw [wrap_i64 (by omega) (by omega)];simp
  have i1:=fun S=>xQ (k:=1) (i:=1+2 * (pre.length:Int)) Okl.read (by omega) f1 S
  have i2:=fun S=>xQ (k:=1) (i:=2+2 * (pre.length:Int)) Okl.read (by omega) f2 S
  have ap:∀ S,wP Try.prog 44 44 (tl 2 pre) (tl 2 [t]) S=some (tl 2 (pre++[t]),S):=fun S=>afe Okl.own (by decide) (by omega)
  have c2:∀ S,jH Try.prog 44 1 [(0,.agg [Value.int .i64 t.id,.int .i64 t.fee].toArray)] S=some (tl 2 [t],S):=fun S=>aeM t S
  conv at hr =>
   rhs
   rw [hTe]
   simp only [zo.jL,zo.code,zo.rs,zSs,reduceIte,Nat.reduceEqDiff,Int.reduceEq,Int.reduceLT,Int.reduceLE,d1,w1,w2,w3,i1,i2,ql,ZE yL yL,c2,ap,wi]
  obtain ⟨T',j1,j2,j3,j4,j5⟩:=ih (pre++[t]) ((wY hr).symm.trans hL) rfl rfl rfl rfl rfl (by simp [hpre])
  exact ⟨T',j1,j2,j3,j4,j5⟩
theorem zo.round {k:Nat} {l:List UInt8} (hk:Okl k l) (k2:k≠2) (hl:l.length≤140737488355328):∀ (m:Nat) (n:Nat) {T:List Value} {S:zn} {r:St},qw (zG Try.prog O false zo.kP) T S=r→T.length=69 →
  T.getD 0 zh=by_ k l→T.getD 4 zh=.int .i64 n→n+m=4→(∀ ts,Zc l=some ts→n≤ts.length) →
  ∃ e T',r=some (e,T',S)∧match Zc l with
   | some ts=>e=.ret∧T'.getD 2 zh=tl 2 ts∧T'.getD 3 zh=.int .i64 0
   | none=>e=.exit 0∧T'.length=69:=by
 intro m
 induction m with
 | zero =>
  intro n T S r hL hT h0 h4 hn hno
  have hTe:=zo.eta hT
  rw [h0,h4] at hTe
  have hr:zG Try.prog O false zo.kP T S=zG Try.prog O false zo.kP T S:=rfl
  have d1:¬ (n:Int)≤3:=by omega
  conv at hr =>
   rhs
   rw [hTe]
   simp only [zo.kP,zo.code,zo.rs,zSs,reduceIte,Nat.reduceEqDiff,Int.reduceEq,Int.reduceLT,Int.reduceLE,d1]
  refine ⟨_,_,hL.symm.trans (jZ hr (by simp)),?_⟩
  have hx:Zc l=none:=by
   cases hx:Zc l with
   | none=>rfl
   | some ts=>have h1:=hno ts hx;have h2:=(xB.mp ((xH l ts).mp hx).1).2;omega
  rw [hx]
  exact ⟨rfl,rfl⟩
 | succ m ih =>
  intro n T S r hL hT h0 h4 hn hno
  have hTe:=zo.eta hT
  rw [h0,h4] at hTe
  have hr:zG Try.prog O false zo.kP T S=zG Try.prog O false zo.kP T S:=rfl
  have d1:(n:Int)≤3:=by omega
  have w1:IntKind.i64.wrap (2 * (n:Int))=2 * (n:Int):=wrap_i64 (by omega) (by omega)
  have w2:IntKind.i64.wrap (1+2 * (n:Int))=((1+2 * n:Nat):Int):=by rw [wrap_i64 (by omega) (by omega)];omega
  have wi:IntKind.i64.wrap ((n:Int)+1)=((n+1:Nat):Int):=by rw [wrap_i64 (by omega) (by omega)];omega
  have c1:=fun S=>zx.v (many:=((1+2 * n:Nat):Int)) hk k2 hl S
  have r1:vO 2 2 ((1+2 * n:Nat):Int) l=_:=xI (by omega) (by omega)
  rw [r1] at c1
  have key:∀ ts,Zc l=some ts→ts.length=n→y8 (1+2 * n) l=some ((ts.length:Int)::flat ts,[]):=by
   intro ts hx hlen
   obtain ⟨g1,g2⟩:=(xH l ts).mp hx
   obtain ⟨h5,h6⟩:=xB.mp g1
   refine (yQ _ _ _ _).mpr ⟨by simp [Jz];omega,by rw [g2,List.append_nil];rfl,?_⟩
   intro x hx
   rcases List.mem_cons.1 hx with rfl | hx
   ·
    unfold Few;omega
   ·
    exact afx h5.2 x hx
  cases hns:y8 (1+2 * n) l with
  | none =>
   rw [hns] at c1
   conv at hr =>
    rhs
    rw [hTe]
    simp only [zo.kP,zo.code,zo.rs,zSs,reduceIte,Nat.reduceEqDiff,Int.reduceEq,Int.reduceLT,Int.reduceLE,d1,w1,w2,if_neg k2,c1,wi]
   refine ih (n+1) ((wY hr).symm.trans hL) rfl rfl rfl (by omega) ?_
   intro ts hx
   have h1:=hno ts hx
   by_cases h2:ts.length=n
   ·
    rw [key ts hx h2] at hns;cases hns
   ·
    omega
  | some nr =>
   obtain ⟨ns,rest⟩:=nr
   rw [hns] at c1
   by_cases hr0:rest=[]
   ·
    subst hr0
    obtain ⟨f1,f2,f3⟩:=(yQ _ _ _ _).mp hns
    obtain ⟨n0,nl,rfl⟩:∃ n0 nl,ns=n0::nl:=by
     cases ns with
     | nil=>simp at f1;omega
     | cons a b=>exact ⟨a,b,rfl⟩
    obtain ⟨ts,t1,t2⟩:=ajn n nl (by simp at f1;omega)
    subst t1
    conv at hr =>
     rhs
     rw [hTe]
     simp only [zo.kP,zo.code,zo.rs,zSs,reduceIte,Nat.reduceEqDiff,Int.reduceEq,Int.reduceLT,Int.reduceLE,d1,w1,w2,if_neg k2,c1,Zy Okl.read,goInt,List.length_nil,Int.natCast_zero,Int.lt_irrefl,Vy]
    generalize hL2:qw (zG Try.prog O false zo.jL) _ _=r2 at hr
    obtain ⟨T',rfl,g1,g2,g3,g4⟩:=zo.inner (n0:=n0) (ts:=ts) rfl (by omega) ts [] hL2 rfl (by rw [t2];rfl) rfl rfl rfl rfl
    have hTe':=zo.eta g1
    rw [g2,g3,g4,t2] at hTe'
    simp only [List.getD_cons_zero] at hTe'
    have c3:=fun S=>zu.v (k:=1) (l:=ts) Okl.read (by decide) (by omega) S
    unfold ahx at c3
    have s1:∀ S,ZO Try.prog 33 9 (by_ k l) S=some (.string ⟨l.toArray⟩,S):=fun S=>Yu hk
    have s2:∀ S,ZO Try.prog 33 9 (by_ 1 (Vj ts)) S=some (.string ⟨(Vj ts).toArray⟩,S):=fun S=>Yu Okl.read
    by_cases hok:Zx ts=true
    ·
     rw [if_pos hok] at c3
     by_cases hb:Vj ts=l
     ·
      conv at hr =>
       rhs
       rw [hTe']
       simp only [zo.code,zo.rs,zSs,reduceIte,Nat.reduceEqDiff,Int.reduceEq,Int.reduceLT,Int.reduceLE,if_neg k2,c3,s1,s2,acN,decide_eq_true hb]
      refine ⟨_,_,hL.symm.trans (jZ hr (by simp)),?_⟩
      rw [(xH l ts).mpr ⟨hok,hb.symm⟩]
      exact ⟨rfl,rfl,rfl⟩
     ·
      conv at hr =>
       rhs
       rw [hTe']
       simp only [zo.code,zo.rs,zSs,reduceIte,Nat.reduceEqDiff,Int.reduceEq,Int.reduceLT,Int.reduceLE,if_neg k2,c3,s1,s2,acN,decide_eq_false hb,wi]
      refine ih (n+1) ((wY hr).symm.trans hL) rfl rfl rfl (by omega) ?_
      intro us hx
      have h1:=hno us hx
      by_cases h2:us.length=n
      ·
       have:=key us hx h2
       rw [hns] at this
       simp at this
       have e:=VQ this.2
       subst e
       exact absurd ((xH _ _).mp hx).2.symm hb
      ·
       omega
    ·
     rw [if_neg hok] at c3
     conv at hr =>
      rhs
      rw [hTe']
      simp only [zo.code,zo.rs,zSs,reduceIte,Nat.reduceEqDiff,Int.reduceEq,Int.reduceLT,Int.reduceLE,c3,wi]
     refine ih (n+1) ((wY hr).symm.trans hL) rfl rfl rfl (by omega) ?_
     intro us hx
     have h1:=hno us hx
     by_cases h2:us.length=n
     ·
      have:=key us hx h2
      rw [hns] at this
      simp at this
      have e:=VQ this.2
      subst e
      exact absurd ((xH _ _).mp hx).1 hok
     ·
      omega
   ·
    have hp:(0:Int) < (rest.length:Int):=by have:=List.length_pos_iff.mpr hr0;omega
    conv at hr =>
     rhs
     rw [hTe]
     simp only [zo.kP,zo.code,zo.rs,zSs,reduceIte,Nat.reduceEqDiff,Int.reduceEq,Int.reduceLT,Int.reduceLE,d1,w1,w2,if_neg k2,c1,Zy Okl.read,goInt,decide_eq_true hp,wi]
    refine ih (n+1) ((wY hr).symm.trans hL) rfl rfl rfl (by omega) ?_
    intro ts hx
    have h1:=hno ts hx
    by_cases h2:ts.length=n
    ·
     rw [key ts hx h2] at hns;simp at hns;exact absurd hns.2 hr0
    ·
     omega
theorem zo.v {k:Nat} {l:List UInt8} (hk:Okl k l) (k2:k≠2) (hl:l.length≤140737488355328) (S:zn):zW Try.prog O zo.id [by_ k l] S=some (Xv 2 l,S):=by
 obtain ⟨T,hTe⟩:∃ T,T=(by_ k l::zh::zh::zh::zh::zh::zh::zh::zh::zh::zh::zh::zh::zh::zh::zh::zh::zh::zh::zh::zh::zh::zh::zh::zh::zh::zh::zh::zh::zh::zh::zh::zh::zh::zh::zh::zh::zh::zh::zh::zh::zh::zh::zh::zh::zh::zh::zh::zh::zh::zh::zh::zh::zh::zh::zh::zh::zh::zh::zh::zh::zh::zh::zh::zh::zh::zh::zh::zh::[]):=⟨_,rfl⟩
 have hr:zG Try.prog O false zo.code T S=zG Try.prog O false zo.code T S:=rfl
 conv at hr =>
  rhs
  rw [hTe]
  simp only [zo.code,zo.rs,zSs,reduceIte,Nat.reduceEqDiff,Int.reduceEq,Int.reduceLT,Int.reduceLE]
 generalize hL:qw (zG Try.prog O false zo.kP) _ _=r at hr
 obtain ⟨e,T',rfl,g⟩:=zo.round hk k2 hl 4 0 hL rfl rfl rfl rfl (fun ts h=>Nat.zero_le _)
 unfold Xv
 cases hx:Zc l with
 | none =>
  rw [hx] at g
  obtain ⟨rfl,g2⟩:=g
  have hTe':=zo.eta g2
  conv at hr =>
   rhs
   rw [hTe']
   simp only [zo.code,zo.rs,zSs,reduceIte,Nat.reduceEqDiff,Int.reduceEq,Int.reduceLT,Int.reduceLE]
  rw [hTe] at hr
  exact zo.runs hr (.inr rfl) rfl rfl
 | some ts =>
  rw [hx] at g
  obtain ⟨rfl,g2,g3⟩:=g
  conv at hr =>
   rhs
   simp only [zSs,reduceIte,Nat.reduceEqDiff,Int.reduceEq,Int.reduceLT,Int.reduceLE]
  rw [hTe] at hr
  have hrun:=zo.runs (S:=S) hr (.inr rfl) (by rw [g2];exact wC) (by rw [g3];rfl)
  rw [g2,g3] at hrun
  dsimp only
  rw [ite_self]
  exact hrun
end Go.Proofs.Ytfjogganfjkckaa
namespace Go.Proofs.Ytfjogganfjkckaa
open Go.Abs
theorem Qx {l:List TxV} (h:Zx l=true):(Vj l).length≤100:=by
 obtain ⟨h1,h2⟩:=xB.mp h
 have h3:=YM h1.2
 have h4:=Z7 (l:=[(l.length:Int)]) (by simp;omega)
 rw [Zg,List.length_append]
 simp at h4
 omega
theorem XZ (l:List UInt8):∃ t e,aec l=.tuple #[tv t,.int .i64 e]∧((e=0∧afJ l=some t)∨(e=61∧afJ l=none∧t=⟨0,0⟩)):=by
 unfold aec
 cases h:afJ l with
 | none=>exact ⟨⟨0,0⟩,61,rfl,.inr ⟨rfl,rfl,rfl⟩⟩
 | some t=>exact ⟨t,0,rfl,.inl ⟨rfl,rfl⟩⟩
theorem Q8 {j:Nat} (hj:j≤2) (l:List UInt8):∃ k t e,Okl k t∧List.length t≤3∧Xv j l=.tuple #[tl k t,.int .i64 e]∧((e=0∧Zc l=some t)∨(e=61∧Zc l=none∧t=[])):=by
 unfold Xv
 cases h:Zc l with
 | none=>exact ⟨0,[],61,Okl.none,by simp,rfl,.inr ⟨rfl,rfl,rfl⟩⟩
 | some t=>exact ⟨_,t,0,afL hj t,(xB.mp ((xH l t).mp h).1).2,rfl,.inl ⟨rfl,rfl⟩⟩
theorem aj2 (x:(Ty.slc 16 tTx).Val) (hg:(Ty.slc 16 tTx).Good x):∃ k l,Okl k l∧k≠2∧(Ty.slc 16 tTx).WO x=[tl k l]∧l.length * 16≤140737488351232∧∀ t ∈ l,t.Ok :=
 ah2 (b:=16) fT TxV.Ok ajO acS x hg
end Go.Proofs.Ytfjogganfjkckaa
namespace Go.Proofs.Ytfjogganfjkckaa
open Go.Abs
structure xJ where
 slot:Int
 miner:Int
 variant:Int
 parent:Int
 k:Nat
 txs:List TxV
def fBk (b:xJ):List Value:=[.int .i64 b.slot,.int .i64 b.miner,.int .i64 b.variant,.int .i64 b.parent,tl b.k b.txs]
abbrev bv (b:xJ):Value:=.agg [Value.int .i64 b.slot,.int .i64 b.miner,.int .i64 b.variant,.int .i64 b.parent,tl b.k b.txs].toArray
structure xJ.Ok (b:xJ):Prop where
 okl:Okl b.k b.txs
 ne:b.k≠2
 len:b.txs.length * 16≤140737488351232
 par:b.parent < 9223372036854775808
abbrev tBk:Ty:=.pair (.int .i64) (.pair (.int .i64) (.pair (.int .i64) (.pair (.int .i64) (.pair (.slc 16 tTx) .unit))))
def headB (b:xJ):Bool:=btw b.slot 1 4095 && btw b.miner 0 6 && btw b.variant 0 255 && (decide (b.parent=0) || (xu b.parent && decide (b.parent / 65536 < b.slot)))
def jU (b:xJ):Bool:=headB b && Zx b.txs
def nameOf (b:xJ):Int:=if jU b=true then b.slot * 65536+b.miner * 256+b.variant else 0
theorem Z9 {b:xJ}:headB b=true ↔ (1≤b.slot∧b.slot≤4095)∧(0≤b.miner∧b.miner≤6)∧(0≤b.variant∧b.variant≤255)∧(b.parent=0∨(xu b.parent=true∧b.parent / 65536 < b.slot)):=by
 simp [headB,KI,and_assoc]
theorem yI {b:xJ} {d:Nat} (h:b.k≤2):jP (d+6) (bv b)=true:=by
 have h1:jP (d+5) (tl b.k b.txs)=true:=Jc (d:=d+1) h fun _ _=>rfl
 refine aaC ?_
 simp only [List.all_cons,List.all_nil,h1,Bool.and_true]
 rfl
abbrev akv (b:xJ):zn:=zn.empty.push (.cells (fBk b) (.own []) 0)
theorem JI (b:xJ):JJ (bv b) zn.empty=some (.pointer (some ⟨0,0,none⟩),akv b):=rfl
theorem qc (b:xJ):(akv b).get 0=some (.cells (fBk b) (.own []) 0):=rfl
theorem aav {S:zn} {q:Nat} {b:xJ} (h:S.get q=some (.cells (fBk b) (.own []) 0)):jf Try.prog false 3 (.pointer (some ⟨q,0+0,none⟩)) S=some (.int .i64 b.slot,S):=qL (t:=3) (o:=0+0) h ZY rfl
theorem Vp {S:zn} {q:Nat} {b:xJ} (h:S.get q=some (.cells (fBk b) (.own []) 0)):jf Try.prog false 3 (.pointer (some ⟨q,0+1,none⟩)) S=some (.int .i64 b.miner,S):=qL (t:=3) (o:=0+1) h ZY rfl
theorem Vm {S:zn} {q:Nat} {b:xJ} (h:S.get q=some (.cells (fBk b) (.own []) 0)):jf Try.prog false 3 (.pointer (some ⟨q,0+2,none⟩)) S=some (.int .i64 b.variant,S):=qL (t:=3) (o:=0+2) h ZY rfl
theorem abg {S:zn} {q:Nat} {b:xJ} (h:S.get q=some (.cells (fBk b) (.own []) 0)):jf Try.prog false 3 (.pointer (some ⟨q,0+3,none⟩)) S=some (.int .i64 b.parent,S):=qL (t:=3) (o:=0+3) h ZY rfl
theorem aaQ {S:zn} {q:Nat} {b:xJ} (h:S.get q=some (.cells (fBk b) (.own []) 0)) (hk:b.k≠2):jf Try.prog false 44 (.pointer (some ⟨q,0+4,none⟩)) S=some (tl b.k b.txs,S):=by
 rw [QA (o:=0+4) (v:=tl b.k b.txs) h adu rfl (fun l h=>by unfold tl vs sv at h;split at h <;> cases h),XE,if_neg hk]
theorem Xg {S:zn} {q:Nat} {b:xJ} (h:S.get q=some (.cells (fBk b) (.own []) 0)) (hk:b.k≠2):jf Try.prog false 46 (.pointer (some ⟨q,0,none⟩)) S=some (bv b,S):=by
 rw [aa9 h,vX,vX,vX,vX,abE,if_neg hk]
theorem jy.v {b:xJ} (hb:b.Ok) (S:zn):zW Try.prog O jy.id [bv b] S=some (.bool (jU b),S):=by
 obtain ⟨T,hTe⟩:∃ T,T=(bv b::zh::zh::zh::zh::zh::zh::zh::zh::zh::zh::zh::zh::zh::zh::zh::zh::zh::zh::zh::zh::zh::zh::zh::zh::zh::zh::zh::zh::zh::zh::zh::zh::zh::zh::zh::zh::zh::zh::zh::zh::zh::zh::zh::zh::zh::[]):=⟨_,rfl⟩
 have hr:zG Try.prog O false jy.code T zn.empty=zG Try.prog O false jy.code T zn.empty:=rfl
 have l0:=aav (qc b)
 have l1:=Vp (qc b)
 have l2:=Vm (qc b)
 have l3:=abg (qc b)
 have l4:=aaQ (qc b) hb.ne
 have c1:=fun S=>jY.v hb.okl hb.ne (by have:=hb.len;omega) S
 unfold ahx at c1
 cases h1:btw b.slot 1 4095
 ·
  have e:jU b=false:=by simp [jU,headB,h1]
  rw [e]
  conv at hr =>
   rhs
   rw [hTe]
   simp only [jy.code,jy.rs,zSs,reduceIte,Nat.reduceEqDiff,Int.reduceEq,Int.reduceLT,Int.reduceLE,JI,jR,jM,jQ,jS,jT,l0,l1,l2,l3,l4,if_neg hb.ne,jV.v,h1]
  rw [hTe] at hr
  exact jy.runs hr (.inr rfl) (all1 (yI hb.okl.le)) rfl
 ·
  cases h2:btw b.miner 0 6
  ·
   have e:jU b=false:=by simp [jU,headB,h1,h2]
   rw [e]
   conv at hr =>
    rhs
    rw [hTe]
    simp only [jy.code,jy.rs,zSs,reduceIte,Nat.reduceEqDiff,Int.reduceEq,Int.reduceLT,Int.reduceLE,JI,jR,jM,jQ,jS,jT,l0,l1,l2,l3,l4,if_neg hb.ne,jV.v,h1,h2]
   rw [hTe] at hr
   exact jy.runs hr (.inr rfl) (all1 (yI hb.okl.le)) rfl
  ·
   cases h3:btw b.variant 0 255
   ·
    have e:jU b=false:=by simp [jU,headB,h1,h2,h3]
    rw [e]
    conv at hr =>
     rhs
     rw [hTe]
     simp only [jy.code,jy.rs,zSs,reduceIte,Nat.reduceEqDiff,Int.reduceEq,Int.reduceLT,Int.reduceLE,JI,jR,jM,jQ,jS,jT,l0,l1,l2,l3,l4,if_neg hb.ne,jV.v,h1,h2,h3]
    rw [hTe] at hr
    exact jy.runs hr (.inr rfl) (all1 (yI hb.okl.le)) rfl
   ·
    by_cases h4:b.parent=0
    ·
     by_cases h7:Zx b.txs=true
     ·
      rw [if_pos h7] at c1
      have e:jU b=true:=by simp [jU,headB,h1,h2,h3,h4,h7]
      rw [e]
      conv at hr =>
       rhs
       rw [hTe]
       simp only [jy.code,jy.rs,zSs,reduceIte,Nat.reduceEqDiff,Int.reduceEq,Int.reduceLT,Int.reduceLE,JI,jR,jM,jQ,jS,jT,l0,l1,l2,l3,l4,if_neg hb.ne,jV.v,h1,h2,h3,decide_eq_true h4,c1]
      rw [hTe] at hr
      exact jy.runs hr (.inr rfl) (all1 (yI hb.okl.le)) rfl
     ·
      rw [if_neg h7] at c1
      have e:jU b=false:=by simp [jU,h7]
      rw [e]
      conv at hr =>
       rhs
       rw [hTe]
       simp only [jy.code,jy.rs,zSs,reduceIte,Nat.reduceEqDiff,Int.reduceEq,Int.reduceLT,Int.reduceLE,JI,jR,jM,jQ,jS,jT,l0,l1,l2,l3,l4,if_neg hb.ne,jV.v,h1,h2,h3,decide_eq_true h4,c1]
      rw [hTe] at hr
      exact jy.runs hr (.inr rfl) (all1 (yI hb.okl.le)) rfl
    ·
     cases h5:xu b.parent
     ·
      have e:jU b=false:=by simp [jU,headB,h1,h2,h3,h4,h5]
      rw [e]
      conv at hr =>
       rhs
       rw [hTe]
       simp only [jy.code,jy.rs,zSs,reduceIte,Nat.reduceEqDiff,Int.reduceEq,Int.reduceLT,Int.reduceLE,JI,jR,jM,jQ,jS,jT,l0,l1,l2,l3,l4,if_neg hb.ne,jV.v,h1,h2,h3,decide_eq_false h4,wO.v,h5]
      rw [hTe] at hr
      exact jy.runs hr (.inr rfl) (all1 (yI hb.okl.le)) rfl
     ·
      have hn:=xY.mp h5
      have q1:IntKind.i64.wrap (b.parent.tdiv 65536)=b.parent / 65536:=by rw [YR (by omega),wrap_i64 (by omega) (by omega)]
      by_cases h6:b.parent / 65536 < b.slot
      ·
       have h6':¬ b.slot≤b.parent / 65536:=by omega
       by_cases h7:Zx b.txs=true
       ·
        rw [if_pos h7] at c1
        have e:jU b=true:=by simp [jU,headB,h1,h2,h3,h4,h5,h6,h7]
        rw [e]
        conv at hr =>
         rhs
         rw [hTe]
         simp only [jy.code,jy.rs,zSs,reduceIte,Nat.reduceEqDiff,Int.reduceEq,Int.reduceLT,Int.reduceLE,JI,jR,jM,jQ,jS,jT,l0,l1,l2,l3,l4,if_neg hb.ne,jV.v,h1,h2,h3,decide_eq_false h4,wO.v,h5,xK _ _ _ Qs,q1,decide_eq_false h6',c1]
        rw [hTe] at hr
        exact jy.runs hr (.inr rfl) (all1 (yI hb.okl.le)) rfl
       ·
        rw [if_neg h7] at c1
        have e:jU b=false:=by simp [jU,h7]
        rw [e]
        conv at hr =>
         rhs
         rw [hTe]
         simp only [jy.code,jy.rs,zSs,reduceIte,Nat.reduceEqDiff,Int.reduceEq,Int.reduceLT,Int.reduceLE,JI,jR,jM,jQ,jS,jT,l0,l1,l2,l3,l4,if_neg hb.ne,jV.v,h1,h2,h3,decide_eq_false h4,wO.v,h5,xK _ _ _ Qs,q1,decide_eq_false h6',c1]
        rw [hTe] at hr
        exact jy.runs hr (.inr rfl) (all1 (yI hb.okl.le)) rfl
      ·
       have h6':b.slot≤b.parent / 65536:=by omega
       have e:jU b=false:=by simp [jU,headB,h1,h2,h3,h4,h5,h6]
       rw [e]
       conv at hr =>
        rhs
        rw [hTe]
        simp only [jy.code,jy.rs,zSs,reduceIte,Nat.reduceEqDiff,Int.reduceEq,Int.reduceLT,Int.reduceLE,JI,jR,jM,jQ,jS,jT,l0,l1,l2,l3,l4,if_neg hb.ne,jV.v,h1,h2,h3,decide_eq_false h4,wO.v,h5,xK _ _ _ Qs,q1,decide_eq_true h6']
       rw [hTe] at hr
       exact jy.runs hr (.inr rfl) (all1 (yI hb.okl.le)) rfl
theorem zC.v {b:xJ} (hb:b.Ok) (S:zn):zW Try.prog O zC.id [bv b] S=some (.bool (jU b),S):=by
 obtain ⟨T,hTe⟩:∃ T,T=(bv b::zh::zh::zh::zh::zh::zh::zh::zh::zh::zh::zh::zh::zh::zh::zh::zh::zh::zh::zh::zh::zh::zh::zh::zh::zh::zh::zh::zh::zh::zh::zh::zh::zh::zh::zh::zh::zh::zh::zh::zh::zh::zh::zh::zh::zh::zh::zh::zh::zh::zh::zh::zh::zh::zh::zh::zh::zh::zh::zh::zh::zh::zh::[]):=⟨_,rfl⟩
 have hr:zG Try.prog O false zC.code T zn.empty=zG Try.prog O false zC.code T zn.empty:=rfl
 have l0:=aav (qc b)
 have l1:=Vp (qc b)
 have l2:=Vm (qc b)
 have l3:=abg (qc b)
 have l4:=aaQ (qc b) hb.ne
 have c1:=fun S=>zu.v hb.okl hb.ne (by have:=hb.len;omega) S
 unfold ahx at c1
 by_cases h1:b.slot < 1
 ·
  have e:jU b=false:=by
   cases h:jU b with
    | false=>rfl
    | true=>simp only [jU,Bool.and_eq_true,Z9] at h;omega
  rw [e]
  conv at hr =>
   rhs
   rw [hTe]
   simp only [zC.code,zC.rs,zSs,reduceIte,Nat.reduceEqDiff,Int.reduceEq,Int.reduceLT,Int.reduceLE,JI,jR,jM,jQ,jS,jT,l0,l1,l2,l3,l4,if_neg hb.ne,decide_eq_true h1]
  rw [hTe] at hr
  exact zC.runs hr (.inr rfl) (all1 (yI hb.okl.le)) rfl
 ·
  by_cases h2:4095 < b.slot
  ·
   have e:jU b=false:=by
    cases h:jU b with
     | false=>rfl
     | true=>simp only [jU,Bool.and_eq_true,Z9] at h;omega
   rw [e]
   conv at hr =>
    rhs
    rw [hTe]
    simp only [zC.code,zC.rs,zSs,reduceIte,Nat.reduceEqDiff,Int.reduceEq,Int.reduceLT,Int.reduceLE,JI,jR,jM,jQ,jS,jT,l0,l1,l2,l3,l4,if_neg hb.ne,decide_eq_false h1,decide_eq_true h2]
   rw [hTe] at hr
   exact zC.runs hr (.inr rfl) (all1 (yI hb.okl.le)) rfl
  ·
   by_cases h3:b.miner < 0
   ·
    have e:jU b=false:=by
     cases h:jU b with
      | false=>rfl
      | true=>simp only [jU,Bool.and_eq_true,Z9] at h;omega
    rw [e]
    conv at hr =>
     rhs
     rw [hTe]
     simp only [zC.code,zC.rs,zSs,reduceIte,Nat.reduceEqDiff,Int.reduceEq,Int.reduceLT,Int.reduceLE,JI,jR,jM,jQ,jS,jT,l0,l1,l2,l3,l4,if_neg hb.ne,decide_eq_false h1,decide_eq_false h2,decide_eq_true h3]
    rw [hTe] at hr
    exact zC.runs hr (.inr rfl) (all1 (yI hb.okl.le)) rfl
   ·
    by_cases h4:6 < b.miner
    ·
     have e:jU b=false:=by
      cases h:jU b with
       | false=>rfl
       | true=>simp only [jU,Bool.and_eq_true,Z9] at h;omega
     rw [e]
     conv at hr =>
      rhs
      rw [hTe]
      simp only [zC.code,zC.rs,zSs,reduceIte,Nat.reduceEqDiff,Int.reduceEq,Int.reduceLT,Int.reduceLE,JI,jR,jM,jQ,jS,jT,l0,l1,l2,l3,l4,if_neg hb.ne,decide_eq_false h1,decide_eq_false h2,decide_eq_false h3,decide_eq_true h4]
     rw [hTe] at hr
     exact zC.runs hr (.inr rfl) (all1 (yI hb.okl.le)) rfl
    ·
     by_cases h5:b.variant < 0
     ·
      have e:jU b=false:=by
       cases h:jU b with
        | false=>rfl
        | true=>simp only [jU,Bool.and_eq_true,Z9] at h;omega
      rw [e]
      conv at hr =>
       rhs
       rw [hTe]
       simp only [zC.code,zC.rs,zSs,reduceIte,Nat.reduceEqDiff,Int.reduceEq,Int.reduceLT,Int.reduceLE,JI,jR,jM,jQ,jS,jT,l0,l1,l2,l3,l4,if_neg hb.ne,decide_eq_false h1,decide_eq_false h2,decide_eq_false h3,decide_eq_false h4,decide_eq_true h5]
      rw [hTe] at hr
      exact zC.runs hr (.inr rfl) (all1 (yI hb.okl.le)) rfl
     ·
      by_cases h6:255 < b.variant
      ·
       have e:jU b=false:=by
        cases h:jU b with
         | false=>rfl
         | true=>simp only [jU,Bool.and_eq_true,Z9] at h;omega
       rw [e]
       conv at hr =>
        rhs
        rw [hTe]
        simp only [zC.code,zC.rs,zSs,reduceIte,Nat.reduceEqDiff,Int.reduceEq,Int.reduceLT,Int.reduceLE,JI,jR,jM,jQ,jS,jT,l0,l1,l2,l3,l4,if_neg hb.ne,decide_eq_false h1,decide_eq_false h2,decide_eq_false h3,decide_eq_false h4,decide_eq_false h5,decide_eq_true h6]
       rw [hTe] at hr
       exact zC.runs hr (.inr rfl) (all1 (yI hb.okl.le)) rfl
      ·
       by_cases h7:Zx b.txs=true
       ·
        rw [if_pos h7] at c1
        have hh:headB b=(decide (b.parent=0) || (xu b.parent && decide (b.parent / 65536 < b.slot))):=by
         have a1:=KI.mpr (show 1≤b.slot∧b.slot≤4095 by omega)
         have a2:=KI.mpr (show 0≤b.miner∧b.miner≤6 by omega)
         have a3:=KI.mpr (show 0≤b.variant∧b.variant≤255 by omega)
         simp [headB,a1,a2,a3]
        by_cases h8:b.parent=0
        ·
         have e:jU b=true:=by simp [jU,hh,h8,h7]
         rw [e]
         conv at hr =>
          rhs
          rw [hTe]
          simp only [zC.code,zC.rs,zSs,reduceIte,Nat.reduceEqDiff,Int.reduceEq,Int.reduceLT,Int.reduceLE,JI,jR,jM,jQ,jS,jT,l0,l1,l2,l3,l4,if_neg hb.ne,decide_eq_false h1,decide_eq_false h2,decide_eq_false h3,decide_eq_false h4,decide_eq_false h5,decide_eq_false h6,c1,decide_eq_true h8]
         rw [hTe] at hr
         exact zC.runs hr (.inr rfl) (all1 (yI hb.okl.le)) rfl
        ·
         have c2:=fun S=>jh.v b.parent hb.par S
         unfold abk at c2
         by_cases h9:b.parent < 0
         ·
          rw [if_pos h9] at c2
          have hn:xu b.parent=false:=by
           cases h:xu b.parent with
           | false=>rfl
           | true=>have:=xY.mp h;omega
          have e:jU b=false:=by simp [jU,hh,h8,hn]
          rw [e]
          conv at hr =>
           rhs
           rw [hTe]
           simp only [zC.code,zC.rs,zSs,reduceIte,Nat.reduceEqDiff,Int.reduceEq,Int.reduceLT,Int.reduceLE,JI,jR,jM,jQ,jS,jT,l0,l1,l2,l3,l4,if_neg hb.ne,decide_eq_false h1,decide_eq_false h2,decide_eq_false h3,decide_eq_false h4,decide_eq_false h5,decide_eq_false h6,c1,decide_eq_false h8,c2]
          rw [hTe] at hr
          exact zC.runs hr (.inr rfl) (all1 (yI hb.okl.le)) rfl
         ·
          rw [if_neg h9] at c2
          cases hn:xu b.parent
          ·
           rw [hn] at c2
           have e:jU b=false:=by simp [jU,hh,h8,hn]
           rw [e]
           conv at hr =>
            rhs
            rw [hTe]
            simp only [zC.code,zC.rs,zSs,reduceIte,Nat.reduceEqDiff,Int.reduceEq,Int.reduceLT,Int.reduceLE,JI,jR,jM,jQ,jS,jT,l0,l1,l2,l3,l4,if_neg hb.ne,decide_eq_false h1,decide_eq_false h2,decide_eq_false h3,decide_eq_false h4,decide_eq_false h5,decide_eq_false h6,c1,decide_eq_false h8,c2]
           rw [hTe] at hr
           exact zC.runs hr (.inr rfl) (all1 (yI hb.okl.le)) rfl
          ·
           rw [hn] at c2
           have e:jU b=decide (b.parent / 65536 < b.slot):=by simp [jU,hh,h8,hn,h7]
           rw [e]
           conv at hr =>
            rhs
            rw [hTe]
            simp only [zC.code,zC.rs,zSs,reduceIte,Nat.reduceEqDiff,Int.reduceEq,Int.reduceLT,Int.reduceLE,JI,jR,jM,jQ,jS,jT,l0,l1,l2,l3,l4,if_neg hb.ne,decide_eq_false h1,decide_eq_false h2,decide_eq_false h3,decide_eq_false h4,decide_eq_false h5,decide_eq_false h6,c1,decide_eq_false h8,c2]
           rw [hTe] at hr
           exact zC.runs hr (.inr rfl) (all1 (yI hb.okl.le)) rfl
       ·
        rw [if_neg h7] at c1
        have e:jU b=false:=by simp [jU,h7]
        rw [e]
        conv at hr =>
         rhs
         rw [hTe]
         simp only [zC.code,zC.rs,zSs,reduceIte,Nat.reduceEqDiff,Int.reduceEq,Int.reduceLT,Int.reduceLE,JI,jR,jM,jQ,jS,jT,l0,l1,l2,l3,l4,if_neg hb.ne,decide_eq_false h1,decide_eq_false h2,decide_eq_false h3,decide_eq_false h4,decide_eq_false h5,decide_eq_false h6,c1]
        rw [hTe] at hr
        exact zC.runs hr (.inr rfl) (all1 (yI hb.okl.le)) rfl
theorem wV.v {b:xJ} (hb:b.Ok) (S:zn):zW Try.prog O wV.id [bv b] S=some (.int .i64 (nameOf b),S):=by
 obtain ⟨T,hTe⟩:∃ T,T=(bv b::zh::zh::zh::zh::zh::zh::zh::zh::zh::zh::zh::zh::zh::zh::zh::[]):=⟨_,rfl⟩
 have hr:zG Try.prog O false wV.code T zn.empty=zG Try.prog O false wV.code T zn.empty:=rfl
 have l0:=aav (qc b)
 have l1:=Vp (qc b)
 have l2:=Vm (qc b)
 have lb:=Xg (qc b) hb.ne
 have c1:=fun S=>jy.v hb S
 unfold nameOf
 cases hR:jU b
 ·
  rw [hR] at c1
  conv at hr =>
   rhs
   rw [hTe]
   simp only [wV.code,wV.rs,zSs,reduceIte,Nat.reduceEqDiff,Int.reduceEq,Int.reduceLT,Int.reduceLE,JI,lb,c1]
  rw [hTe] at hr
  exact wV.runs hr (.inr rfl) (all1 (yI hb.okl.le)) rfl
 ·
  rw [hR] at c1
  have hh:=hR
  simp only [jU,Bool.and_eq_true,Z9] at hh
  obtain ⟨⟨h1,h2,h3,_⟩,_⟩:=hh
  have w1:IntKind.i64.wrap (b.slot * 65536)=b.slot * 65536:=wrap_i64 (by omega) (by omega)
  have w2:IntKind.i64.wrap (b.miner * 256)=b.miner * 256:=wrap_i64 (by omega) (by omega)
  have w3:IntKind.i64.wrap (b.slot * 65536+b.miner * 256)=b.slot * 65536+b.miner * 256:=wrap_i64 (by omega) (by omega)
  have w4:IntKind.i64.wrap (b.slot * 65536+b.miner * 256+b.variant)=b.slot * 65536+b.miner * 256+b.variant:=wrap_i64 (by omega) (by omega)
  conv at hr =>
   rhs
   rw [hTe]
   simp only [wV.code,wV.rs,zSs,reduceIte,Nat.reduceEqDiff,Int.reduceEq,Int.reduceLT,Int.reduceLE,JI,lb,c1,jR,jM,jQ,l0,l1,l2,w1,w2,w3,w4]
  rw [hTe] at hr
  exact wV.runs hr (.inr rfl) (all1 (yI hb.okl.le)) rfl
end Go.Proofs.Ytfjogganfjkckaa
namespace Go.Proofs.Ytfjogganfjkckaa
open Go.Abs
def ZW (a b:xJ):Bool:=decide (a.slot=b.slot) && (decide (a.miner=b.miner) && (decide (a.variant=b.variant) && (decide (a.parent=b.parent) && decide (a.txs=b.txs))))
abbrev aiV (a b:xJ):zn:=(akv a).push (.cells (fBk b) (.own []) 0)
theorem Xr (a b:xJ):JJ (bv b) (akv a)=some (.pointer (some ⟨1,0,none⟩),aiV a b):=by kernel_rfl
theorem Jf (a b:xJ):(aiV a b).get 0=some (.cells (fBk a) (.own []) 0):=by kernel_rfl
theorem Je (a b:xJ):(aiV a b).get 1=some (.cells (fBk b) (.own []) 0):=by kernel_rfl
theorem wQ.v {a b:xJ} (ha:a.Ok) (hb:b.Ok) (S:zn):zW Try.prog O wQ.id [bv a,bv b] S=some (.bool (ZW a b),S):=by
 obtain ⟨T,hTe⟩:∃ T,T=(bv a::bv b::zh::zh::zh::zh::zh::zh::zh::zh::zh::zh::zh::zh::zh::zh::zh::zh::zh::zh::zh::zh::zh::zh::zh::zh::zh::zh::zh::zh::zh::zh::zh::zh::zh::zh::zh::zh::[]):=⟨_,rfl⟩
 have hr:zG Try.prog O false wQ.code T zn.empty=zG Try.prog O false wQ.code T zn.empty:=rfl
 have l0:=aav (Jf a b)
 have m0:=aav (Je a b)
 have l1:=Vp (Jf a b)
 have m1:=Vp (Je a b)
 have l2:=Vm (Jf a b)
 have m2:=Vm (Je a b)
 have l3:=abg (Jf a b)
 have m3:=abg (Je a b)
 have l4:=aaQ (Jf a b) ha.ne
 have m4:=aaQ (Je a b) hb.ne
 have c1:=fun S=>slices_Equal.v ha.okl hb.okl ha.ne hb.ne (by have:=ha.len;omega) S
 have cc:[bv a,bv b].all (jP 16)=true:=all2 (yI ha.okl.le) (yI hb.okl.le)
 unfold ZW
 by_cases h1:a.slot=b.slot
 ·
  have e1:=decide_eq_true h1
  by_cases h2:a.miner=b.miner
  ·
   have e2:=decide_eq_true h2
   by_cases h3:a.variant=b.variant
   ·
    have e3:=decide_eq_true h3
    by_cases h4:a.parent=b.parent
    ·
     have e4:=decide_eq_true h4
     conv at hr =>
      rhs
      rw [hTe]
      simp only [wQ.code,wQ.rs,zSs,reduceIte,Nat.reduceEqDiff,Int.reduceEq,Int.reduceLT,Int.reduceLE,JI,Xr,jR,jM,jQ,jS,jT,l0,l1,l2,l3,l4,m0,m1,m2,m3,m4,if_neg ha.ne,if_neg hb.ne,e1,e2,e3,e4,c1]
     rw [hTe] at hr
     rw [e1,Bool.true_and,e2,Bool.true_and,e3,Bool.true_and,e4,Bool.true_and]
     exact wQ.runs hr (.inr rfl) cc rfl
    ·
     have e4:=decide_eq_false h4
     conv at hr =>
      rhs
      rw [hTe]
      simp only [wQ.code,wQ.rs,zSs,reduceIte,Nat.reduceEqDiff,Int.reduceEq,Int.reduceLT,Int.reduceLE,JI,Xr,jR,jM,jQ,jS,jT,l0,l1,l2,l3,l4,m0,m1,m2,m3,m4,if_neg ha.ne,if_neg hb.ne,e1,e2,e3,e4]
     rw [hTe] at hr
     rw [e1,Bool.true_and,e2,Bool.true_and,e3,Bool.true_and,e4,Bool.false_and]
     exact wQ.runs hr (.inr rfl) cc rfl
   ·
    have e3:=decide_eq_false h3
    conv at hr =>
     rhs
     rw [hTe]
     simp only [wQ.code,wQ.rs,zSs,reduceIte,Nat.reduceEqDiff,Int.reduceEq,Int.reduceLT,Int.reduceLE,JI,Xr,jR,jM,jQ,jS,jT,l0,l1,l2,l3,l4,m0,m1,m2,m3,m4,if_neg ha.ne,if_neg hb.ne,e1,e2,e3]
    rw [hTe] at hr
    rw [e1,Bool.true_and,e2,Bool.true_and,e3,Bool.false_and]
    exact wQ.runs hr (.inr rfl) cc rfl
  ·
   have e2:=decide_eq_false h2
   conv at hr =>
    rhs
    rw [hTe]
    simp only [wQ.code,wQ.rs,zSs,reduceIte,Nat.reduceEqDiff,Int.reduceEq,Int.reduceLT,Int.reduceLE,JI,Xr,jR,jM,jQ,jS,jT,l0,l1,l2,l3,l4,m0,m1,m2,m3,m4,if_neg ha.ne,if_neg hb.ne,e1,e2]
   rw [hTe] at hr
   rw [e1,Bool.true_and,e2,Bool.false_and]
   exact wQ.runs hr (.inr rfl) cc rfl
 ·
  have e1:=decide_eq_false h1
  conv at hr =>
   rhs
   rw [hTe]
   simp only [wQ.code,wQ.rs,zSs,reduceIte,Nat.reduceEqDiff,Int.reduceEq,Int.reduceLT,Int.reduceLE,JI,Xr,jR,jM,jQ,jS,jT,l0,l1,l2,l3,l4,m0,m1,m2,m3,m4,if_neg ha.ne,if_neg hb.ne,e1]
  rw [hTe] at hr
  rw [e1,Bool.false_and]
  exact wQ.runs hr (.inr rfl) cc rfl
theorem jA.v {a b:xJ} (ha:a.Ok) (hb:b.Ok) (S:zn):zW Try.prog O jA.id [bv a,bv b] S=some (.bool (ZW a b),S):=by
 obtain ⟨T,hTe⟩:∃ T,T=(bv a::bv b::zh::zh::zh::zh::zh::zh::zh::zh::zh::zh::zh::zh::zh::zh::zh::zh::zh::zh::zh::zh::zh::zh::zh::zh::zh::zh::zh::zh::zh::zh::zh::zh::zh::zh::zh::zh::[]):=⟨_,rfl⟩
 have hr:zG Try.prog O false jA.code T zn.empty=zG Try.prog O false jA.code T zn.empty:=rfl
 have l0:=aav (Jf a b)
 have m0:=aav (Je a b)
 have l1:=Vp (Jf a b)
 have m1:=Vp (Je a b)
 have l2:=Vm (Jf a b)
 have m2:=Vm (Je a b)
 have l3:=abg (Jf a b)
 have m3:=abg (Je a b)
 have l4:=aaQ (Jf a b) ha.ne
 have m4:=aaQ (Je a b) hb.ne
 have c1:=fun S=>zF.v ha.okl hb.okl ha.ne hb.ne (by have:=ha.len;omega) S
 have cc:[bv a,bv b].all (jP 16)=true:=all2 (yI ha.okl.le) (yI hb.okl.le)
 unfold ZW
 by_cases h1:a.slot=b.slot
 ·
  have e1:=decide_eq_true h1
  by_cases h2:a.miner=b.miner
  ·
   have e2:=decide_eq_true h2
   by_cases h3:a.variant=b.variant
   ·
    have e3:=decide_eq_true h3
    by_cases h4:a.parent=b.parent
    ·
     have e4:=decide_eq_true h4
     conv at hr =>
      rhs
      rw [hTe]
      simp only [jA.code,jA.rs,zSs,reduceIte,Nat.reduceEqDiff,Int.reduceEq,Int.reduceLT,Int.reduceLE,JI,Xr,jR,jM,jQ,jS,jT,l0,l1,l2,l3,l4,m0,m1,m2,m3,m4,if_neg ha.ne,if_neg hb.ne,e1,e2,e3,e4,c1]
     rw [hTe] at hr
     rw [e1,Bool.true_and,e2,Bool.true_and,e3,Bool.true_and,e4,Bool.true_and]
     exact jA.runs hr (.inr rfl) cc rfl
    ·
     have e4:=decide_eq_false h4
     conv at hr =>
      rhs
      rw [hTe]
      simp only [jA.code,jA.rs,zSs,reduceIte,Nat.reduceEqDiff,Int.reduceEq,Int.reduceLT,Int.reduceLE,JI,Xr,jR,jM,jQ,jS,jT,l0,l1,l2,l3,l4,m0,m1,m2,m3,m4,if_neg ha.ne,if_neg hb.ne,e1,e2,e3,e4]
     rw [hTe] at hr
     rw [e1,Bool.true_and,e2,Bool.true_and,e3,Bool.true_and,e4,Bool.false_and]
     exact jA.runs hr (.inr rfl) cc rfl
   ·
    have e3:=decide_eq_false h3
    conv at hr =>
     rhs
     rw [hTe]
     simp only [jA.code,jA.rs,zSs,reduceIte,Nat.reduceEqDiff,Int.reduceEq,Int.reduceLT,Int.reduceLE,JI,Xr,jR,jM,jQ,jS,jT,l0,l1,l2,l3,l4,m0,m1,m2,m3,m4,if_neg ha.ne,if_neg hb.ne,e1,e2,e3]
    rw [hTe] at hr
    rw [e1,Bool.true_and,e2,Bool.true_and,e3,Bool.false_and]
    exact jA.runs hr (.inr rfl) cc rfl
  ·
   have e2:=decide_eq_false h2
   conv at hr =>
    rhs
    rw [hTe]
    simp only [jA.code,jA.rs,zSs,reduceIte,Nat.reduceEqDiff,Int.reduceEq,Int.reduceLT,Int.reduceLE,JI,Xr,jR,jM,jQ,jS,jT,l0,l1,l2,l3,l4,m0,m1,m2,m3,m4,if_neg ha.ne,if_neg hb.ne,e1,e2]
   rw [hTe] at hr
   rw [e1,Bool.true_and,e2,Bool.false_and]
   exact jA.runs hr (.inr rfl) cc rfl
 ·
  have e1:=decide_eq_false h1
  conv at hr =>
   rhs
   rw [hTe]
   simp only [jA.code,jA.rs,zSs,reduceIte,Nat.reduceEqDiff,Int.reduceEq,Int.reduceLT,Int.reduceLE,JI,Xr,jR,jM,jQ,jS,jT,l0,l1,l2,l3,l4,m0,m1,m2,m3,m4,if_neg ha.ne,if_neg hb.ne,e1]
  rw [hTe] at hr
  rw [e1,Bool.false_and]
  exact jA.runs hr (.inr rfl) cc rfl
def Xd (b:xJ):List UInt8:=encs [b.slot,b.miner,b.variant,b.parent]++Vj b.txs
def aby (b:xJ):Value:=if jU b then .tuple #[by_ 2 (Xd b),.int .i64 0] else .tuple #[.slice none 0 0,.int .i64 71]
theorem WB {b:xJ} (h:headB b=true):∀ n ∈ [b.slot,b.miner,b.variant,b.parent],0≤n∧n≤268435455:=by
 obtain ⟨h1,h2,h3,h4⟩:=Z9.mp h
 have h5:0≤b.parent∧b.parent≤268435455:=by
  rcases h4 with h4 | ⟨h4,_⟩
  ·
   omega
  ·
   have:=xY.mp h4;omega
 intro n hn
 simp only [List.mem_cons,List.not_mem_nil,or_false] at hn
 rcases hn with rfl | rfl | rfl | rfl <;> omega
theorem bs4 (a b c d:Int) (S:zn):jH Try.prog 24 4 [(0,.int .i64 a),(1,.int .i64 b),(2,.int .i64 c),(3,.int .i64 d)] S=some (iz 2 [a,b,c,d],S):=by kernel_rfl
theorem QB {b:xJ} (h:headB b=true):(encs [b.slot,b.miner,b.variant,b.parent]).length≤40:=by
 have h1:=WB h
 have:=Z7 (l:=[b.slot,b.miner,b.variant,b.parent]) (fun n hn=>by have:=h1 n hn;omega)
 exact this
theorem wG.v {b:xJ} (hb:b.Ok) (S:zn):zW Try.prog O wG.id [bv b] S=some (aby b,S):=by
 obtain ⟨T,hTe⟩:∃ T,T=(bv b::zh::zh::zh::zh::zh::zh::zh::zh::zh::zh::zh::zh::zh::zh::zh::zh::zh::zh::zh::zh::zh::zh::zh::zh::zh::zh::zh::zh::zh::zh::zh::zh::[]):=⟨_,rfl⟩
 have hr:zG Try.prog O false wG.code T zn.empty=zG Try.prog O false wG.code T zn.empty:=rfl
 have l0:=aav (qc b)
 have l1:=Vp (qc b)
 have l2:=Vm (qc b)
 have l3:=abg (qc b)
 have l4:=aaQ (qc b) hb.ne
 have lb:=Xg (qc b) hb.ne
 have c1:=fun S=>jy.v hb S
 unfold aby
 cases hR:jU b
 ·
  rw [hR] at c1
  conv at hr =>
   rhs
   rw [hTe]
   simp only [wG.code,wG.rs,zSs,reduceIte,Nat.reduceEqDiff,Int.reduceEq,Int.reduceLT,Int.reduceLE,JI,lb,c1]
  rw [hTe] at hr
  exact wG.runs hr (.inr rfl) rfl rfl (all1 (yI hb.okl.le)) rfl
 ·
  rw [hR] at c1
  have hh:headB b=true∧Zx b.txs=true:=by simpa [jU] using hR
  have few:=WB hh.1
  have c2:=fun S=>jB.v (l:=[b.slot,b.miner,b.variant,b.parent]) Okl.read (by decide) (fun n hn=>by have:=few n hn;omega) S
  have n2:=JE (k:=0) (l:=[b.slot,b.miner,b.variant,b.parent]) (by simp) (fun n hn=>by have:=few n hn;omega) (by simp)
  have c3:=fun S=>jY.v hb.okl hb.ne (by have:=hb.len;omega) S
  have t3:ahx b.txs=.tuple #[by_ 2 (Vj b.txs),.int .i64 0]:=if_pos hh.2
  have ap:∀ S,wP Try.prog 33 33 (by_ 2 (encs [b.slot,b.miner,b.variant,b.parent])) (by_ 1 (Vj b.txs)) S=some (by_ 2 (Xd b),S):=fun S=>by
   rw [kX Okl.own (by decide) Okl.read (by have:=QB hh.1;have:=Qx hh.2;omega)];rfl
  conv at hr =>
   rhs
   rw [hTe]
   simp only [wG.code,wG.rs,zSs,reduceIte,Nat.reduceEqDiff,Int.reduceEq,Int.reduceLT,Int.reduceLE,JI,lb,c1,jR,jM,jQ,jS,jT,l0,l1,l2,l3,l4,if_neg hb.ne,bs4,c2,n2,c3,t3,ap]
  rw [hTe] at hr
  exact wG.runs hr (.inr rfl) (by simp only [List.getD_cons_succ,List.getD_cons_zero,wC,jW,jK,jO,jX]) rfl (all1 (yI hb.okl.le)) (yO (all2 (qx (k:=2) (Nat.le_refl 2)) rfl))
theorem jm.v {b:xJ} (hb:b.Ok) (S:zn):zW Try.prog O jm.id [bv b] S=some (aby b,S):=by
 obtain ⟨T,hTe⟩:∃ T,T=(bv b::zh::zh::zh::zh::zh::zh::zh::zh::zh::zh::zh::zh::zh::zh::zh::zh::zh::zh::zh::zh::zh::zh::zh::zh::zh::zh::zh::zh::zh::zh::zh::zh::[]):=⟨_,rfl⟩
 have hr:zG Try.prog O false jm.code T zn.empty=zG Try.prog O false jm.code T zn.empty:=rfl
 have l0:=aav (qc b)
 have l1:=Vp (qc b)
 have l2:=Vm (qc b)
 have l3:=abg (qc b)
 have l4:=aaQ (qc b) hb.ne
 have lb:=Xg (qc b) hb.ne
 have c1:=fun S=>zC.v hb S
 unfold aby
 cases hR:jU b
 ·
  rw [hR] at c1
  conv at hr =>
   rhs
   rw [hTe]
   simp only [jm.code,jm.rs,zSs,reduceIte,Nat.reduceEqDiff,Int.reduceEq,Int.reduceLT,Int.reduceLE,JI,lb,c1]
  rw [hTe] at hr
  exact jm.runs hr (.inr rfl) rfl rfl (all1 (yI hb.okl.le)) rfl
 ·
  rw [hR] at c1
  have hh:headB b=true∧Zx b.txs=true:=by simpa [jU] using hR
  have few:=WB hh.1
  have c2:=fun S=>zD.v (l:=[b.slot,b.miner,b.variant,b.parent]) Okl.read (by decide) (fun n hn=>by have:=few n hn;omega) S
  have n2:=JE (k:=2) (l:=[b.slot,b.miner,b.variant,b.parent]) (by simp) (fun n hn=>by have:=few n hn;omega) (by simp)
  have c3:=fun S=>zu.v hb.okl hb.ne (by have:=hb.len;omega) S
  have t3:ahx b.txs=.tuple #[by_ 2 (Vj b.txs),.int .i64 0]:=if_pos hh.2
  have ap:∀ S,wP Try.prog 33 33 (by_ 2 (encs [b.slot,b.miner,b.variant,b.parent])) (by_ 1 (Vj b.txs)) S=some (by_ 2 (Xd b),S):=fun S=>by
   rw [kX Okl.own (by decide) Okl.read (by have:=QB hh.1;have:=Qx hh.2;omega)];rfl
  conv at hr =>
   rhs
   rw [hTe]
   simp only [jm.code,jm.rs,zSs,reduceIte,Nat.reduceEqDiff,Int.reduceEq,Int.reduceLT,Int.reduceLE,JI,lb,c1,jR,jM,jQ,jS,jT,l0,l1,l2,l3,l4,if_neg hb.ne,bs4,c2,n2,c3,t3,ap]
  rw [hTe] at hr
  exact jm.runs hr (.inr rfl) (by simp only [List.getD_cons_succ,List.getD_cons_zero,wC,jW,jK,jO,jX]) rfl (all1 (yI hb.okl.le)) (yO (all2 (qx (k:=2) (Nat.le_refl 2)) rfl))
end Go.Proofs.Ytfjogganfjkckaa
namespace Go.Proofs.Ytfjogganfjkckaa
open Go.Abs
theorem JW {α:Type} {f:α→List Value} {e k:Nat} {l:List α} {d:Nat}:okq d (vs f e k l)=true:=by unfold vs sv;cases d <;> split <;> rfl
theorem XK {R:Type} {a b c d:Int} {k:Nat} {l:List TxV} (r:Option R) (p:vG r):okK (.agg [Value.int .i64 a,.int .i64 b,.int .i64 c,.int .i64 d,tl k l].toArray) r p=r:=kM (by
 show ([Value.int .i64 a,.int .i64 b,.int .i64 c,.int .i64 d,tl k l].toArray.toList.all (okq 2))=true
 simp only [List.toList_toArray,List.all_cons,List.all_nil,JW,Bool.and_true]
 rfl) r p
theorem adL (b:xJ):∃ k x e,Okl k x∧List.length x≤140∧aby b=.tuple #[by_ k x,.int .i64 e]∧((e=0∧jU b=true∧x=Xd b∧k=2)∨(e=71∧jU b=false∧x=[]∧k=0)):=by
 unfold aby
 by_cases h:jU b=true
 ·
  have hh:headB b=true∧Zx b.txs=true:=by simpa [jU] using h
  exact ⟨2,Xd b,0,Okl.own,by unfold Xd;rw [List.length_append];have:=QB hh.1;have:=Qx hh.2;omega,by rw [if_pos h],.inl ⟨rfl,h,rfl,rfl⟩⟩
 ·
  exact ⟨0,[],71,Okl.none,by simp,by rw [if_neg h];rfl,.inr ⟨rfl,by simpa using h,rfl,rfl⟩⟩
theorem akB (x:tBk.Val) (hg:tBk.Good x):∃ b:xJ,tBk.WO x=fBk b∧b.Ok:=by
 obtain ⟨s,m,v,p,ts,u⟩:=x
 obtain ⟨h1,h2,h3,h4,h5,_⟩:=hg
 obtain ⟨k,l,p1,p2,p3,p4,p5⟩:=aj2 ts h5
 refine ⟨⟨s,m,v,p,k,l⟩,?_,⟨p1,p2,p4,(Yw h4).2⟩⟩
 show [Value.int .i64 s]++([Value.int .i64 m]++([Value.int .i64 v]++([Value.int .i64 p]++((Ty.slc 16 tTx).WO ts++[]))))=_
 rw [p3];rfl
end Go.Proofs.Ytfjogganfjkckaa
namespace Go.Proofs.Ytfjogganfjkckaa
open Go.Abs
abbrev bk0:xJ:=⟨0,0,0,0,0,[]⟩
theorem Xi (S:zn):yG Try.prog 46 S=some (.pointer (some ⟨S.next,0,none⟩),S.push (.cells (fBk bk0) (.own []) 0)):=by kernel_rfl
theorem afX (b:xJ):(fBk b).all (·.oneCell')=true:=by
 simp only [fBk,List.all_cons,List.all_nil,ae3,ahV,Bool.and_true]
theorem akf (S:zn) (b:xJ):∃ S2,wM Try.prog 46 (.pointer (some ⟨S.next,0,none⟩)) (bv b) (S.push (.cells (fBk bk0) (.own []) 0))=some (zh,S2)∧S2.get S.next=some (.cells (fBk b) (.own []) 0)∧Ext S S2∧S.next < S2.next :=
 Kv S (by rw [qI,List.toList_toArray];rfl) ZP rfl (afX b)
theorem Xj {S S0:zn} {q:Nat} {u:xJ} (b:xJ) (hg:S.get q=some (.cells (fBk u) (.own []) 0)) (hE:Ext S0 S) (hq:S0.next≤q):∃ S2,wM Try.prog 46 (.pointer (some ⟨q,0,none⟩)) (bv b) S=some (zh,S2)∧S2.get q=some (.cells (fBk b) (.own []) 0)∧Ext S0 S2∧S2.next=S.next∧∀ k,k≠q→S2.get k=S.get k :=
 aaH hg ZP rfl (afX b) (by simp [fBk]) hE hq
theorem ac7 {x y:xJ} {r s:List UInt8} (hx:jU x=true) (hy:jU y=true) (h:Xd x++r=Xd y++s):(x.slot=y.slot∧x.miner=y.miner∧x.variant=y.variant∧x.parent=y.parent∧x.txs=y.txs)∧r=s:=by
 have h1:headB x=true∧Zx x.txs=true:=by simpa [jU] using hx
 have h2:headB y=true∧Zx y.txs=true:=by simpa [jU] using hy
 have f1:=WB h1.1
 have f2:=WB h2.1
 unfold Xd at h
 rw [List.append_assoc,List.append_assoc] at h
 obtain ⟨e1,e2⟩:=Wx (a:=[x.slot,x.miner,x.variant,x.parent]) (c:=[y.slot,y.miner,y.variant,y.parent]) rfl (fun n hn=>by have:=f1 n hn;unfold Few;omega) (fun n hn=>by have:=f2 n hn;unfold Few;omega) h
 obtain ⟨e3,e4⟩:=acL h1.2 h2.2 e2
 simp only [List.cons.injEq,and_true] at e1
 exact ⟨⟨e1.1,e1.2.1,e1.2.2.1,e1.2.2.2,e3⟩,e4⟩
noncomputable def agz (l:List UInt8):Option xJ:=rd (fun b=>jU b=true∧b.k=0) Xd l
theorem akF {x y:xJ} (h:x.slot=y.slot∧x.miner=y.miner∧x.variant=y.variant∧x.parent=y.parent∧x.txs=y.txs) (hk:x.k=y.k):x=y:=by
 cases x;cases y
 simp at h hk
 obtain ⟨rfl,rfl,rfl,rfl,rfl⟩:=h
 rw [hk]
theorem WJ (l:List UInt8) (b:xJ):agz l=some b ↔ (jU b=true∧b.k=0)∧l=Xd b :=
 afK (fun x y hx hy h=>akF (ac7 (r:=[]) (s:=[]) hx.1 hy.1 (by rw [List.append_nil,List.append_nil];exact h)).1 (hx.2.trans hy.2.symm)) l b
theorem QN {l:List UInt8} (h:∀ b:xJ,b.k=0→jU b=true→l≠Xd b):agz l=none:=by
 cases hr:agz l with
 | none=>rfl
 | some b=>obtain ⟨⟨h1,h2⟩,h3⟩:=(WJ l b).mp hr;exact absurd h3 (h b h2 h1)
theorem aeU (l:List UInt8):y8 4 l=none∨∃ a b c d r,y8 4 l=some ([a,b,c,d],r)∧r.length≤l.length:=by
 cases h:y8 4 l with
 | none=>exact .inl rfl
 | some ar =>
  obtain ⟨a,r⟩:=ar
  obtain ⟨h1,h2⟩:=Wp h
  match a,h1 with
  | [x,y,z,w],_=>exact .inr ⟨x,y,z,w,r,rfl,h2⟩
theorem ab7 {l r:List UInt8} {b:xJ} (hb:jU b=true) (h:l=Xd b++r):y8 4 l=some ([b.slot,b.miner,b.variant,b.parent],Vj b.txs++r):=by
 have h1:headB b=true∧Zx b.txs=true:=by simpa [jU] using hb
 have f1:=WB h1.1
 exact (yQ _ _ _ _).mpr ⟨rfl,by rw [h,Xd,List.append_assoc],fun n hn=>by have:=f1 n hn;unfold Few;omega⟩
theorem XG {l:List UInt8} (h:y8 4 l=none):agz l=none:=QN fun b _ hb hl=>by
 have:=ab7 (l:=l) (r:=[]) hb (by rw [List.append_nil];exact hl)
 rw [h] at this;cases this
theorem XO {l r:List UInt8} {a b c d:Int} (h:y8 4 l=some ([a,b,c,d],r)) (h2:Zc r=none):agz l=none:=QN fun x _ hb hl=>by
 have:=ab7 (l:=l) (r:=[]) hb (by rw [List.append_nil];exact hl)
 rw [h] at this
 simp only [Option.some.injEq,Prod.mk.injEq,List.append_nil] at this
 have h1:headB x=true∧Zx x.txs=true:=by simpa [jU] using hb
 rw [(xH r x.txs).mpr ⟨h1.2,this.2⟩] at h2
 cases h2
theorem Vr {l r:List UInt8} {a b c d:Int} {ts:List TxV} (h:y8 4 l=some ([a,b,c,d],r)) (h2:Zc r=some ts):agz l=if jU ⟨a,b,c,d,0,ts⟩=true then some ⟨a,b,c,d,0,ts⟩ else none:=by
 obtain ⟨_,g2,_⟩:=(yQ _ _ _ _).mp h
 obtain ⟨t1,t2⟩:=(xH r ts).mp h2
 split
 ·
  rename_i hR
  exact (WJ _ _).mpr ⟨⟨hR,rfl⟩,by rw [g2,t2];rfl⟩
 ·
  rename_i hR
  refine QN fun x _ hb hl=>hR ?_
  have:=ab7 (l:=l) (r:=[]) hb (by rw [List.append_nil];exact hl)
  rw [h] at this
  simp only [Option.some.injEq,Prod.mk.injEq,List.append_nil,List.cons.injEq,and_true] at this
  have h1:headB x=true∧Zx x.txs=true:=by simpa [jU] using hb
  have h3:=(xH r x.txs).mpr ⟨h1.2,this.2⟩
  rw [h2] at h3
  injection h3 with h3
  obtain ⟨⟨i1,i2,i3,i4⟩,_⟩:=this
  rw [i1,i2,i3,i4,h3]
  exact hb
theorem aak (a b c d:Int) (k j:Nat) (t:List TxV):jU ⟨a,b,c,d,k,t⟩=jU ⟨a,b,c,d,j,t⟩:=rfl
def af0 (l:List UInt8) (b:xJ) (e:Int):Prop:=b.Ok∧b.txs.length≤3∧((e=0∧agz l=some ⟨b.slot,b.miner,b.variant,b.parent,0,b.txs⟩∧jU b=true)∨(e=71∧agz l=none∧b=bk0))
theorem ok0:bk0.Ok:=⟨Okl.none,by decide,by simp,by decide⟩
theorem jJ.v {k:Nat} {l:List UInt8} (hk:Okl k l) (k2:k≠2) (hl:l.length≤140737488355328):∃ b e,af0 l b e∧∀ S,zW Try.prog O jJ.id [by_ k l] S=some (.tuple #[bv b,.int .i64 e],S):=by
 have a1:=Xi zn.empty
 have g1:(zn.empty.push (.cells (fBk bk0) (.own []) 0)).get 0=some (.cells (fBk bk0) (.own []) 0):=by kernel_rfl
 have n1:(zn.empty.push (.cells (fBk bk0) (.own []) 0)).next=1:=by kernel_rfl
 rw [show zn.empty.next=0 from rfl] at a1
 have hE1:Ext zn.empty (zn.empty.push (.cells (fBk bk0) (.own []) 0)):=Ext.push _ _
 have cl:[by_ k l].all (jP 16)=true:=all1 (qx (k:=k) hk.le)
 obtain ⟨T,hTe⟩:∃ T,T=(by_ k l::zh::zh::zh::zh::zh::zh::zh::zh::zh::zh::zh::zh::zh::zh::zh::zh::zh::zh::zh::zh::zh::zh::zh::zh::zh::zh::zh::zh::zh::zh::zh::zh::zh::zh::zh::zh::zh::zh::zh::zh::zh::zh::zh::zh::zh::[]):=⟨_,rfl⟩
 have hr:zG Try.prog O false jJ.code T zn.empty=zG Try.prog O false jJ.code T zn.empty:=rfl
 have c1:=fun S=>zL.v (many:=4) hk k2 hl S
 have r1:∀ k0 k1,vO k0 k1 4 l=_:=fun k0 k1=>xI (m:=4) (by decide) (by decide)
 rw [r1] at c1
 have z0:∀ S,yg Try.prog 46 [] S=some (bv bk0,S):=fun S=>Wj S
 generalize zn.empty.push (.cells (fBk bk0) (.own []) 0)=S1 at a1 g1 n1 hE1
 rcases aeU l with h | ⟨a,b,c,d,r,h,hlr⟩
 ·
  rw [h] at c1
  obtain ⟨S3,q1,q2,q3,q4,q5⟩:=Xj bk0 g1 hE1 (Nat.zero_le _)
  refine ⟨bk0,71,⟨ok0,by simp,.inr ⟨rfl,XG h,rfl⟩⟩,fun S=>?_⟩
  conv at hr =>
   rhs
   rw [hTe]
   simp only [jJ.code,jJ.rs,zSs,reduceIte,Nat.reduceEqDiff,Int.reduceEq,Int.reduceLT,Int.reduceLE,if_neg k2,a1,c1,z0,q1]
  rw [hTe] at hr
  exact jJ.runs hr (.inr rfl) (Xg q2 (by decide)) rfl rfl cl rfl
 ·
  rw [h] at c1
  have i0:=fun S=>xQ (k:=1) (i:=0) (m:=0) (l:=[a,b,c,d]) Okl.read rfl rfl S
  have i1:=fun S=>xQ (k:=1) (i:=1) (m:=1) (l:=[a,b,c,d]) Okl.read rfl rfl S
  have i2:=fun S=>xQ (k:=1) (i:=2) (m:=2) (l:=[a,b,c,d]) Okl.read rfl rfl S
  have i3:=fun S=>xQ (k:=1) (i:=3) (m:=3) (l:=[a,b,c,d]) Okl.read rfl rfl S
  have few:=((yQ _ _ _ _).mp h).2.2
  have fd:d≤4611686018427387904:=(few d (by simp)).2
  obtain ⟨j,t,e,o1,o2,o3,o4⟩:=Q8 (j:=0) (by decide) r
  have c2:=fun S=>zQ.v (k:=1) (l:=r) Okl.read (by decide) (by omega) S
  rw [o3] at c2
  have hok:xJ.Ok ⟨a,b,c,d,if j=2 then 1 else j,t⟩:=⟨o1.dem,J5 j,by show t.length * 16≤_;omega,by show d < _;omega⟩
  obtain ⟨S2,p1,p2,p3,p4⟩:=akf S1 ⟨a,b,c,d,if j=2 then 1 else j,t⟩
  have g2:S2.get 0=some (.cells (fBk bk0) (.own []) 0):=by rw [p3.get 0 (by omega),g1]
  have bd:=fun S=>Ze (y0:=.int .i64 a) (y1:=.int .i64 b) (y2:=.int .i64 c) (y3:=.int .i64 d) (y4:=tl (if j=2 then 1 else j) t) yL yL yL yL YG S
  have c3:∀ S,zW Try.prog O 45 [.agg [Value.int .i64 a,.int .i64 b,.int .i64 c,.int .i64 d,tl (if j=2 then 1 else j) t].toArray] S=some (.bool (jU ⟨a,b,c,d,if j=2 then 1 else j,t⟩),S):=fun S=>jy.v hok S
  have lb:jf Try.prog false 46 (.pointer (some ⟨S1.next,0,none⟩)) S2=some (.agg [Value.int .i64 a,.int .i64 b,.int .i64 c,.int .i64 d,tl (if j=2 then 1 else j) t].toArray,S2):=Xg p2 (J5 j)
  rcases o4 with ⟨rfl,hx⟩ | ⟨rfl,hx,rfl⟩
  ·
   cases hR:jU ⟨a,b,c,d,if j=2 then 1 else j,t⟩
   ·
    rw [hR] at c3
    obtain ⟨S3,q1,q2,q3,q4,q5⟩:=Xj bk0 g2 (Ext.trans hE1 p3) (Nat.zero_le _)
    refine ⟨bk0,71,⟨ok0,by simp,.inr ⟨rfl,?_,rfl⟩⟩,fun S=>?_⟩
    ·
     rw [Vr h hx,if_neg (by rw [aak a b c d 0 (if j=2 then 1 else j) t,hR];decide)]
    conv at hr =>
     rhs
     rw [hTe]
     simp only [jJ.code,jJ.rs,zSs,reduceIte,Nat.reduceEqDiff,Int.reduceEq,Int.reduceLT,Int.reduceLE,if_neg k2,a1,c1,c2,i0,i1,i2,i3,ql,ac3,bd,XK,Xi,p1,lb,c3,z0,q1]
    rw [hTe] at hr
    exact jJ.runs hr (.inr rfl) (Xg q2 (by decide)) rfl rfl cl rfl
   ·
    rw [hR] at c3
    obtain ⟨S3,q1,q2,q3,q4,q5⟩:=Xj ⟨a,b,c,d,if j=2 then 1 else j,t⟩ g2 (Ext.trans hE1 p3) (Nat.zero_le _)
    refine ⟨⟨a,b,c,d,if j=2 then 1 else j,t⟩,0,⟨hok,o2,.inl ⟨rfl,?_,hR⟩⟩,fun S=>?_⟩
    ·
     rw [Vr h hx,if_pos (by rw [aak a b c d 0 (if j=2 then 1 else j) t,hR])]
    conv at hr =>
     rhs
     rw [hTe]
     simp only [jJ.code,jJ.rs,zSs,reduceIte,Nat.reduceEqDiff,Int.reduceEq,Int.reduceLT,Int.reduceLE,if_neg k2,a1,c1,c2,i0,i1,i2,i3,ql,ac3,bd,XK,Xi,p1,lb,c3,q1]
    rw [hTe] at hr
    exact jJ.runs hr (.inr rfl) (Xg q2 (J5 j)) rfl rfl cl (yO (all2 (yI (b:=⟨a,b,c,d,if j=2 then 1 else j,t⟩) hok.okl.le) rfl))
  ·
   obtain ⟨S3,q1,q2,q3,q4,q5⟩:=Xj bk0 g2 (Ext.trans hE1 p3) (Nat.zero_le _)
   refine ⟨bk0,71,⟨ok0,by simp,.inr ⟨rfl,XO h hx,rfl⟩⟩,fun S=>?_⟩
   conv at hr =>
    rhs
    rw [hTe]
    simp only [jJ.code,jJ.rs,zSs,reduceIte,Nat.reduceEqDiff,Int.reduceEq,Int.reduceLT,Int.reduceLE,if_neg k2,a1,c1,c2,i0,i1,i2,i3,ql,ac3,bd,XK,Xi,p1,z0,q1]
   rw [hTe] at hr
   exact jJ.runs hr (.inr rfl) (Xg q2 (by decide)) rfl rfl cl rfl
theorem zN.v {k:Nat} {l:List UInt8} (hk:Okl k l) (k2:k≠2) (hl:l.length≤140737488355328):∃ b e,af0 l b e∧∀ S,zW Try.prog O zN.id [by_ k l] S=some (.tuple #[bv b,.int .i64 e],S):=by
 have a1:=Xi zn.empty
 have g1:(zn.empty.push (.cells (fBk bk0) (.own []) 0)).get 0=some (.cells (fBk bk0) (.own []) 0):=by kernel_rfl
 have n1:(zn.empty.push (.cells (fBk bk0) (.own []) 0)).next=1:=by kernel_rfl
 rw [show zn.empty.next=0 from rfl] at a1
 have hE1:Ext zn.empty (zn.empty.push (.cells (fBk bk0) (.own []) 0)):=Ext.push _ _
 have cl:[by_ k l].all (jP 16)=true:=all1 (qx (k:=k) hk.le)
 obtain ⟨T,hTe⟩:∃ T,T=(by_ k l::zh::zh::zh::zh::zh::zh::zh::zh::zh::zh::zh::zh::zh::zh::zh::zh::zh::zh::zh::zh::zh::zh::zh::zh::zh::zh::zh::zh::zh::zh::zh::zh::zh::zh::zh::zh::zh::zh::zh::zh::zh::zh::zh::zh::zh::zh::[]):=⟨_,rfl⟩
 have hr:zG Try.prog O false zN.code T zn.empty=zG Try.prog O false zN.code T zn.empty:=rfl
 have c1:=fun S=>zx.v (many:=4) hk k2 hl S
 have r1:∀ k0 k1,vO k0 k1 4 l=_:=fun k0 k1=>xI (m:=4) (by decide) (by decide)
 rw [r1] at c1
 have z0:∀ S,yg Try.prog 46 [] S=some (bv bk0,S):=fun S=>Wj S
 generalize zn.empty.push (.cells (fBk bk0) (.own []) 0)=S1 at a1 g1 n1 hE1
 rcases aeU l with h | ⟨a,b,c,d,r,h,hlr⟩
 ·
  rw [h] at c1
  obtain ⟨S3,q1,q2,q3,q4,q5⟩:=Xj bk0 g1 hE1 (Nat.zero_le _)
  refine ⟨bk0,71,⟨ok0,by simp,.inr ⟨rfl,XG h,rfl⟩⟩,fun S=>?_⟩
  conv at hr =>
   rhs
   rw [hTe]
   simp only [zN.code,zN.rs,zSs,reduceIte,Nat.reduceEqDiff,Int.reduceEq,Int.reduceLT,Int.reduceLE,if_neg k2,a1,c1,z0,q1]
  rw [hTe] at hr
  exact zN.runs hr (.inr rfl) (Xg q2 (by decide)) rfl rfl cl rfl
 ·
  rw [h] at c1
  have i0:=fun S=>xQ (k:=1) (i:=0) (m:=0) (l:=[a,b,c,d]) Okl.read rfl rfl S
  have i1:=fun S=>xQ (k:=1) (i:=1) (m:=1) (l:=[a,b,c,d]) Okl.read rfl rfl S
  have i2:=fun S=>xQ (k:=1) (i:=2) (m:=2) (l:=[a,b,c,d]) Okl.read rfl rfl S
  have i3:=fun S=>xQ (k:=1) (i:=3) (m:=3) (l:=[a,b,c,d]) Okl.read rfl rfl S
  have few:=((yQ _ _ _ _).mp h).2.2
  have fd:d≤4611686018427387904:=(few d (by simp)).2
  obtain ⟨j,t,e,o1,o2,o3,o4⟩:=Q8 (j:=2) (by decide) r
  have c2:=fun S=>zo.v (k:=1) (l:=r) Okl.read (by decide) (by omega) S
  rw [o3] at c2
  have hok:xJ.Ok ⟨a,b,c,d,if j=2 then 1 else j,t⟩:=⟨o1.dem,J5 j,by show t.length * 16≤_;omega,by show d < _;omega⟩
  obtain ⟨S2,p1,p2,p3,p4⟩:=akf S1 ⟨a,b,c,d,if j=2 then 1 else j,t⟩
  have g2:S2.get 0=some (.cells (fBk bk0) (.own []) 0):=by rw [p3.get 0 (by omega),g1]
  have bd:=fun S=>Ze (y0:=.int .i64 a) (y1:=.int .i64 b) (y2:=.int .i64 c) (y3:=.int .i64 d) (y4:=tl (if j=2 then 1 else j) t) yL yL yL yL YG S
  have c3:∀ S,zW Try.prog O 32 [.agg [Value.int .i64 a,.int .i64 b,.int .i64 c,.int .i64 d,tl (if j=2 then 1 else j) t].toArray] S=some (.bool (jU ⟨a,b,c,d,if j=2 then 1 else j,t⟩),S):=fun S=>zC.v hok S
  have lb:jf Try.prog false 46 (.pointer (some ⟨S1.next,0,none⟩)) S2=some (.agg [Value.int .i64 a,.int .i64 b,.int .i64 c,.int .i64 d,tl (if j=2 then 1 else j) t].toArray,S2):=Xg p2 (J5 j)
  rcases o4 with ⟨rfl,hx⟩ | ⟨rfl,hx,rfl⟩
  ·
   cases hR:jU ⟨a,b,c,d,if j=2 then 1 else j,t⟩
   ·
    rw [hR] at c3
    obtain ⟨S3,q1,q2,q3,q4,q5⟩:=Xj bk0 g2 (Ext.trans hE1 p3) (Nat.zero_le _)
    refine ⟨bk0,71,⟨ok0,by simp,.inr ⟨rfl,?_,rfl⟩⟩,fun S=>?_⟩
    ·
     rw [Vr h hx,if_neg (by rw [aak a b c d 0 (if j=2 then 1 else j) t,hR];decide)]
    conv at hr =>
     rhs
     rw [hTe]
     simp only [zN.code,zN.rs,zSs,reduceIte,Nat.reduceEqDiff,Int.reduceEq,Int.reduceLT,Int.reduceLE,if_neg k2,a1,c1,c2,i0,i1,i2,i3,ql,ac3,bd,XK,Xi,p1,lb,c3,z0,q1]
    rw [hTe] at hr
    exact zN.runs hr (.inr rfl) (Xg q2 (by decide)) rfl rfl cl rfl
   ·
    rw [hR] at c3
    obtain ⟨S3,q1,q2,q3,q4,q5⟩:=Xj ⟨a,b,c,d,if j=2 then 1 else j,t⟩ g2 (Ext.trans hE1 p3) (Nat.zero_le _)
    refine ⟨⟨a,b,c,d,if j=2 then 1 else j,t⟩,0,⟨hok,o2,.inl ⟨rfl,?_,hR⟩⟩,fun S=>?_⟩
    ·
     rw [Vr h hx,if_pos (by rw [aak a b c d 0 (if j=2 then 1 else j) t,hR])]
    conv at hr =>
     rhs
     rw [hTe]
     simp only [zN.code,zN.rs,zSs,reduceIte,Nat.reduceEqDiff,Int.reduceEq,Int.reduceLT,Int.reduceLE,if_neg k2,a1,c1,c2,i0,i1,i2,i3,ql,ac3,bd,XK,Xi,p1,lb,c3,q1]
    rw [hTe] at hr
    exact zN.runs hr (.inr rfl) (Xg q2 (J5 j)) rfl rfl cl (yO (all2 (yI (b:=⟨a,b,c,d,if j=2 then 1 else j,t⟩) hok.okl.le) rfl))
  ·
   obtain ⟨S3,q1,q2,q3,q4,q5⟩:=Xj bk0 g2 (Ext.trans hE1 p3) (Nat.zero_le _)
   refine ⟨bk0,71,⟨ok0,by simp,.inr ⟨rfl,XO h hx,rfl⟩⟩,fun S=>?_⟩
   conv at hr =>
    rhs
    rw [hTe]
    simp only [zN.code,zN.rs,zSs,reduceIte,Nat.reduceEqDiff,Int.reduceEq,Int.reduceLT,Int.reduceLE,if_neg k2,a1,c1,c2,i0,i1,i2,i3,ql,ac3,bd,XK,Xi,p1,z0,q1]
   rw [hTe] at hr
   exact zN.runs hr (.inr rfl) (Xg q2 (by decide)) rfl rfl cl rfl
end Go.Proofs.Ytfjogganfjkckaa
namespace Go.Proofs.Ytfjogganfjkckaa
open Go.Abs
structure wU where
 kind:Int
 frm:Int
 index:Int
 view:Int
 value:Int
 prep:Int
 tx:TxV
 b:xJ
def fM (m:wU):List Value:=[.int .i64 m.kind,.int .i64 m.frm,.int .i64 m.index,.int .i64 m.view,.int .i64 m.value,.int .i64 m.prep,.int .i64 m.tx.id,.int .i64 m.tx.fee,.int .i64 m.b.slot,.int .i64 m.b.miner,.int .i64 m.b.variant,.int .i64 m.b.parent,tl m.b.k m.b.txs]
abbrev mv (m:wU):Value:=.agg [Value.int .i64 m.kind,.int .i64 m.frm,.int .i64 m.index,.int .i64 m.view,.int .i64 m.value,.int .i64 m.prep,.int .i64 m.tx.id,.int .i64 m.tx.fee,.int .i64 m.b.slot,.int .i64 m.b.miner,.int .i64 m.b.variant,.int .i64 m.b.parent,tl m.b.k m.b.txs].toArray
def Big (n:Int):Prop:=-9223372036854775808≤n∧n < 9223372036854775808
structure wU.Ok (m:wU):Prop where
 b:m.b.Ok
 tx:m.tx.Ok
 kind:Big m.kind
 frm:Big m.frm
 index:Big m.index
 view:Big m.view
 value:Big m.value
 prep:Big m.prep
abbrev m0:wU:=⟨0,0,0,0,0,0,⟨0,0⟩,bk0⟩
theorem mk_eq {x y:wU} (h1:x.kind=y.kind) (h2:x.frm=y.frm) (h3:x.index=y.index) (h4:x.view=y.view) (h5:x.value=y.value) (h6:x.prep=y.prep) (h7:x.tx=y.tx) (h8:x.b=y.b):x=y:=by
 cases x;cases y;simp_all
theorem yE {m:wU} {d:Nat} (h:m.b.k≤2):jP (d+6) (mv m)=true:=by
 have h1:jP (d+5) (tl m.b.k m.b.txs)=true:=Jc (d:=d+1) h fun _ _=>rfl
 refine aaC ?_
 simp only [List.all_cons,List.all_nil,h1,Bool.and_true]
 rfl
theorem ajZ (m:wU):(fM m).all (·.oneCell')=true:=by
 simp only [fM,List.all_cons,List.all_nil,ae3,ahV,Bool.and_true]
section
variable {S:zn} {q e:Nat} {m:wU} {own:Own}
theorem wK (h:S.get q=some (.cells (fM m) own e)):jf Try.prog false 3 (.pointer (some ⟨q,0+0,none⟩)) S=some (.int .i64 m.kind,S):=qL (t:=3) (o:=0+0) h ZY rfl
theorem yC (h:S.get q=some (.cells (fM m) own e)):jf Try.prog false 3 (.pointer (some ⟨q,0+1,none⟩)) S=some (.int .i64 m.frm,S):=qL (t:=3) (o:=0+1) h ZY rfl
theorem yH (h:S.get q=some (.cells (fM m) own e)):jf Try.prog false 3 (.pointer (some ⟨q,0+2,none⟩)) S=some (.int .i64 m.index,S):=qL (t:=3) (o:=0+2) h ZY rfl
theorem yP (h:S.get q=some (.cells (fM m) own e)):jf Try.prog false 3 (.pointer (some ⟨q,0+3,none⟩)) S=some (.int .i64 m.view,S):=qL (t:=3) (o:=0+3) h ZY rfl
theorem yj (h:S.get q=some (.cells (fM m) own e)):jf Try.prog false 3 (.pointer (some ⟨q,0+4,none⟩)) S=some (.int .i64 m.value,S):=qL (t:=3) (o:=0+4) h ZY rfl
theorem yV (h:S.get q=some (.cells (fM m) own e)):jf Try.prog false 3 (.pointer (some ⟨q,0+5,none⟩)) S=some (.int .i64 m.prep,S):=qL (t:=3) (o:=0+5) h ZY rfl
theorem yZ (h:S.get q=some (.cells (fM m) own e)):jf Try.prog false 43 (.pointer (some ⟨q,0+6,none⟩)) S=some (tv m.tx,S):=(Yt (o:=0+6) h aam ZF (by simp [fM])).trans (by simp [fM,vX])
theorem yU (h:S.get q=some (.cells (fM m) own e)) (hk:m.b.k≠2):jf Try.prog false 46 (.pointer (some ⟨q,0+8,none⟩)) S=some (bv m.b,S):=by
 rw [Yt (o:=0+8) h KL ZP (by simp [fM])]
 simp [fM,vX,abE,hk]
theorem kT (h:S.get q=some (.cells (fM m) own e)) (hk:m.b.k≠2):jf Try.prog false 48 (.pointer (some ⟨q,0,none⟩)) S=some (mv m,S):=by
 rw [ad9 h]
 simp only [vX,abE,if_neg hk]
end
abbrev Yk (m:wU):zn:=zn.empty.push (.cells (fM m) (.own []) 0)
theorem xZ (m:wU):JJ (mv m) zn.empty=some (.pointer (some ⟨0,0,none⟩),Yk m):=rfl
theorem kR (m:wU):(Yk m).get 0=some (.cells (fM m) (.own []) 0):=rfl
abbrev Y5 (a b:wU):zn:=(Yk a).push (.cells (fM b) (.own []) 0)
theorem aaG (a b:wU):JJ (mv b) (Yk a)=some (.pointer (some ⟨1,0,none⟩),Y5 a b):=by kernel_rfl
theorem abK (a b:wU):(Y5 a b).get 0=some (.cells (fM a) (.own []) 0):=by kernel_rfl
theorem aci (a b:wU):(Y5 a b).get 1=some (.cells (fM b) (.own []) 0):=by kernel_rfl
theorem Xe (S:zn):yG Try.prog 48 S=some (.pointer (some ⟨S.next,0,none⟩),S.push (.cells (fM m0) (.own []) 0)):=by kernel_rfl
def ZA (a b:wU):Bool:=decide (a.kind=b.kind) && (decide (a.frm=b.frm) && (decide (a.index=b.index) && (decide (a.view=b.view) && (decide (a.value=b.value) && (decide (a.prep=b.prep) && (decide (a.tx=b.tx) && ZW a.b b.b))))))
theorem wS.v {a b:wU} (ha:a.Ok) (hb:b.Ok) (S:zn):zW Try.prog O wS.id [mv a,mv b] S=some (.bool (ZA a b),S):=by
 obtain ⟨T,hTe⟩:∃ T,T=(mv a::mv b::zh::zh::zh::zh::zh::zh::zh::zh::zh::zh::zh::zh::zh::zh::zh::zh::zh::zh::zh::zh::zh::zh::zh::zh::zh::zh::zh::zh::zh::zh::zh::zh::zh::zh::zh::zh::zh::zh::zh::zh::zh::zh::zh::zh::zh::zh::zh::zh::zh::zh::zh::zh::zh::zh::zh::zh::zh::zh::zh::[]):=⟨_,rfl⟩
 have hr:zG Try.prog O false wS.code T zn.empty=zG Try.prog O false wS.code T zn.empty:=rfl
 have g0:=abK a b
 have g1:=aci a b
 have c1:=fun S=>wQ.v ha.b hb.b S
 have e1:=fun S=>(ahz a.tx b.tx S).1
 have hc:[mv a,mv b].all (jP 16)=true:=all2 (yE ha.b.okl.le) (yE hb.b.okl.le)
 unfold ZA
 by_cases h1:a.kind=b.kind
 ·
  by_cases h2:a.frm=b.frm
  ·
   by_cases h3:a.index=b.index
   ·
    by_cases h4:a.view=b.view
    ·
     by_cases h5:a.value=b.value
     ·
      by_cases h6:a.prep=b.prep
      ·
       by_cases h7:a.tx=b.tx
       ·
        rw [decide_eq_true h1,decide_eq_true h2,decide_eq_true h3,decide_eq_true h4,decide_eq_true h5,decide_eq_true h6,decide_eq_true h7]
        simp only [Bool.true_and]
        conv at hr =>
         rhs
         rw [hTe]
         simp only [wS.code,wS.rs,zSs,reduceIte,Nat.reduceEqDiff,Int.reduceEq,Int.reduceLT,Int.reduceLE,xZ,aaG,zJ,zV,jc,jd,zT,jg,je,zZ,wK g0,wK g1,yC g0,yC g1,yH g0,yH g1,yP g0,yP g1,yj g0,yj g1,yV g0,yV g1,yZ g0,yZ g1,yU g0 ha.b.ne,yU g1 hb.b.ne,decide_eq_true h1,decide_eq_true h2,decide_eq_true h3,decide_eq_true h4,decide_eq_true h5,decide_eq_true h6,decide_eq_true h7,e1,c1]
        rw [hTe] at hr
        exact wS.runs hr (.inr rfl) hc rfl
       ·
        rw [decide_eq_false h7]
        simp only [Bool.false_and,Bool.and_false]
        conv at hr =>
         rhs
         rw [hTe]
         simp only [wS.code,wS.rs,zSs,reduceIte,Nat.reduceEqDiff,Int.reduceEq,Int.reduceLT,Int.reduceLE,xZ,aaG,zJ,zV,jc,jd,zT,jg,je,wK g0,wK g1,yC g0,yC g1,yH g0,yH g1,yP g0,yP g1,yj g0,yj g1,yV g0,yV g1,yZ g0,yZ g1,decide_eq_true h1,decide_eq_true h2,decide_eq_true h3,decide_eq_true h4,decide_eq_true h5,decide_eq_true h6,decide_eq_false h7,e1]
        rw [hTe] at hr
        exact wS.runs hr (.inr rfl) hc rfl
      ·
       rw [decide_eq_false h6]
       simp only [Bool.false_and,Bool.and_false]
       conv at hr =>
        rhs
        rw [hTe]
        simp only [wS.code,wS.rs,zSs,reduceIte,Nat.reduceEqDiff,Int.reduceEq,Int.reduceLT,Int.reduceLE,xZ,aaG,zJ,zV,jc,jd,zT,jg,wK g0,wK g1,yC g0,yC g1,yH g0,yH g1,yP g0,yP g1,yj g0,yj g1,yV g0,yV g1,decide_eq_true h1,decide_eq_true h2,decide_eq_true h3,decide_eq_true h4,decide_eq_true h5,decide_eq_false h6]
       rw [hTe] at hr
       exact wS.runs hr (.inr rfl) hc rfl
     ·
      rw [decide_eq_false h5]
      simp only [Bool.false_and,Bool.and_false]
      conv at hr =>
       rhs
       rw [hTe]
       simp only [wS.code,wS.rs,zSs,reduceIte,Nat.reduceEqDiff,Int.reduceEq,Int.reduceLT,Int.reduceLE,xZ,aaG,zJ,zV,jc,jd,zT,wK g0,wK g1,yC g0,yC g1,yH g0,yH g1,yP g0,yP g1,yj g0,yj g1,decide_eq_true h1,decide_eq_true h2,decide_eq_true h3,decide_eq_true h4,decide_eq_false h5]
      rw [hTe] at hr
      exact wS.runs hr (.inr rfl) hc rfl
    ·
     rw [decide_eq_false h4]
     simp only [Bool.false_and,Bool.and_false]
     conv at hr =>
      rhs
      rw [hTe]
      simp only [wS.code,wS.rs,zSs,reduceIte,Nat.reduceEqDiff,Int.reduceEq,Int.reduceLT,Int.reduceLE,xZ,aaG,zJ,zV,jc,jd,wK g0,wK g1,yC g0,yC g1,yH g0,yH g1,yP g0,yP g1,decide_eq_true h1,decide_eq_true h2,decide_eq_true h3,decide_eq_false h4]
     rw [hTe] at hr
     exact wS.runs hr (.inr rfl) hc rfl
   ·
    rw [decide_eq_false h3]
    simp only [Bool.false_and,Bool.and_false]
    conv at hr =>
     rhs
     rw [hTe]
     simp only [wS.code,wS.rs,zSs,reduceIte,Nat.reduceEqDiff,Int.reduceEq,Int.reduceLT,Int.reduceLE,xZ,aaG,zJ,zV,jc,wK g0,wK g1,yC g0,yC g1,yH g0,yH g1,decide_eq_true h1,decide_eq_true h2,decide_eq_false h3]
    rw [hTe] at hr
    exact wS.runs hr (.inr rfl) hc rfl
  ·
   rw [decide_eq_false h2]
   simp only [Bool.false_and,Bool.and_false]
   conv at hr =>
    rhs
    rw [hTe]
    simp only [wS.code,wS.rs,zSs,reduceIte,Nat.reduceEqDiff,Int.reduceEq,Int.reduceLT,Int.reduceLE,xZ,aaG,zJ,zV,wK g0,wK g1,yC g0,yC g1,decide_eq_true h1,decide_eq_false h2]
   rw [hTe] at hr
   exact wS.runs hr (.inr rfl) hc rfl
 ·
  rw [decide_eq_false h1]
  simp only [Bool.false_and]
  conv at hr =>
   rhs
   rw [hTe]
   simp only [wS.code,wS.rs,zSs,reduceIte,Nat.reduceEqDiff,Int.reduceEq,Int.reduceLT,Int.reduceLE,xZ,aaG,zJ,wK g0,wK g1,decide_eq_false h1]
  rw [hTe] at hr
  exact wS.runs hr (.inr rfl) hc rfl
end Go.Proofs.Ytfjogganfjkckaa
namespace Go.Proofs.Ytfjogganfjkckaa
open Go.Abs
def YP (m:wU):Bool:=decide (m.kind=4) || decide (m.kind=5)
def qY (m:wU):Bool:=decide (m.value=0) || decide (0 < Yo m.value) || (YP m && decide (m.value=-1))
theorem wz.v {m:wU} (hm:m.Ok) (S:zn):zW Try.prog O wz.id [mv m] S=some (.bool (qY m),S):=by
 obtain ⟨T,hTe⟩:∃ T,T=(mv m::zh::zh::zh::zh::zh::zh::zh::zh::zh::zh::zh::zh::zh::zh::zh::zh::zh::zh::zh::zh::zh::zh::zh::zh::zh::zh::zh::zh::[]):=⟨_,rfl⟩
 have hr:zG Try.prog O false wz.code T zn.empty=zG Try.prog O false wz.code T zn.empty:=rfl
 have g0:=kR m
 have c1:=fun S=>wX.v m.value S
 have hc:[mv m].all (jP 16)=true:=all1 (yE hm.b.okl.le)
 by_cases k4:m.kind=4
 ·
  have hvote:YP m=true:=by simp [YP,k4]
  by_cases v0:m.value=0
  ·
   rw [show qY m=true from by simp [qY,v0]]
   conv at hr =>
    rhs
    rw [hTe]
    simp only [wz.code,wz.rs,zSs,reduceIte,Nat.reduceEqDiff,Int.reduceEq,Int.reduceLT,Int.reduceLE,xZ,zJ,zT,wK g0,yj g0,decide_eq_true k4,decide_eq_true v0]
   rw [hTe] at hr
   exact wz.runs hr (.inr rfl) hc rfl
  by_cases v1:0 < Yo m.value
  ·
   rw [show qY m=true from by simp [qY,v1]]
   conv at hr =>
    rhs
    rw [hTe]
    simp only [wz.code,wz.rs,zSs,reduceIte,Nat.reduceEqDiff,Int.reduceEq,Int.reduceLT,Int.reduceLE,xZ,zJ,zT,wK g0,yj g0,decide_eq_true k4,decide_eq_false v0,c1,decide_eq_true v1]
   rw [hTe] at hr
   exact wz.runs hr (.inr rfl) hc rfl
  by_cases v2:m.value=-1
  ·
   rw [show qY m=true from by simp [qY,v2,hvote]]
   conv at hr =>
    rhs
    rw [hTe]
    simp only [wz.code,wz.rs,zSs,reduceIte,Nat.reduceEqDiff,Int.reduceEq,Int.reduceLT,Int.reduceLE,xZ,zJ,zT,wK g0,yj g0,decide_eq_true k4,decide_eq_false v0,c1,decide_eq_false v1,decide_eq_true v2]
   rw [hTe] at hr
   exact wz.runs hr (.inr rfl) hc rfl
  rw [show qY m=false from by simp [qY,v0,v1,v2]]
  conv at hr =>
   rhs
   rw [hTe]
   simp only [wz.code,wz.rs,zSs,reduceIte,Nat.reduceEqDiff,Int.reduceEq,Int.reduceLT,Int.reduceLE,xZ,zJ,zT,wK g0,yj g0,decide_eq_true k4,decide_eq_false v0,c1,decide_eq_false v1,decide_eq_false v2]
  rw [hTe] at hr
  exact wz.runs hr (.inr rfl) hc rfl
 by_cases k5:m.kind=5
 ·
  have hvote:YP m=true:=by simp [YP,k5]
  by_cases v0:m.value=0
  ·
   rw [show qY m=true from by simp [qY,v0]]
   conv at hr =>
    rhs
    rw [hTe]
    simp only [wz.code,wz.rs,zSs,reduceIte,Nat.reduceEqDiff,Int.reduceEq,Int.reduceLT,Int.reduceLE,xZ,zJ,zT,wK g0,yj g0,decide_eq_false k4,decide_eq_true k5,decide_eq_true v0]
   rw [hTe] at hr
   exact wz.runs hr (.inr rfl) hc rfl
  by_cases v1:0 < Yo m.value
  ·
   rw [show qY m=true from by simp [qY,v1]]
   conv at hr =>
    rhs
    rw [hTe]
    simp only [wz.code,wz.rs,zSs,reduceIte,Nat.reduceEqDiff,Int.reduceEq,Int.reduceLT,Int.reduceLE,xZ,zJ,zT,wK g0,yj g0,decide_eq_false k4,decide_eq_true k5,decide_eq_false v0,c1,decide_eq_true v1]
   rw [hTe] at hr
   exact wz.runs hr (.inr rfl) hc rfl
  by_cases v2:m.value=-1
  ·
   rw [show qY m=true from by simp [qY,v2,hvote]]
   conv at hr =>
    rhs
    rw [hTe]
    simp only [wz.code,wz.rs,zSs,reduceIte,Nat.reduceEqDiff,Int.reduceEq,Int.reduceLT,Int.reduceLE,xZ,zJ,zT,wK g0,yj g0,decide_eq_false k4,decide_eq_true k5,decide_eq_false v0,c1,decide_eq_false v1,decide_eq_true v2]
   rw [hTe] at hr
   exact wz.runs hr (.inr rfl) hc rfl
  rw [show qY m=false from by simp [qY,v0,v1,v2]]
  conv at hr =>
   rhs
   rw [hTe]
   simp only [wz.code,wz.rs,zSs,reduceIte,Nat.reduceEqDiff,Int.reduceEq,Int.reduceLT,Int.reduceLE,xZ,zJ,zT,wK g0,yj g0,decide_eq_false k4,decide_eq_true k5,decide_eq_false v0,c1,decide_eq_false v1,decide_eq_false v2]
  rw [hTe] at hr
  exact wz.runs hr (.inr rfl) hc rfl
 have hvote:YP m=false:=by simp [YP,k4,k5]
 by_cases v0:m.value=0
 ·
  rw [show qY m=true from by simp [qY,v0]]
  conv at hr =>
   rhs
   rw [hTe]
   simp only [wz.code,wz.rs,zSs,reduceIte,Nat.reduceEqDiff,Int.reduceEq,Int.reduceLT,Int.reduceLE,xZ,zJ,zT,wK g0,yj g0,decide_eq_false k4,decide_eq_false k5,decide_eq_true v0]
  rw [hTe] at hr
  exact wz.runs hr (.inr rfl) hc rfl
 by_cases v1:0 < Yo m.value
 ·
  rw [show qY m=true from by simp [qY,v1]]
  conv at hr =>
   rhs
   rw [hTe]
   simp only [wz.code,wz.rs,zSs,reduceIte,Nat.reduceEqDiff,Int.reduceEq,Int.reduceLT,Int.reduceLE,xZ,zJ,zT,wK g0,yj g0,decide_eq_false k4,decide_eq_false k5,decide_eq_false v0,c1,decide_eq_true v1]
  rw [hTe] at hr
  exact wz.runs hr (.inr rfl) hc rfl
 rw [show qY m=false from by simp [qY,v0,v1,hvote]]
 conv at hr =>
  rhs
  rw [hTe]
  simp only [wz.code,wz.rs,zSs,reduceIte,Nat.reduceEqDiff,Int.reduceEq,Int.reduceLT,Int.reduceLE,xZ,zJ,zT,wK g0,yj g0,decide_eq_false k4,decide_eq_false k5,decide_eq_false v0,c1,decide_eq_false v1]
 rw [hTe] at hr
 exact wz.runs hr (.inr rfl) hc rfl
def yX (m:wU):wU :=
 if m.kind=0 then ⟨m.kind,m.frm,0,0,0,0,m.tx,bk0⟩
 else if m.kind=1 then ⟨m.kind,m.frm,0,0,0,0,⟨0,0⟩,m.b⟩
 else if m.kind=2 then ⟨m.kind,m.frm,0,0,m.value,0,⟨0,0⟩,bk0⟩
 else if m.kind=3 then ⟨m.kind,m.frm,m.index,m.view,m.value,m.prep,⟨0,0⟩,bk0⟩
 else if m.kind=4 then ⟨m.kind,m.frm,m.index,m.view,m.value,0,⟨0,0⟩,bk0⟩
 else if m.kind=5 then ⟨m.kind,m.frm,m.index,m.view,m.value,0,⟨0,0⟩,bk0⟩
 else ⟨m.kind,m.frm,m.index,0,m.value,0,⟨0,0⟩,bk0⟩
abbrev qX (S:zn) (q:Nat) (x:wU):zn:=(S.kills []).set q (.cells (fM x) (.own []) 0)
theorem wJ (S:zn) (q:Nat) (x:wU):(qX S q x).get q=some (.cells (fM x) (.own []) 0):=by rw [zn.qo,if_pos rfl]
theorem yx {S:zn} {q k:Nat} {x:wU} (h:k≠q):(qX S q x).get k=S.get k:=by rw [zn.qo,if_neg h];rfl
theorem Wy {S:zn} {q k o:Nat} {x y:wU} (h:S.get k=some (.cells (fM y) (.own []) 0)) (hk:k≠q):qK (.pointer (some ⟨k,o,none⟩)) S (qX S q x)=true:=by
 have hl:(qX S q x).log=q::S.log:=rfl
 simp only [qK,h,hl,List.length_cons,Nat.add_sub_cancel_left,List.take_succ_cons,List.take_zero]
 simp [hk]
section
variable {S:zn} {q:Nat} {x:wU}
theorem YW (h:S.get q=some (.cells (fM x) (.own []) 0)) (y:wU):wM Try.prog 48 (.pointer (some ⟨q,0,none⟩)) (mv y) S=some (zh,qX S q y):=by
 rw [Za (x:=mv y) (n:=13) h Xa (by rw [qI];rfl) (by rw [qI,List.toList_toArray];exact ajZ y) (by simp [fM]),qI,List.toList_toArray];rfl
theorem agB (h:S.get q=some (.cells (fM x) (.own []) 0)) (v:Int):wM Try.prog 3 (.pointer (some ⟨q,0+2,none⟩)) (.int .i64 v) S=some (zh,qX S q { x with index:=v }):=by
 rw [Za (n:=1) h adJ rfl rfl (by simp [fM])];rfl
theorem ajd (h:S.get q=some (.cells (fM x) (.own []) 0)) (v:Int):wM Try.prog 3 (.pointer (some ⟨q,0+3,none⟩)) (.int .i64 v) S=some (zh,qX S q { x with view:=v }):=by
 rw [Za (n:=1) h adJ rfl rfl (by simp [fM])];rfl
theorem af9 (h:S.get q=some (.cells (fM x) (.own []) 0)) (v:Int):wM Try.prog 3 (.pointer (some ⟨q,0+4,none⟩)) (.int .i64 v) S=some (zh,qX S q { x with value:=v }):=by
 rw [Za (n:=1) h adJ rfl rfl (by simp [fM])];rfl
theorem akJ (h:S.get q=some (.cells (fM x) (.own []) 0)) (v:Int):wM Try.prog 3 (.pointer (some ⟨q,0+5,none⟩)) (.int .i64 v) S=some (zh,qX S q { x with prep:=v }):=by
 rw [Za (n:=1) h adJ rfl rfl (by simp [fM])];rfl
theorem ajf (h:S.get q=some (.cells (fM x) (.own []) 0)) (t:TxV):wM Try.prog 43 (.pointer (some ⟨q,0+6,none⟩)) (tv t) S=some (zh,qX S q { x with tx:=t }):=by
 rw [Za (n:=2) h ZF rfl rfl (by simp [fM])];rfl
theorem aiZ (h:S.get q=some (.cells (fM x) (.own []) 0)) (b:xJ):wM Try.prog 46 (.pointer (some ⟨q,0+8,none⟩)) (bv b) S=some (zh,qX S q { x with b:=b }):=by
 rw [Za (x:=bv b) (n:=5) h ZP (by rw [qI];rfl) (by rw [qI,List.toList_toArray];exact afX b) (by simp [fM]),qI,List.toList_toArray];rfl
end
theorem jk.v0 {m:wU} (hm:m.Ok) (hk:m.kind=0) (S:zn):zW Try.prog O jk.id [mv m] S=some (mv (yX m),S):=by
 obtain ⟨T,hTe⟩:∃ T,T=(mv m::zh::zh::zh::zh::zh::zh::zh::zh::zh::zh::zh::zh::zh::zh::zh::zh::zh::zh::zh::zh::zh::zh::zh::zh::zh::zh::zh::zh::zh::zh::zh::zh::zh::zh::zh::zh::zh::zh::zh::zh::zh::zh::zh::zh::zh::[]):=⟨_,rfl⟩
 have hr:zG Try.prog O false jk.code T zn.empty=zG Try.prog O false jk.code T zn.empty:=rfl
 obtain ⟨A1,hA1⟩:∃ A,A=(Yk m).push (.cells (fM m0) (.own []) 0):=⟨_,rfl⟩
 have a1:yG Try.prog 48 (Yk m)=some (.pointer (some ⟨1,0,none⟩),A1):=by rw [hA1];exact Xe _
 have p0:A1.get 0=some (.cells (fM m) (.own []) 0):=by rw [hA1];kernel_rfl
 obtain ⟨A2,hA2⟩:∃ A,A=A1.push (.cells (fM m0) (.own []) 0):=⟨_,rfl⟩
 have a2:yG Try.prog 48 A1=some (.pointer (some ⟨2,0,none⟩),A2):=by rw [hA2,hA1];exact Xe _
 have q0:A2.get 0=some (.cells (fM m) (.own []) 0):=by rw [hA2,hA1];kernel_rfl
 have q1:A2.get 1=some (.cells (fM m0) (.own []) 0):=by rw [hA2,hA1];kernel_rfl
 have q2:A2.get 2=some (.cells (fM m0) (.own []) 0):=by rw [hA2,hA1];kernel_rfl
 have s0:wM Try.prog 48 (.pointer (some ⟨2,0,none⟩)) (.agg [Value.int .i64 m.kind,.int .i64 m.frm,.int .i64 0,.int .i64 0,.int .i64 0,.int .i64 0,.int .i64 0,.int .i64 0,.int .i64 0,.int .i64 0,.int .i64 0,.int .i64 0,.slice none 0 0].toArray) A2=some (zh,qX A2 2 (⟨m.kind,m.frm,0,0,0,0,⟨0,0⟩,bk0⟩:wU)):=YW q2 (⟨m.kind,m.frm,0,0,0,0,⟨0,0⟩,bk0⟩:wU)
 have b0:(qX A2 2 (⟨m.kind,m.frm,0,0,0,0,⟨0,0⟩,bk0⟩:wU)).get 0=some (.cells (fM m) (.own []) 0):=(yx (by decide)).trans q0
 have b1:(qX A2 2 (⟨m.kind,m.frm,0,0,0,0,⟨0,0⟩,bk0⟩:wU)).get 1=some (.cells (fM m0) (.own []) 0):=(yx (by decide)).trans q1
 have b2:=wJ A2 2 (⟨m.kind,m.frm,0,0,0,0,⟨0,0⟩,bk0⟩:wU)
 generalize hB0:qX A2 2 (⟨m.kind,m.frm,0,0,0,0,⟨0,0⟩,bk0⟩:wU)=B0 at s0 b0 b1 b2
 have s1:=ajf b2 m.tx
 have c1_0:(qX B0 2 (⟨m.kind,m.frm,0,0,0,0,m.tx,bk0⟩:wU)).get 0=some (.cells (fM m) (.own []) 0):=(yx (by decide)).trans b0
 have c1_1:(qX B0 2 (⟨m.kind,m.frm,0,0,0,0,m.tx,bk0⟩:wU)).get 1=some (.cells (fM m0) (.own []) 0):=(yx (by decide)).trans b1
 have c1_2:=wJ B0 2 (⟨m.kind,m.frm,0,0,0,0,m.tx,bk0⟩:wU)
 dsimp only at s1
 generalize hB1:qX B0 2 (⟨m.kind,m.frm,0,0,0,0,m.tx,bk0⟩:wU)=B1 at s1  c1_0 c1_1 c1_2
 have eb:(⟨m.kind,m.frm,0,0,0,0,m.tx,bk0⟩:wU)=yX m:=by simp [yX,hk]
 rw [eb] at c1_2
 have hbk:(yX m).b.k≠2:=by simp [yX,hk]
 have ld:=kT c1_2 hbk
 have sl:=YW c1_1 (yX m)
 have fin:=kT (wJ B1 1 (yX m)) hbk
 have hcb:(yX m).b.k≤2:=by simp [yX,hk]
 conv at hr =>
  rhs
  rw [hTe]
  simp only [jk.code,jk.rs,zSs,reduceIte,Nat.reduceEqDiff,Int.reduceEq,Int.reduceLT,Int.reduceLE,xZ,a1,a2,zJ,zV,wK p0,yC p0,kK (y0:=.int .i64 m.kind) (y1:=.int .i64 m.frm) rfl rfl,s0,wK b0,je,s1,yZ b0,decide_eq_true hk,ZN,ld,sl]
 rw [hTe] at hr
 exact jk.runs hr (.inr rfl) fin (all1 (yE hm.b.okl.le)) (yE hcb)
theorem jk.v1 {m:wU} (hm:m.Ok) (hk:m.kind=1) (S:zn):zW Try.prog O jk.id [mv m] S=some (mv (yX m),S):=by
 obtain ⟨T,hTe⟩:∃ T,T=(mv m::zh::zh::zh::zh::zh::zh::zh::zh::zh::zh::zh::zh::zh::zh::zh::zh::zh::zh::zh::zh::zh::zh::zh::zh::zh::zh::zh::zh::zh::zh::zh::zh::zh::zh::zh::zh::zh::zh::zh::zh::zh::zh::zh::zh::zh::[]):=⟨_,rfl⟩
 have hr:zG Try.prog O false jk.code T zn.empty=zG Try.prog O false jk.code T zn.empty:=rfl
 obtain ⟨A1,hA1⟩:∃ A,A=(Yk m).push (.cells (fM m0) (.own []) 0):=⟨_,rfl⟩
 have a1:yG Try.prog 48 (Yk m)=some (.pointer (some ⟨1,0,none⟩),A1):=by rw [hA1];exact Xe _
 have p0:A1.get 0=some (.cells (fM m) (.own []) 0):=by rw [hA1];kernel_rfl
 obtain ⟨A2,hA2⟩:∃ A,A=A1.push (.cells (fM m0) (.own []) 0):=⟨_,rfl⟩
 have a2:yG Try.prog 48 A1=some (.pointer (some ⟨2,0,none⟩),A2):=by rw [hA2,hA1];exact Xe _
 have q0:A2.get 0=some (.cells (fM m) (.own []) 0):=by rw [hA2,hA1];kernel_rfl
 have q1:A2.get 1=some (.cells (fM m0) (.own []) 0):=by rw [hA2,hA1];kernel_rfl
 have q2:A2.get 2=some (.cells (fM m0) (.own []) 0):=by rw [hA2,hA1];kernel_rfl
 have s0:wM Try.prog 48 (.pointer (some ⟨2,0,none⟩)) (.agg [Value.int .i64 m.kind,.int .i64 m.frm,.int .i64 0,.int .i64 0,.int .i64 0,.int .i64 0,.int .i64 0,.int .i64 0,.int .i64 0,.int .i64 0,.int .i64 0,.int .i64 0,.slice none 0 0].toArray) A2=some (zh,qX A2 2 (⟨m.kind,m.frm,0,0,0,0,⟨0,0⟩,bk0⟩:wU)):=YW q2 (⟨m.kind,m.frm,0,0,0,0,⟨0,0⟩,bk0⟩:wU)
 have b0:(qX A2 2 (⟨m.kind,m.frm,0,0,0,0,⟨0,0⟩,bk0⟩:wU)).get 0=some (.cells (fM m) (.own []) 0):=(yx (by decide)).trans q0
 have b1:(qX A2 2 (⟨m.kind,m.frm,0,0,0,0,⟨0,0⟩,bk0⟩:wU)).get 1=some (.cells (fM m0) (.own []) 0):=(yx (by decide)).trans q1
 have b2:=wJ A2 2 (⟨m.kind,m.frm,0,0,0,0,⟨0,0⟩,bk0⟩:wU)
 generalize hB0:qX A2 2 (⟨m.kind,m.frm,0,0,0,0,⟨0,0⟩,bk0⟩:wU)=B0 at s0 b0 b1 b2
 have s1:=aiZ b2 m.b
 have c1_0:(qX B0 2 (⟨m.kind,m.frm,0,0,0,0,⟨0,0⟩,m.b⟩:wU)).get 0=some (.cells (fM m) (.own []) 0):=(yx (by decide)).trans b0
 have c1_1:(qX B0 2 (⟨m.kind,m.frm,0,0,0,0,⟨0,0⟩,m.b⟩:wU)).get 1=some (.cells (fM m0) (.own []) 0):=(yx (by decide)).trans b1
 have c1_2:=wJ B0 2 (⟨m.kind,m.frm,0,0,0,0,⟨0,0⟩,m.b⟩:wU)
 dsimp only at s1
 generalize hB1:qX B0 2 (⟨m.kind,m.frm,0,0,0,0,⟨0,0⟩,m.b⟩:wU)=B1 at s1  c1_0 c1_1 c1_2
 have eb:(⟨m.kind,m.frm,0,0,0,0,⟨0,0⟩,m.b⟩:wU)=yX m:=by simp [yX,hk]
 rw [eb] at c1_2
 have hbk:(yX m).b.k≠2:=by simp [yX,hk,hm.b.ne]
 have ld:=kT c1_2 hbk
 have sl:=YW c1_1 (yX m)
 have fin:=kT (wJ B1 1 (yX m)) hbk
 have hcb:(yX m).b.k≤2:=by simp [yX,hk,hm.b.okl.le]
 conv at hr =>
  rhs
  rw [hTe]
  simp only [jk.code,jk.rs,zSs,reduceIte,Nat.reduceEqDiff,Int.reduceEq,Int.reduceLT,Int.reduceLE,xZ,a1,a2,zJ,zV,wK p0,yC p0,kK (y0:=.int .i64 m.kind) (y1:=.int .i64 m.frm) rfl rfl,s0,wK b0,zZ,s1,yU b0 hm.b.ne,decide_eq_false (show ¬ m.kind=0 by omega),decide_eq_true hk,ZN,ld,sl]
 rw [hTe] at hr
 exact jk.runs hr (.inr rfl) fin (all1 (yE hm.b.okl.le)) (yE hcb)
theorem jk.v2 {m:wU} (hm:m.Ok) (hk:m.kind=2) (S:zn):zW Try.prog O jk.id [mv m] S=some (mv (yX m),S):=by
 obtain ⟨T,hTe⟩:∃ T,T=(mv m::zh::zh::zh::zh::zh::zh::zh::zh::zh::zh::zh::zh::zh::zh::zh::zh::zh::zh::zh::zh::zh::zh::zh::zh::zh::zh::zh::zh::zh::zh::zh::zh::zh::zh::zh::zh::zh::zh::zh::zh::zh::zh::zh::zh::zh::[]):=⟨_,rfl⟩
 have hr:zG Try.prog O false jk.code T zn.empty=zG Try.prog O false jk.code T zn.empty:=rfl
 obtain ⟨A1,hA1⟩:∃ A,A=(Yk m).push (.cells (fM m0) (.own []) 0):=⟨_,rfl⟩
 have a1:yG Try.prog 48 (Yk m)=some (.pointer (some ⟨1,0,none⟩),A1):=by rw [hA1];exact Xe _
 have p0:A1.get 0=some (.cells (fM m) (.own []) 0):=by rw [hA1];kernel_rfl
 obtain ⟨A2,hA2⟩:∃ A,A=A1.push (.cells (fM m0) (.own []) 0):=⟨_,rfl⟩
 have a2:yG Try.prog 48 A1=some (.pointer (some ⟨2,0,none⟩),A2):=by rw [hA2,hA1];exact Xe _
 have q0:A2.get 0=some (.cells (fM m) (.own []) 0):=by rw [hA2,hA1];kernel_rfl
 have q1:A2.get 1=some (.cells (fM m0) (.own []) 0):=by rw [hA2,hA1];kernel_rfl
 have q2:A2.get 2=some (.cells (fM m0) (.own []) 0):=by rw [hA2,hA1];kernel_rfl
 have s0:wM Try.prog 48 (.pointer (some ⟨2,0,none⟩)) (.agg [Value.int .i64 m.kind,.int .i64 m.frm,.int .i64 0,.int .i64 0,.int .i64 0,.int .i64 0,.int .i64 0,.int .i64 0,.int .i64 0,.int .i64 0,.int .i64 0,.int .i64 0,.slice none 0 0].toArray) A2=some (zh,qX A2 2 (⟨m.kind,m.frm,0,0,0,0,⟨0,0⟩,bk0⟩:wU)):=YW q2 (⟨m.kind,m.frm,0,0,0,0,⟨0,0⟩,bk0⟩:wU)
 have b0:(qX A2 2 (⟨m.kind,m.frm,0,0,0,0,⟨0,0⟩,bk0⟩:wU)).get 0=some (.cells (fM m) (.own []) 0):=(yx (by decide)).trans q0
 have b1:(qX A2 2 (⟨m.kind,m.frm,0,0,0,0,⟨0,0⟩,bk0⟩:wU)).get 1=some (.cells (fM m0) (.own []) 0):=(yx (by decide)).trans q1
 have b2:=wJ A2 2 (⟨m.kind,m.frm,0,0,0,0,⟨0,0⟩,bk0⟩:wU)
 generalize hB0:qX A2 2 (⟨m.kind,m.frm,0,0,0,0,⟨0,0⟩,bk0⟩:wU)=B0 at s0 b0 b1 b2
 have s1:=af9 b2 m.value
 have c1_0:(qX B0 2 (⟨m.kind,m.frm,0,0,m.value,0,⟨0,0⟩,bk0⟩:wU)).get 0=some (.cells (fM m) (.own []) 0):=(yx (by decide)).trans b0
 have c1_1:(qX B0 2 (⟨m.kind,m.frm,0,0,m.value,0,⟨0,0⟩,bk0⟩:wU)).get 1=some (.cells (fM m0) (.own []) 0):=(yx (by decide)).trans b1
 have c1_2:=wJ B0 2 (⟨m.kind,m.frm,0,0,m.value,0,⟨0,0⟩,bk0⟩:wU)
 dsimp only at s1
 generalize hB1:qX B0 2 (⟨m.kind,m.frm,0,0,m.value,0,⟨0,0⟩,bk0⟩:wU)=B1 at s1  c1_0 c1_1 c1_2
 have eb:(⟨m.kind,m.frm,0,0,m.value,0,⟨0,0⟩,bk0⟩:wU)=yX m:=by simp [yX,hk]
 rw [eb] at c1_2
 have hbk:(yX m).b.k≠2:=by simp [yX,hk]
 have ld:=kT c1_2 hbk
 have sl:=YW c1_1 (yX m)
 have fin:=kT (wJ B1 1 (yX m)) hbk
 have hcb:(yX m).b.k≤2:=by simp [yX,hk]
 conv at hr =>
  rhs
  rw [hTe]
  simp only [jk.code,jk.rs,zSs,reduceIte,Nat.reduceEqDiff,Int.reduceEq,Int.reduceLT,Int.reduceLE,xZ,a1,a2,zJ,zV,wK p0,yC p0,kK (y0:=.int .i64 m.kind) (y1:=.int .i64 m.frm) rfl rfl,s0,wK b0,zT,s1,yj b0,decide_eq_false (show ¬ m.kind=0 by omega),decide_eq_false (show ¬ m.kind=1 by omega),decide_eq_true hk,ZN,ld,sl]
 rw [hTe] at hr
 exact jk.runs hr (.inr rfl) fin (all1 (yE hm.b.okl.le)) (yE hcb)
theorem jk.v3 {m:wU} (hm:m.Ok) (hk:m.kind=3) (S:zn):zW Try.prog O jk.id [mv m] S=some (mv (yX m),S):=by
 obtain ⟨T,hTe⟩:∃ T,T=(mv m::zh::zh::zh::zh::zh::zh::zh::zh::zh::zh::zh::zh::zh::zh::zh::zh::zh::zh::zh::zh::zh::zh::zh::zh::zh::zh::zh::zh::zh::zh::zh::zh::zh::zh::zh::zh::zh::zh::zh::zh::zh::zh::zh::zh::zh::[]):=⟨_,rfl⟩
 have hr:zG Try.prog O false jk.code T zn.empty=zG Try.prog O false jk.code T zn.empty:=rfl
 obtain ⟨A1,hA1⟩:∃ A,A=(Yk m).push (.cells (fM m0) (.own []) 0):=⟨_,rfl⟩
 have a1:yG Try.prog 48 (Yk m)=some (.pointer (some ⟨1,0,none⟩),A1):=by rw [hA1];exact Xe _
 have p0:A1.get 0=some (.cells (fM m) (.own []) 0):=by rw [hA1];kernel_rfl
 obtain ⟨A2,hA2⟩:∃ A,A=A1.push (.cells (fM m0) (.own []) 0):=⟨_,rfl⟩
 have a2:yG Try.prog 48 A1=some (.pointer (some ⟨2,0,none⟩),A2):=by rw [hA2,hA1];exact Xe _
 have q0:A2.get 0=some (.cells (fM m) (.own []) 0):=by rw [hA2,hA1];kernel_rfl
 have q1:A2.get 1=some (.cells (fM m0) (.own []) 0):=by rw [hA2,hA1];kernel_rfl
 have q2:A2.get 2=some (.cells (fM m0) (.own []) 0):=by rw [hA2,hA1];kernel_rfl
 have s0:wM Try.prog 48 (.pointer (some ⟨2,0,none⟩)) (.agg [Value.int .i64 m.kind,.int .i64 m.frm,.int .i64 0,.int .i64 0,.int .i64 0,.int .i64 0,.int .i64 0,.int .i64 0,.int .i64 0,.int .i64 0,.int .i64 0,.int .i64 0,.slice none 0 0].toArray) A2=some (zh,qX A2 2 (⟨m.kind,m.frm,0,0,0,0,⟨0,0⟩,bk0⟩:wU)):=YW q2 (⟨m.kind,m.frm,0,0,0,0,⟨0,0⟩,bk0⟩:wU)
 have b0:(qX A2 2 (⟨m.kind,m.frm,0,0,0,0,⟨0,0⟩,bk0⟩:wU)).get 0=some (.cells (fM m) (.own []) 0):=(yx (by decide)).trans q0
 have b1:(qX A2 2 (⟨m.kind,m.frm,0,0,0,0,⟨0,0⟩,bk0⟩:wU)).get 1=some (.cells (fM m0) (.own []) 0):=(yx (by decide)).trans q1
 have b2:=wJ A2 2 (⟨m.kind,m.frm,0,0,0,0,⟨0,0⟩,bk0⟩:wU)
 generalize hB0:qX A2 2 (⟨m.kind,m.frm,0,0,0,0,⟨0,0⟩,bk0⟩:wU)=B0 at s0 b0 b1 b2
 have s1:=akJ b2 m.prep
 have c1_0:(qX B0 2 (⟨m.kind,m.frm,0,0,0,m.prep,⟨0,0⟩,bk0⟩:wU)).get 0=some (.cells (fM m) (.own []) 0):=(yx (by decide)).trans b0
 have c1_1:(qX B0 2 (⟨m.kind,m.frm,0,0,0,m.prep,⟨0,0⟩,bk0⟩:wU)).get 1=some (.cells (fM m0) (.own []) 0):=(yx (by decide)).trans b1
 have c1_2:=wJ B0 2 (⟨m.kind,m.frm,0,0,0,m.prep,⟨0,0⟩,bk0⟩:wU)
 dsimp only at s1
 generalize hB1:qX B0 2 (⟨m.kind,m.frm,0,0,0,m.prep,⟨0,0⟩,bk0⟩:wU)=B1 at s1  c1_0 c1_1 c1_2
 have s2:=ajd c1_2 m.view
 have c2_0:(qX B1 2 (⟨m.kind,m.frm,0,m.view,0,m.prep,⟨0,0⟩,bk0⟩:wU)).get 0=some (.cells (fM m) (.own []) 0):=(yx (by decide)).trans c1_0
 have c2_1:(qX B1 2 (⟨m.kind,m.frm,0,m.view,0,m.prep,⟨0,0⟩,bk0⟩:wU)).get 1=some (.cells (fM m0) (.own []) 0):=(yx (by decide)).trans c1_1
 have c2_2:=wJ B1 2 (⟨m.kind,m.frm,0,m.view,0,m.prep,⟨0,0⟩,bk0⟩:wU)
 dsimp only at s2
 generalize hB2:qX B1 2 (⟨m.kind,m.frm,0,m.view,0,m.prep,⟨0,0⟩,bk0⟩:wU)=B2 at s2  c2_0 c2_1 c2_2
 have s3:=agB c2_2 m.index
 have sq:=Wy (o:=0+4) (x:=(⟨m.kind,m.frm,m.index,m.view,0,m.prep,⟨0,0⟩,bk0⟩:wU)) c2_0 (show (0:Nat)≠2 by decide)
 have c3_0:(qX B2 2 (⟨m.kind,m.frm,m.index,m.view,0,m.prep,⟨0,0⟩,bk0⟩:wU)).get 0=some (.cells (fM m) (.own []) 0):=(yx (by decide)).trans c2_0
 have c3_1:(qX B2 2 (⟨m.kind,m.frm,m.index,m.view,0,m.prep,⟨0,0⟩,bk0⟩:wU)).get 1=some (.cells (fM m0) (.own []) 0):=(yx (by decide)).trans c2_1
 have c3_2:=wJ B2 2 (⟨m.kind,m.frm,m.index,m.view,0,m.prep,⟨0,0⟩,bk0⟩:wU)
 dsimp only at s3
 generalize hB3:qX B2 2 (⟨m.kind,m.frm,m.index,m.view,0,m.prep,⟨0,0⟩,bk0⟩:wU)=B3 at s3 sq c3_0 c3_1 c3_2
 have s4:=af9 c3_2 m.value
 have c4_0:(qX B3 2 (⟨m.kind,m.frm,m.index,m.view,m.value,m.prep,⟨0,0⟩,bk0⟩:wU)).get 0=some (.cells (fM m) (.own []) 0):=(yx (by decide)).trans c3_0
 have c4_1:(qX B3 2 (⟨m.kind,m.frm,m.index,m.view,m.value,m.prep,⟨0,0⟩,bk0⟩:wU)).get 1=some (.cells (fM m0) (.own []) 0):=(yx (by decide)).trans c3_1
 have c4_2:=wJ B3 2 (⟨m.kind,m.frm,m.index,m.view,m.value,m.prep,⟨0,0⟩,bk0⟩:wU)
 dsimp only at s4
 generalize hB4:qX B3 2 (⟨m.kind,m.frm,m.index,m.view,m.value,m.prep,⟨0,0⟩,bk0⟩:wU)=B4 at s4  c4_0 c4_1 c4_2
 have eb:(⟨m.kind,m.frm,m.index,m.view,m.value,m.prep,⟨0,0⟩,bk0⟩:wU)=yX m:=by simp [yX,hk]
 rw [eb] at c4_2
 have hbk:(yX m).b.k≠2:=by simp [yX,hk]
 have ld:=kT c4_2 hbk
 have sl:=YW c4_1 (yX m)
 have fin:=kT (wJ B4 1 (yX m)) hbk
 have hcb:(yX m).b.k≤2:=by simp [yX,hk]
 conv at hr =>
  rhs
  rw [hTe]
  simp only [jk.code,jk.rs,zSs,reduceIte,Nat.reduceEqDiff,Int.reduceEq,Int.reduceLT,Int.reduceLE,xZ,a1,a2,zJ,zV,wK p0,yC p0,kK (y0:=.int .i64 m.kind) (y1:=.int .i64 m.frm) rfl rfl,s0,wK b0,jg,s1,yV b0,jd,s2,yP b0,yP c1_0,jc,s3,sq,yH c1_0,yH c2_0,yj c2_0,zT,zT,s4,yj c2_0,yj c3_0,decide_eq_false (show ¬ m.kind=0 by omega),decide_eq_false (show ¬ m.kind=1 by omega),decide_eq_false (show ¬ m.kind=2 by omega),decide_eq_true hk,ZN,ld,sl]
 rw [hTe] at hr
 exact jk.runs hr (.inr rfl) fin (all1 (yE hm.b.okl.le)) (yE hcb)
theorem jk.v4 {m:wU} (hm:m.Ok) (hk:m.kind=4) (S:zn):zW Try.prog O jk.id [mv m] S=some (mv (yX m),S):=by
 obtain ⟨T,hTe⟩:∃ T,T=(mv m::zh::zh::zh::zh::zh::zh::zh::zh::zh::zh::zh::zh::zh::zh::zh::zh::zh::zh::zh::zh::zh::zh::zh::zh::zh::zh::zh::zh::zh::zh::zh::zh::zh::zh::zh::zh::zh::zh::zh::zh::zh::zh::zh::zh::zh::[]):=⟨_,rfl⟩
 have hr:zG Try.prog O false jk.code T zn.empty=zG Try.prog O false jk.code T zn.empty:=rfl
 obtain ⟨A1,hA1⟩:∃ A,A=(Yk m).push (.cells (fM m0) (.own []) 0):=⟨_,rfl⟩
 have a1:yG Try.prog 48 (Yk m)=some (.pointer (some ⟨1,0,none⟩),A1):=by rw [hA1];exact Xe _
 have p0:A1.get 0=some (.cells (fM m) (.own []) 0):=by rw [hA1];kernel_rfl
 obtain ⟨A2,hA2⟩:∃ A,A=A1.push (.cells (fM m0) (.own []) 0):=⟨_,rfl⟩
 have a2:yG Try.prog 48 A1=some (.pointer (some ⟨2,0,none⟩),A2):=by rw [hA2,hA1];exact Xe _
 have q0:A2.get 0=some (.cells (fM m) (.own []) 0):=by rw [hA2,hA1];kernel_rfl
 have q1:A2.get 1=some (.cells (fM m0) (.own []) 0):=by rw [hA2,hA1];kernel_rfl
 have q2:A2.get 2=some (.cells (fM m0) (.own []) 0):=by rw [hA2,hA1];kernel_rfl
 have s0:wM Try.prog 48 (.pointer (some ⟨2,0,none⟩)) (.agg [Value.int .i64 m.kind,.int .i64 m.frm,.int .i64 0,.int .i64 0,.int .i64 0,.int .i64 0,.int .i64 0,.int .i64 0,.int .i64 0,.int .i64 0,.int .i64 0,.int .i64 0,.slice none 0 0].toArray) A2=some (zh,qX A2 2 (⟨m.kind,m.frm,0,0,0,0,⟨0,0⟩,bk0⟩:wU)):=YW q2 (⟨m.kind,m.frm,0,0,0,0,⟨0,0⟩,bk0⟩:wU)
 have b0:(qX A2 2 (⟨m.kind,m.frm,0,0,0,0,⟨0,0⟩,bk0⟩:wU)).get 0=some (.cells (fM m) (.own []) 0):=(yx (by decide)).trans q0
 have b1:(qX A2 2 (⟨m.kind,m.frm,0,0,0,0,⟨0,0⟩,bk0⟩:wU)).get 1=some (.cells (fM m0) (.own []) 0):=(yx (by decide)).trans q1
 have b2:=wJ A2 2 (⟨m.kind,m.frm,0,0,0,0,⟨0,0⟩,bk0⟩:wU)
 generalize hB0:qX A2 2 (⟨m.kind,m.frm,0,0,0,0,⟨0,0⟩,bk0⟩:wU)=B0 at s0 b0 b1 b2
 have s1:=ajd b2 m.view
 have c1_0:(qX B0 2 (⟨m.kind,m.frm,0,m.view,0,0,⟨0,0⟩,bk0⟩:wU)).get 0=some (.cells (fM m) (.own []) 0):=(yx (by decide)).trans b0
 have c1_1:(qX B0 2 (⟨m.kind,m.frm,0,m.view,0,0,⟨0,0⟩,bk0⟩:wU)).get 1=some (.cells (fM m0) (.own []) 0):=(yx (by decide)).trans b1
 have c1_2:=wJ B0 2 (⟨m.kind,m.frm,0,m.view,0,0,⟨0,0⟩,bk0⟩:wU)
 dsimp only at s1
 generalize hB1:qX B0 2 (⟨m.kind,m.frm,0,m.view,0,0,⟨0,0⟩,bk0⟩:wU)=B1 at s1  c1_0 c1_1 c1_2
 have s2:=agB c1_2 m.index
 have sq:=Wy (o:=0+4) (x:=(⟨m.kind,m.frm,m.index,m.view,0,0,⟨0,0⟩,bk0⟩:wU)) c1_0 (show (0:Nat)≠2 by decide)
 have c2_0:(qX B1 2 (⟨m.kind,m.frm,m.index,m.view,0,0,⟨0,0⟩,bk0⟩:wU)).get 0=some (.cells (fM m) (.own []) 0):=(yx (by decide)).trans c1_0
 have c2_1:(qX B1 2 (⟨m.kind,m.frm,m.index,m.view,0,0,⟨0,0⟩,bk0⟩:wU)).get 1=some (.cells (fM m0) (.own []) 0):=(yx (by decide)).trans c1_1
 have c2_2:=wJ B1 2 (⟨m.kind,m.frm,m.index,m.view,0,0,⟨0,0⟩,bk0⟩:wU)
 dsimp only at s2
 generalize hB2:qX B1 2 (⟨m.kind,m.frm,m.index,m.view,0,0,⟨0,0⟩,bk0⟩:wU)=B2 at s2 sq c2_0 c2_1 c2_2
 have s3:=af9 c2_2 m.value
 have c3_0:(qX B2 2 (⟨m.kind,m.frm,m.index,m.view,m.value,0,⟨0,0⟩,bk0⟩:wU)).get 0=some (.cells (fM m) (.own []) 0):=(yx (by decide)).trans c2_0
 have c3_1:(qX B2 2 (⟨m.kind,m.frm,m.index,m.view,m.value,0,⟨0,0⟩,bk0⟩:wU)).get 1=some (.cells (fM m0) (.own []) 0):=(yx (by decide)).trans c2_1
 have c3_2:=wJ B2 2 (⟨m.kind,m.frm,m.index,m.view,m.value,0,⟨0,0⟩,bk0⟩:wU)
 dsimp only at s3
 generalize hB3:qX B2 2 (⟨m.kind,m.frm,m.index,m.view,m.value,0,⟨0,0⟩,bk0⟩:wU)=B3 at s3  c3_0 c3_1 c3_2
 have eb:(⟨m.kind,m.frm,m.index,m.view,m.value,0,⟨0,0⟩,bk0⟩:wU)=yX m:=by simp [yX,hk]
 rw [eb] at c3_2
 have hbk:(yX m).b.k≠2:=by simp [yX,hk]
 have ld:=kT c3_2 hbk
 have sl:=YW c3_1 (yX m)
 have fin:=kT (wJ B3 1 (yX m)) hbk
 have hcb:(yX m).b.k≤2:=by simp [yX,hk]
 conv at hr =>
  rhs
  rw [hTe]
  simp only [jk.code,jk.rs,zSs,reduceIte,Nat.reduceEqDiff,Int.reduceEq,Int.reduceLT,Int.reduceLE,xZ,a1,a2,zJ,zV,wK p0,yC p0,kK (y0:=.int .i64 m.kind) (y1:=.int .i64 m.frm) rfl rfl,s0,wK b0,jd,s1,yP b0,jc,s2,sq,yH b0,yH c1_0,yj c1_0,zT,zT,s3,yj c1_0,yj c2_0,decide_eq_false (show ¬ m.kind=0 by omega),decide_eq_false (show ¬ m.kind=1 by omega),decide_eq_false (show ¬ m.kind=2 by omega),decide_eq_false (show ¬ m.kind=3 by omega),decide_eq_true hk,decide_eq_false (show ¬ m.kind=5 by omega),decide_eq_false (show ¬ m.kind=6 by omega),ZN,ld,sl]
 rw [hTe] at hr
 exact jk.runs hr (.inr rfl) fin (all1 (yE hm.b.okl.le)) (yE hcb)
theorem jk.v5 {m:wU} (hm:m.Ok) (hk:m.kind=5) (S:zn):zW Try.prog O jk.id [mv m] S=some (mv (yX m),S):=by
 obtain ⟨T,hTe⟩:∃ T,T=(mv m::zh::zh::zh::zh::zh::zh::zh::zh::zh::zh::zh::zh::zh::zh::zh::zh::zh::zh::zh::zh::zh::zh::zh::zh::zh::zh::zh::zh::zh::zh::zh::zh::zh::zh::zh::zh::zh::zh::zh::zh::zh::zh::zh::zh::zh::[]):=⟨_,rfl⟩
 have hr:zG Try.prog O false jk.code T zn.empty=zG Try.prog O false jk.code T zn.empty:=rfl
 obtain ⟨A1,hA1⟩:∃ A,A=(Yk m).push (.cells (fM m0) (.own []) 0):=⟨_,rfl⟩
 have a1:yG Try.prog 48 (Yk m)=some (.pointer (some ⟨1,0,none⟩),A1):=by rw [hA1];exact Xe _
 have p0:A1.get 0=some (.cells (fM m) (.own []) 0):=by rw [hA1];kernel_rfl
 obtain ⟨A2,hA2⟩:∃ A,A=A1.push (.cells (fM m0) (.own []) 0):=⟨_,rfl⟩
 have a2:yG Try.prog 48 A1=some (.pointer (some ⟨2,0,none⟩),A2):=by rw [hA2,hA1];exact Xe _
 have q0:A2.get 0=some (.cells (fM m) (.own []) 0):=by rw [hA2,hA1];kernel_rfl
 have q1:A2.get 1=some (.cells (fM m0) (.own []) 0):=by rw [hA2,hA1];kernel_rfl
 have q2:A2.get 2=some (.cells (fM m0) (.own []) 0):=by rw [hA2,hA1];kernel_rfl
 have s0:wM Try.prog 48 (.pointer (some ⟨2,0,none⟩)) (.agg [Value.int .i64 m.kind,.int .i64 m.frm,.int .i64 0,.int .i64 0,.int .i64 0,.int .i64 0,.int .i64 0,.int .i64 0,.int .i64 0,.int .i64 0,.int .i64 0,.int .i64 0,.slice none 0 0].toArray) A2=some (zh,qX A2 2 (⟨m.kind,m.frm,0,0,0,0,⟨0,0⟩,bk0⟩:wU)):=YW q2 (⟨m.kind,m.frm,0,0,0,0,⟨0,0⟩,bk0⟩:wU)
 have b0:(qX A2 2 (⟨m.kind,m.frm,0,0,0,0,⟨0,0⟩,bk0⟩:wU)).get 0=some (.cells (fM m) (.own []) 0):=(yx (by decide)).trans q0
 have b1:(qX A2 2 (⟨m.kind,m.frm,0,0,0,0,⟨0,0⟩,bk0⟩:wU)).get 1=some (.cells (fM m0) (.own []) 0):=(yx (by decide)).trans q1
 have b2:=wJ A2 2 (⟨m.kind,m.frm,0,0,0,0,⟨0,0⟩,bk0⟩:wU)
 generalize hB0:qX A2 2 (⟨m.kind,m.frm,0,0,0,0,⟨0,0⟩,bk0⟩:wU)=B0 at s0 b0 b1 b2
 have s1:=ajd b2 m.view
 have c1_0:(qX B0 2 (⟨m.kind,m.frm,0,m.view,0,0,⟨0,0⟩,bk0⟩:wU)).get 0=some (.cells (fM m) (.own []) 0):=(yx (by decide)).trans b0
 have c1_1:(qX B0 2 (⟨m.kind,m.frm,0,m.view,0,0,⟨0,0⟩,bk0⟩:wU)).get 1=some (.cells (fM m0) (.own []) 0):=(yx (by decide)).trans b1
 have c1_2:=wJ B0 2 (⟨m.kind,m.frm,0,m.view,0,0,⟨0,0⟩,bk0⟩:wU)
 dsimp only at s1
 generalize hB1:qX B0 2 (⟨m.kind,m.frm,0,m.view,0,0,⟨0,0⟩,bk0⟩:wU)=B1 at s1  c1_0 c1_1 c1_2
 have s2:=agB c1_2 m.index
 have sq:=Wy (o:=0+4) (x:=(⟨m.kind,m.frm,m.index,m.view,0,0,⟨0,0⟩,bk0⟩:wU)) c1_0 (show (0:Nat)≠2 by decide)
 have c2_0:(qX B1 2 (⟨m.kind,m.frm,m.index,m.view,0,0,⟨0,0⟩,bk0⟩:wU)).get 0=some (.cells (fM m) (.own []) 0):=(yx (by decide)).trans c1_0
 have c2_1:(qX B1 2 (⟨m.kind,m.frm,m.index,m.view,0,0,⟨0,0⟩,bk0⟩:wU)).get 1=some (.cells (fM m0) (.own []) 0):=(yx (by decide)).trans c1_1
 have c2_2:=wJ B1 2 (⟨m.kind,m.frm,m.index,m.view,0,0,⟨0,0⟩,bk0⟩:wU)
 dsimp only at s2
 generalize hB2:qX B1 2 (⟨m.kind,m.frm,m.index,m.view,0,0,⟨0,0⟩,bk0⟩:wU)=B2 at s2 sq c2_0 c2_1 c2_2
 have s3:=af9 c2_2 m.value
 have c3_0:(qX B2 2 (⟨m.kind,m.frm,m.index,m.view,m.value,0,⟨0,0⟩,bk0⟩:wU)).get 0=some (.cells (fM m) (.own []) 0):=(yx (by decide)).trans c2_0
 have c3_1:(qX B2 2 (⟨m.kind,m.frm,m.index,m.view,m.value,0,⟨0,0⟩,bk0⟩:wU)).get 1=some (.cells (fM m0) (.own []) 0):=(yx (by decide)).trans c2_1
 have c3_2:=wJ B2 2 (⟨m.kind,m.frm,m.index,m.view,m.value,0,⟨0,0⟩,bk0⟩:wU)
 dsimp only at s3
 generalize hB3:qX B2 2 (⟨m.kind,m.frm,m.index,m.view,m.value,0,⟨0,0⟩,bk0⟩:wU)=B3 at s3  c3_0 c3_1 c3_2
 have eb:(⟨m.kind,m.frm,m.index,m.view,m.value,0,⟨0,0⟩,bk0⟩:wU)=yX m:=by simp [yX,hk]
 rw [eb] at c3_2
 have hbk:(yX m).b.k≠2:=by simp [yX,hk]
 have ld:=kT c3_2 hbk
 have sl:=YW c3_1 (yX m)
 have fin:=kT (wJ B3 1 (yX m)) hbk
 have hcb:(yX m).b.k≤2:=by simp [yX,hk]
 conv at hr =>
  rhs
  rw [hTe]
  simp only [jk.code,jk.rs,zSs,reduceIte,Nat.reduceEqDiff,Int.reduceEq,Int.reduceLT,Int.reduceLE,xZ,a1,a2,zJ,zV,wK p0,yC p0,kK (y0:=.int .i64 m.kind) (y1:=.int .i64 m.frm) rfl rfl,s0,wK b0,jd,s1,yP b0,jc,s2,sq,yH b0,yH c1_0,yj c1_0,zT,zT,s3,yj c1_0,yj c2_0,decide_eq_false (show ¬ m.kind=0 by omega),decide_eq_false (show ¬ m.kind=1 by omega),decide_eq_false (show ¬ m.kind=2 by omega),decide_eq_false (show ¬ m.kind=3 by omega),decide_eq_false (show ¬ m.kind=4 by omega),decide_eq_true hk,ZN,ld,sl]
 rw [hTe] at hr
 exact jk.runs hr (.inr rfl) fin (all1 (yE hm.b.okl.le)) (yE hcb)
theorem jk.v6 {m:wU} (hm:m.Ok) (hk:m.kind=6) (S:zn):zW Try.prog O jk.id [mv m] S=some (mv (yX m),S):=by
 obtain ⟨T,hTe⟩:∃ T,T=(mv m::zh::zh::zh::zh::zh::zh::zh::zh::zh::zh::zh::zh::zh::zh::zh::zh::zh::zh::zh::zh::zh::zh::zh::zh::zh::zh::zh::zh::zh::zh::zh::zh::zh::zh::zh::zh::zh::zh::zh::zh::zh::zh::zh::zh::zh::[]):=⟨_,rfl⟩
 have hr:zG Try.prog O false jk.code T zn.empty=zG Try.prog O false jk.code T zn.empty:=rfl
 obtain ⟨A1,hA1⟩:∃ A,A=(Yk m).push (.cells (fM m0) (.own []) 0):=⟨_,rfl⟩
 have a1:yG Try.prog 48 (Yk m)=some (.pointer (some ⟨1,0,none⟩),A1):=by rw [hA1];exact Xe _
 have p0:A1.get 0=some (.cells (fM m) (.own []) 0):=by rw [hA1];kernel_rfl
 obtain ⟨A2,hA2⟩:∃ A,A=A1.push (.cells (fM m0) (.own []) 0):=⟨_,rfl⟩
 have a2:yG Try.prog 48 A1=some (.pointer (some ⟨2,0,none⟩),A2):=by rw [hA2,hA1];exact Xe _
 have q0:A2.get 0=some (.cells (fM m) (.own []) 0):=by rw [hA2,hA1];kernel_rfl
 have q1:A2.get 1=some (.cells (fM m0) (.own []) 0):=by rw [hA2,hA1];kernel_rfl
 have q2:A2.get 2=some (.cells (fM m0) (.own []) 0):=by rw [hA2,hA1];kernel_rfl
 have s0:wM Try.prog 48 (.pointer (some ⟨2,0,none⟩)) (.agg [Value.int .i64 m.kind,.int .i64 m.frm,.int .i64 0,.int .i64 0,.int .i64 0,.int .i64 0,.int .i64 0,.int .i64 0,.int .i64 0,.int .i64 0,.int .i64 0,.int .i64 0,.slice none 0 0].toArray) A2=some (zh,qX A2 2 (⟨m.kind,m.frm,0,0,0,0,⟨0,0⟩,bk0⟩:wU)):=YW q2 (⟨m.kind,m.frm,0,0,0,0,⟨0,0⟩,bk0⟩:wU)
 have b0:(qX A2 2 (⟨m.kind,m.frm,0,0,0,0,⟨0,0⟩,bk0⟩:wU)).get 0=some (.cells (fM m) (.own []) 0):=(yx (by decide)).trans q0
 have b1:(qX A2 2 (⟨m.kind,m.frm,0,0,0,0,⟨0,0⟩,bk0⟩:wU)).get 1=some (.cells (fM m0) (.own []) 0):=(yx (by decide)).trans q1
 have b2:=wJ A2 2 (⟨m.kind,m.frm,0,0,0,0,⟨0,0⟩,bk0⟩:wU)
 generalize hB0:qX A2 2 (⟨m.kind,m.frm,0,0,0,0,⟨0,0⟩,bk0⟩:wU)=B0 at s0 b0 b1 b2
 have s1:=agB b2 m.index
 have sq:=Wy (o:=0+4) (x:=(⟨m.kind,m.frm,m.index,0,0,0,⟨0,0⟩,bk0⟩:wU)) b0 (show (0:Nat)≠2 by decide)
 have c1_0:(qX B0 2 (⟨m.kind,m.frm,m.index,0,0,0,⟨0,0⟩,bk0⟩:wU)).get 0=some (.cells (fM m) (.own []) 0):=(yx (by decide)).trans b0
 have c1_1:(qX B0 2 (⟨m.kind,m.frm,m.index,0,0,0,⟨0,0⟩,bk0⟩:wU)).get 1=some (.cells (fM m0) (.own []) 0):=(yx (by decide)).trans b1
 have c1_2:=wJ B0 2 (⟨m.kind,m.frm,m.index,0,0,0,⟨0,0⟩,bk0⟩:wU)
 dsimp only at s1
 generalize hB1:qX B0 2 (⟨m.kind,m.frm,m.index,0,0,0,⟨0,0⟩,bk0⟩:wU)=B1 at s1 sq c1_0 c1_1 c1_2
 have s2:=af9 c1_2 m.value
 have c2_0:(qX B1 2 (⟨m.kind,m.frm,m.index,0,m.value,0,⟨0,0⟩,bk0⟩:wU)).get 0=some (.cells (fM m) (.own []) 0):=(yx (by decide)).trans c1_0
 have c2_1:(qX B1 2 (⟨m.kind,m.frm,m.index,0,m.value,0,⟨0,0⟩,bk0⟩:wU)).get 1=some (.cells (fM m0) (.own []) 0):=(yx (by decide)).trans c1_1
 have c2_2:=wJ B1 2 (⟨m.kind,m.frm,m.index,0,m.value,0,⟨0,0⟩,bk0⟩:wU)
 dsimp only at s2
 generalize hB2:qX B1 2 (⟨m.kind,m.frm,m.index,0,m.value,0,⟨0,0⟩,bk0⟩:wU)=B2 at s2  c2_0 c2_1 c2_2
 have eb:(⟨m.kind,m.frm,m.index,0,m.value,0,⟨0,0⟩,bk0⟩:wU)=yX m:=by simp [yX,hk]
 rw [eb] at c2_2
 have hbk:(yX m).b.k≠2:=by simp [yX,hk]
 have ld:=kT c2_2 hbk
 have sl:=YW c2_1 (yX m)
 have fin:=kT (wJ B2 1 (yX m)) hbk
 have hcb:(yX m).b.k≤2:=by simp [yX,hk]
 conv at hr =>
  rhs
  rw [hTe]
  simp only [jk.code,jk.rs,zSs,reduceIte,Nat.reduceEqDiff,Int.reduceEq,Int.reduceLT,Int.reduceLE,xZ,a1,a2,zJ,zV,wK p0,yC p0,kK (y0:=.int .i64 m.kind) (y1:=.int .i64 m.frm) rfl rfl,s0,wK b0,jc,s1,sq,yH b0,yj b0,zT,zT,s2,yj b0,yj c1_0,decide_eq_false (show ¬ m.kind=0 by omega),decide_eq_false (show ¬ m.kind=1 by omega),decide_eq_false (show ¬ m.kind=2 by omega),decide_eq_false (show ¬ m.kind=3 by omega),decide_eq_false (show ¬ m.kind=4 by omega),decide_eq_false (show ¬ m.kind=5 by omega),decide_eq_true hk,ZN,ld,sl]
 rw [hTe] at hr
 exact jk.runs hr (.inr rfl) fin (all1 (yE hm.b.okl.le)) (yE hcb)
theorem jk.v {m:wU} (hm:m.Ok) (h0:0≤m.kind) (h6:m.kind≤6) (S:zn):zW Try.prog O jk.id [mv m] S=some (mv (yX m),S):=by
 have:m.kind=0∨m.kind=1∨m.kind=2∨m.kind=3∨m.kind=4∨m.kind=5∨m.kind=6:=by omega
 rcases this with h | h | h | h | h | h | h
 ·
  exact jk.v0 hm h S
 ·
  exact jk.v1 hm h S
 ·
  exact jk.v2 hm h S
 ·
  exact jk.v3 hm h S
 ·
  exact jk.v4 hm h S
 ·
  exact jk.v5 hm h S
 ·
  exact jk.v6 hm h S
end Go.Proofs.Ytfjogganfjkckaa
namespace Go.Abs
open Go.RowKit
def gv (x b:Bool) (v:Value):Value:=if x=b then v else zh
theorem aij (x b:Bool) (v:Value):dem (gv x b v)=gv x b (dem v):=by
 unfold gv;split
 ·
  rfl
 ·
  exact KE
theorem Ko {R:Type} {K:Value→zn→Option R} {p:vG K} {m:M Value} {S:zn} (x b:Bool):gdK (.bool x) b m S K p=if x=b then zI (m S) K p else K zh S:=by
 cases x <;> cases b <;> rfl
section
variable {R:Type} {K:Value→zn→Option R} {p:vG K} {S:zn} {x b c y z:Bool} {m m':M Value} {P:Program} {O:Ora} {t:TypeId} {v w u:Value}
theorem qN (h:x=b→m S=m' S):gdK (.bool x) b m S K p=gdK (.bool x) b m' S K p:=by
 rw [Ko,Ko]
 split
 ·
  rename_i hx;rw [h hx]
 ·
  rfl
theorem zq (h:m S=some (v,S)):gdK (.bool x) b m S K p=K (gv x b v) S:=by
 rw [Ko]
 unfold gv
 split
 ·
  rw [h];rfl
 ·
  rfl
theorem J7 (h:m S=some (v,S)) (hq:okq 3 v=true):agX (.bool x) b m S K p=K (gv x b v) S:=by
 unfold gv
 cases x <;> cases b <;> first | rfl | (simp only [abM,acj,h,Kq,kM hq,if_true])
theorem J3 (h:x=b):gv x b v=v:=if_pos h
theorem af6 {fx:Bool}:gdK (.bool x) b (jf P fx t (gv x b v)) S K p=gdK (.bool x) b (jf P fx t v) S K p:=qN fun h=>by rw [J3 h]
theorem Qc {f:Nat}:gdK (.bool x) b (zA P t (gv x b v) f) S K p=gdK (.bool x) b (zA P t v f) S K p:=qN fun h=>by rw [J3 h]
theorem Xc:gdK (.bool x) b (kN (gv x b v)) S K p=gdK (.bool x) b (kN v) S K p:=qN fun h=>by rw [J3 h]
theorem aif:gdK (.bool x) b (Zz P t (gv x b v)) S K p=gdK (.bool x) b (Zz P t v) S K p:=qN fun h=>by rw [J3 h]
theorem YI:gdK (.bool x) b (jo P t (gv x b v) w) S K p=gdK (.bool x) b (jo P t v w) S K p:=qN fun h=>by rw [J3 h]
theorem Yy:gdK (.bool x) b (jo P t v (gv x b w)) S K p=gdK (.bool x) b (jo P t v w) S K p:=qN fun h=>by rw [J3 h]
theorem akl {op:UnOp}:gdK (.bool x) b (aUn P op (gv x b v)) S K p=gdK (.bool x) b (aUn P op v) S K p:=qN fun h=>by rw [J3 h]
theorem aeT {hp dr:Bool} {t2:TypeId}:gdK (.bool x) b (qA P hp dr t t2 (gv x b v)) S K p=gdK (.bool x) b (qA P hp dr t t2 v) S K p:=qN fun h=>by rw [J3 h]
theorem aeG {op:BinOp}:gdK (.bool x) b (wB P op t (gv x b v) w) S K p=gdK (.bool x) b (wB P op t v w) S K p:=qN fun h=>by rw [J3 h]
theorem ae9 {op:BinOp}:gdK (.bool x) b (wB P op t v (gv x b w)) S K p=gdK (.bool x) b (wB P op t v w) S K p:=qN fun h=>by rw [J3 h]
theorem acT {g:FuncId} {l:List Value}:gdK (.bool x) b (zW P O g (gv x b v::l)) S K p=gdK (.bool x) b (zW P O g (v::l)) S K p:=qN fun h=>by rw [J3 h]
theorem acP {g:FuncId} {l:List Value}:gdK (.bool x) b (zW P O g (u::gv x b v::l)) S K p=gdK (.bool x) b (zW P O g (u::v::l)) S K p:=qN fun h=>by rw [J3 h]
theorem aaZ {g:FuncId} {l:List Value}:gdK (.bool x) b (ahJ (zW P O) g (gv x b v::l)) S K p=gdK (.bool x) b (ahJ (zW P O) g (v::l)) S K p:=qN fun h=>by rw [J3 h]
theorem aa8 {g:FuncId} {l:List Value}:gdK (.bool x) b (ahJ (zW P O) g (u::gv x b v::l)) S K p=gdK (.bool x) b (ahJ (zW P O) g (u::v::l)) S K p:=qN fun h=>by rw [J3 h]
theorem aik:gdK (.bool x) b (ret v) S K p=K (gv x b v) S:=zq rfl
theorem aj0:gv x b (gv x b v)=gv x b v:=by unfold gv;split <;> rfl
theorem acR:gdK (gv x c (.bool y)) b m S K p=gdK (.bool ((x == c) && (y == b))) true m S K p:=by
 unfold gv
 cases x <;> cases c <;> cases y <;> cases b <;> rfl
theorem aey {fx:Bool}:gdK (.bool ((x == c) && (y == b))) true (jf P fx t (gv x c v)) S K p=gdK (.bool ((x == c) && (y == b))) true (jf P fx t v) S K p:=qN fun h=>by rw [J3 (by simp at h;exact h.1)]
theorem agr {op:BinOp}:gdK (.bool ((x == c) && (y == b))) true (wB P op t (gv x c v) w) S K p=gdK (.bool ((x == c) && (y == b))) true (wB P op t v w) S K p:=qN fun h=>by rw [J3 (by simp at h;exact h.1)]
theorem aeL {op:BinOp}:gdK (.bool ((x == c) && (y == b))) true (wB P op t v (gv x c w)) S K p=gdK (.bool ((x == c) && (y == b))) true (wB P op t v w) S K p:=qN fun h=>by rw [J3 (by simp at h;exact h.1)]
theorem air:gdK (.bool x) c (wR (gv x c (.bool y)) (.bool true) (gv ((x == c) && (y == false)) true (.bool z))) S K p=K (gv x c (.bool (y || z))) S:=by
 unfold gv
 cases x <;> cases c <;> cases y <;> cases z <;> rfl
theorem aex:gdK (.bool x) c (wR (gv x c (.bool y)) (gv ((x == c) && (y == true)) true (.bool z)) (.bool false)) S K p=K (gv x c (.bool (y && z))) S:=by
 unfold gv
 cases x <;> cases c <;> cases y <;> cases z <;> rfl
theorem ajR:(if x=true then Value.bool true else gv x false (.bool y))=.bool (x || y):=by cases x <;> rfl
theorem aix:(if x=true then gv x true (.bool y) else Value.bool false)=.bool (x && y):=by cases x <;> rfl
theorem aj7:gv true true v=v:=rfl
theorem aki:gv false false v=v:=rfl
theorem ajY:gv true false v=zh:=rfl
theorem ajN:gv false true v=zh:=rfl
theorem ahO {k:IntKind} {a d:Int}:gdK (.bool x) b (wB P .lss t (.int k a) (.int k d)) S K p=K (gv x b (.bool (decide (a < d)))) S:=zq (VT k a d)
theorem aiA {k:IntKind} {a d:Int}:gdK (.bool x) b (wB P .leq t (.int k a) (.int k d)) S K p=K (gv x b (.bool (decide (a≤d)))) S:=zq (VE k a d)
theorem ahP {k:IntKind} {a d:Int}:gdK (.bool x) b (wB P .gtr t (.int k a) (.int k d)) S K p=K (gv x b (.bool (decide (d < a)))) S:=zq (Vb k a d)
theorem ah5 {k:IntKind} {a d:Int}:gdK (.bool x) b (wB P .geq t (.int k a) (.int k d)) S K p=K (gv x b (.bool (decide (d≤a)))) S:=zq (Vz k a d)
theorem ahU {k:IntKind} {a d:Int}:gdK (.bool x) b (wB P .eql t (.int k a) (.int k d)) S K p=K (gv x b (.bool (decide (a=d)))) S:=zq (aar k a d)
theorem aiq {k:IntKind} {a d:Int}:gdK (.bool x) b (wB P .neq t (.int k a) (.int k d)) S K p=K (gv x b (.bool (!decide (a=d)))) S:=zq (Vs k a d)
theorem aib {k:IntKind} {a d:Int}:gdK (.bool x) b (wB P .add t (.int k a) (.int k d)) S K p=K (gv x b (.int k (k.wrap (a+d)))) S:=zq (VF k a d)
theorem aiv {k:IntKind} {a d:Int}:gdK (.bool x) b (wB P .sub t (.int k a) (.int k d)) S K p=K (gv x b (.int k (k.wrap (a - d)))) S:=zq (Vl k a d)
theorem ahS:gdK (.bool x) b (aUn P .not (.bool y)) S K p=K (gv x b (.bool (!y))) S:=zq (by cases y <;> rfl)
end
theorem gvw:type_of% (ak5 @aij (ak5 @af6 (ak5 @Qc (ak5 @Xc (ak5 @aif (ak5 @YI (ak5 @Yy (ak5 @akl (ak5 @aeT (ak5 @aeG (ak5 @ae9 (ak5 @acT (ak5 @acP (ak5 @aaZ (ak5 @aa8 (ak5 @aik (ak5 @aj0 (ak5 @acR (ak5 @aey (ak5 @agr (ak5 @aeL (ak5 @air (ak5 @aex (ak5 @ajR (ak5 @aix (ak5 @aj7 (ak5 @aki (ak5 @ajY (ak5 @ajN (ak5 @ahO (ak5 @aiA (ak5 @ahP (ak5 @ah5 (ak5 @ahU (ak5 @aiq (ak5 @aib (ak5 @aiv @ahS))))))))))))))))))))))))))))))))))))) :=
 ak5 @aij (ak5 @af6 (ak5 @Qc (ak5 @Xc (ak5 @aif (ak5 @YI (ak5 @Yy (ak5 @akl (ak5 @aeT (ak5 @aeG (ak5 @ae9 (ak5 @acT (ak5 @acP (ak5 @aaZ (ak5 @aa8 (ak5 @aik (ak5 @aj0 (ak5 @acR (ak5 @aey (ak5 @agr (ak5 @aeL (ak5 @air (ak5 @aex (ak5 @ajR (ak5 @aix (ak5 @aj7 (ak5 @aki (ak5 @ajY (ak5 @ajN (ak5 @ahO (ak5 @aiA (ak5 @ahP (ak5 @ah5 (ak5 @ahU (ak5 @aiq (ak5 @aib (ak5 @aiv @ahS))))))))))))))))))))))))))))))))))))
end Go.Abs
namespace Go.Proofs.Ytfjogganfjkckaa
open Go.Abs
def nameB (n:Int):Bool:=decide (n=0) || xu n
theorem agu {n:Int} (h:n < 0):xu n=false:=by
 rw [Bool.eq_false_iff];intro h2;have:=xY.1 h2;omega
theorem agV (n:Int):decide (0 < Yo n)=xu n:=by
 rw [Bool.eq_iff_iff,decide_eq_true_eq]
 unfold Yo
 constructor
 ·
  intro h;split at h
  ·
   assumption
  ·
   omega
 ·
  intro h
  have:=xY.1 h
  rw [if_pos h];omega
theorem jE.v {n:Int} (hn:n < 9223372036854775808) (S:zn):zW Try.prog O jE.id [.int .i64 n] S=some (.bool (nameB n),S):=by
 obtain ⟨T,hTe⟩:∃ T,T=(.int .i64 n::zh::zh::zh::zh::zh::zh::zh::zh::zh::zh::zh::zh::zh::zh::zh::zh::zh::zh::[]):=⟨_,rfl⟩
 have hr:zG Try.prog O false jE.code T S=zG Try.prog O false jE.code T S:=rfl
 have c1:=fun S=>jh.v n hn S
 obtain ⟨a,b,c,e⟩:∃ a b c,abk n=.tuple #[.int .i64 a,.int .i64 b,.int .i64 c,.bool (xu n)]:=by
  unfold abk
  by_cases h:n < 0
  ·
   exact ⟨0,0,0,by rw [if_pos h,agu h]⟩
  ·
   exact ⟨_,_,_,by rw [if_neg h]⟩
 rw [e] at c1
 unfold nameB
 conv at hr =>
  rhs
  rw [hTe]
  simp only [jE.code,jE.rs,zSs,reduceIte,Nat.reduceEqDiff,Int.reduceEq,Int.reduceLT,Int.reduceLE,c1,gvw]
 rw [hTe] at hr
 exact jE.runs hr (.inr rfl)
theorem jF.v {b:xJ} (hb:b.Ok) (S:zn):zW Try.prog O jF.id [bv b] S=some (.bool (ZW b bk0),S):=by
 obtain ⟨T,hTe⟩:∃ T,T=(bv b::zh::zh::zh::zh::zh::[]):=⟨_,rfl⟩
 have hr:zG Try.prog O false jF.code T zn.empty=zG Try.prog O false jF.code T zn.empty:=rfl
 have c1:∀ S,zW Try.prog O 18 [bv b,.agg [Value.int .i64 0,.int .i64 0,.int .i64 0,.int .i64 0,.slice none 0 0].toArray] S=some (.bool (ZW b bk0),S):=fun S=>jA.v hb ok0 S
 conv at hr =>
  rhs
  rw [hTe]
  simp only [jF.code,jF.rs,zSs,reduceIte,Nat.reduceEqDiff,Int.reduceEq,Int.reduceLT,Int.reduceLE,JI,Xg (qc b) hb.ne,Wj,c1]
 rw [hTe] at hr
 exact jF.runs hr (.inr rfl) (all1 (yI hb.okl.le)) rfl
def vY (m:wU):Bool:=((!decide (m.kind=0) && !decide (m.tx=⟨0,0⟩)) || (!decide (m.kind=1) && !ZW m.b bk0)) || (!decide (m.kind=3) && !decide (m.prep=0))
def aaw (m:wU):Bool:=decide (0≤m.index) && decide (m.index≤1000)
def vwB (m:wU):Bool:=decide (0≤m.view) && decide (m.view≤1000)
def Zh (m:wU):Bool :=
 if m.kind=0 then ((decide (m.index=0) && decide (m.view=0)) && decide (m.value=0)) && qp m.tx
 else if m.kind=1 then ((decide (m.index=0) && decide (m.view=0)) && decide (m.value=0)) && jU m.b
 else if m.kind=2 then (decide (m.index=0) && decide (m.view=0)) && nameB m.value
 else if m.kind=3 then ((((aaw m) && (vwB m)) && nameB m.value) && decide (-1≤m.prep)) && decide (m.prep < m.view)
 else if m.kind=4∨m.kind=5 then ((aaw m) && (vwB m)) && (decide (m.value=-1) || nameB m.value)
 else if m.kind=6 then ((aaw m) && decide (m.view=0)) && nameB m.value
 else false
def vJ (m:wU):Bool:=if decide (m.frm < 0) || decide (6 < m.frm) then false else if vY m then false else Zh m
theorem JR (t u:TxV) (S:zn):wB Try.prog .neq 43 (tv t) (tv u) S=some (.bool (!decide (t=u)),S):=(ahz t u S).2
theorem zk.v0 {m:wU} (hm:m.Ok) (hk:m.kind=0) (S:zn):zW Try.prog O zk.id [mv m] S=some (.bool (vJ m),S):=by
 obtain ⟨T,hTe⟩:∃ T,T=(mv m::zh::zh::zh::zh::zh::zh::zh::zh::zh::zh::zh::zh::zh::zh::zh::zh::zh::zh::zh::zh::zh::zh::zh::zh::zh::zh::zh::zh::zh::zh::zh::zh::zh::zh::zh::zh::zh::zh::zh::zh::zh::zh::zh::zh::zh::zh::zh::zh::zh::zh::zh::zh::zh::zh::zh::zh::zh::zh::zh::zh::zh::zh::zh::zh::zh::zh::zh::zh::zh::zh::zh::zh::zh::zh::zh::zh::zh::zh::zh::zh::zh::zh::zh::zh::zh::zh::zh::zh::zh::zh::zh::zh::zh::zh::zh::zh::zh::zh::zh::zh::zh::zh::zh::zh::zh::zh::zh::zh::zh::zh::zh::zh::zh::zh::zh::zh::zh::zh::zh::zh::zh::zh::zh::zh::zh::zh::zh::zh::zh::zh::zh::zh::zh::zh::zh::zh::zh::zh::zh::zh::zh::zh::zh::zh::zh::zh::zh::zh::zh::zh::zh::zh::zh::zh::zh::zh::zh::zh::zh::zh::zh::zh::zh::zh::zh::zh::zh::zh::[]):=⟨_,rfl⟩
 have hr:zG Try.prog O false zk.code T zn.empty=zG Try.prog O false zk.code T zn.empty:=rfl
 have g0:=kR m
 have c1:=fun S=>jF.v hm.b S
 have c2:=fun S=>jE.v hm.value.2 S
 have c3:=fun S=>jv.v m.tx S
 have c4:=fun S=>zC.v hm.b S
 have hc:[mv m].all (jP 16)=true:=all1 (yE hm.b.okl.le)
 have eT:∀ S,wB Try.prog .neq 43 (tv m.tx) (.agg [Value.int .i64 0,.int .i64 0].toArray) S=some (.bool (!decide (m.tx=⟨0,0⟩)),S):=fun S=>JR m.tx ⟨0,0⟩ S
 have k0:decide (m.kind=0)=true:=decide_eq_true hk
 have k1:decide (m.kind=1)=false:=decide_eq_false (by omega)
 have k2:decide (m.kind=2)=false:=decide_eq_false (by omega)
 have k3:decide (m.kind=3)=false:=decide_eq_false (by omega)
 have k4:decide (m.kind=4)=false:=decide_eq_false (by omega)
 have k5:decide (m.kind=5)=false:=decide_eq_false (by omega)
 have k6:decide (m.kind=6)=false:=decide_eq_false (by omega)
 have ek:Zh m=(((decide (m.index=0) && decide (m.view=0)) && decide (m.value=0)) && qp m.tx):=by simp only [Zh,hk,aaw,vwB,Int.reduceEq,if_true,if_false,reduceIte,or_true,true_or,or_false,or_self]
 unfold vJ
 rw [ek]
 obtain ⟨c,hc0⟩:∃ b,(decide (m.frm < 0) || decide (6 < m.frm))=b:=⟨_,rfl⟩
 obtain ⟨d,hd⟩:∃ b,vY m=b:=⟨_,rfl⟩
 have hd2:=hd
 unfold vY at hd2
 simp only [k0,k1,k2,k3,k4,k5,k6,Bool.not_true,Bool.not_false,Bool.true_and,Bool.false_and,Bool.or_false,Bool.false_or] at hd2
 rw [hc0,hd]
 cases c
 ·
  cases d
  ·
   simp only [Bool.false_eq_true,if_false]
   conv at hr =>
    rhs
    rw [hTe]
    simp only [zk.code,zk.rs,zSs,reduceIte,Nat.reduceEqDiff,Int.reduceEq,Int.reduceLT,Int.reduceLE,xZ,zJ,zV,jc,jd,zT,jg,je,zZ,wK g0,yC g0,yH g0,yP g0,yj g0,yV g0,yZ g0,yU g0 hm.b.ne,wo,eT,c1,c2,c3,c4,zq (zJ _ _ _),zq (zV _ _ _),zq (jc _ _ _),zq (jd _ _ _),zq (zT _ _ _),zq (jg _ _ _),zq (je _ _ _),zq (zZ _ _ _),zq (wK g0),zq (yC g0),zq (yH g0),zq (yP g0),zq (yj g0),zq (yV g0),zq (yZ g0),zq (yU g0 hm.b.ne),zq (wo _),zq (eT _),zq (c1 _),zq (c2 _),zq (c3 _),zq (c4 _),gvw,k0,k1,k2,k3,k4,k5,k6,hc0,hd2,Bool.not_true,Bool.not_false,Bool.true_and,Bool.false_and,Bool.or_false,Bool.false_or]
   rw [hTe] at hr
   exact zk.runs hr (.inr rfl) hc rfl
  ·
   simp only [Bool.false_eq_true,if_false,if_true]
   conv at hr =>
    rhs
    rw [hTe]
    simp only [zk.code,zk.rs,zSs,reduceIte,Nat.reduceEqDiff,Int.reduceEq,Int.reduceLT,Int.reduceLE,xZ,zJ,zV,jc,jd,zT,jg,je,zZ,wK g0,yC g0,yH g0,yP g0,yj g0,yV g0,yZ g0,yU g0 hm.b.ne,wo,eT,c1,c2,c3,c4,zq (zJ _ _ _),zq (zV _ _ _),zq (jc _ _ _),zq (jd _ _ _),zq (zT _ _ _),zq (jg _ _ _),zq (je _ _ _),zq (zZ _ _ _),zq (wK g0),zq (yC g0),zq (yH g0),zq (yP g0),zq (yj g0),zq (yV g0),zq (yZ g0),zq (yU g0 hm.b.ne),zq (wo _),zq (eT _),zq (c1 _),zq (c2 _),zq (c3 _),zq (c4 _),gvw,k0,k1,k2,k3,k4,k5,k6,hc0,hd2,Bool.not_true,Bool.not_false,Bool.true_and,Bool.false_and,Bool.or_false,Bool.false_or]
   rw [hTe] at hr
   exact zk.runs hr (.inr rfl) hc rfl
 ·
  simp only [if_true]
  conv at hr =>
   rhs
   rw [hTe]
   simp only [zk.code,zk.rs,zSs,reduceIte,Nat.reduceEqDiff,Int.reduceEq,Int.reduceLT,Int.reduceLE,xZ,zJ,zV,jc,jd,zT,jg,je,zZ,wK g0,yC g0,yH g0,yP g0,yj g0,yV g0,yZ g0,yU g0 hm.b.ne,wo,eT,c1,c2,c3,c4,zq (zJ _ _ _),zq (zV _ _ _),zq (jc _ _ _),zq (jd _ _ _),zq (zT _ _ _),zq (jg _ _ _),zq (je _ _ _),zq (zZ _ _ _),zq (wK g0),zq (yC g0),zq (yH g0),zq (yP g0),zq (yj g0),zq (yV g0),zq (yZ g0),zq (yU g0 hm.b.ne),zq (wo _),zq (eT _),zq (c1 _),zq (c2 _),zq (c3 _),zq (c4 _),gvw,k0,k1,k2,k3,k4,k5,k6,hc0]
  rw [hTe] at hr
  exact zk.runs hr (.inr rfl) hc rfl
theorem zk.v1 {m:wU} (hm:m.Ok) (hk:m.kind=1) (S:zn):zW Try.prog O zk.id [mv m] S=some (.bool (vJ m),S):=by
 obtain ⟨T,hTe⟩:∃ T,T=(mv m::zh::zh::zh::zh::zh::zh::zh::zh::zh::zh::zh::zh::zh::zh::zh::zh::zh::zh::zh::zh::zh::zh::zh::zh::zh::zh::zh::zh::zh::zh::zh::zh::zh::zh::zh::zh::zh::zh::zh::zh::zh::zh::zh::zh::zh::zh::zh::zh::zh::zh::zh::zh::zh::zh::zh::zh::zh::zh::zh::zh::zh::zh::zh::zh::zh::zh::zh::zh::zh::zh::zh::zh::zh::zh::zh::zh::zh::zh::zh::zh::zh::zh::zh::zh::zh::zh::zh::zh::zh::zh::zh::zh::zh::zh::zh::zh::zh::zh::zh::zh::zh::zh::zh::zh::zh::zh::zh::zh::zh::zh::zh::zh::zh::zh::zh::zh::zh::zh::zh::zh::zh::zh::zh::zh::zh::zh::zh::zh::zh::zh::zh::zh::zh::zh::zh::zh::zh::zh::zh::zh::zh::zh::zh::zh::zh::zh::zh::zh::zh::zh::zh::zh::zh::zh::zh::zh::zh::zh::zh::zh::zh::zh::zh::zh::zh::zh::zh::zh::[]):=⟨_,rfl⟩
 have hr:zG Try.prog O false zk.code T zn.empty=zG Try.prog O false zk.code T zn.empty:=rfl
 have g0:=kR m
 have c1:=fun S=>jF.v hm.b S
 have c2:=fun S=>jE.v hm.value.2 S
 have c3:=fun S=>jv.v m.tx S
 have c4:=fun S=>zC.v hm.b S
 have hc:[mv m].all (jP 16)=true:=all1 (yE hm.b.okl.le)
 have eT:∀ S,wB Try.prog .neq 43 (tv m.tx) (.agg [Value.int .i64 0,.int .i64 0].toArray) S=some (.bool (!decide (m.tx=⟨0,0⟩)),S):=fun S=>JR m.tx ⟨0,0⟩ S
 have k0:decide (m.kind=0)=false:=decide_eq_false (by omega)
 have k1:decide (m.kind=1)=true:=decide_eq_true hk
 have k2:decide (m.kind=2)=false:=decide_eq_false (by omega)
 have k3:decide (m.kind=3)=false:=decide_eq_false (by omega)
 have k4:decide (m.kind=4)=false:=decide_eq_false (by omega)
 have k5:decide (m.kind=5)=false:=decide_eq_false (by omega)
 have k6:decide (m.kind=6)=false:=decide_eq_false (by omega)
 have ek:Zh m=(((decide (m.index=0) && decide (m.view=0)) && decide (m.value=0)) && jU m.b):=by simp only [Zh,hk,aaw,vwB,Int.reduceEq,if_true,if_false,reduceIte,or_true,true_or,or_false,or_self]
 unfold vJ
 rw [ek]
 obtain ⟨c,hc0⟩:∃ b,(decide (m.frm < 0) || decide (6 < m.frm))=b:=⟨_,rfl⟩
 obtain ⟨d,hd⟩:∃ b,vY m=b:=⟨_,rfl⟩
 have hd2:=hd
 unfold vY at hd2
 simp only [k0,k1,k2,k3,k4,k5,k6,Bool.not_true,Bool.not_false,Bool.true_and,Bool.false_and,Bool.or_false,Bool.false_or] at hd2
 rw [hc0,hd]
 cases c
 ·
  cases d
  ·
   simp only [Bool.false_eq_true,if_false]
   conv at hr =>
    rhs
    rw [hTe]
    simp only [zk.code,zk.rs,zSs,reduceIte,Nat.reduceEqDiff,Int.reduceEq,Int.reduceLT,Int.reduceLE,xZ,zJ,zV,jc,jd,zT,jg,je,zZ,wK g0,yC g0,yH g0,yP g0,yj g0,yV g0,yZ g0,yU g0 hm.b.ne,wo,eT,c1,c2,c3,c4,zq (zJ _ _ _),zq (zV _ _ _),zq (jc _ _ _),zq (jd _ _ _),zq (zT _ _ _),zq (jg _ _ _),zq (je _ _ _),zq (zZ _ _ _),zq (wK g0),zq (yC g0),zq (yH g0),zq (yP g0),zq (yj g0),zq (yV g0),zq (yZ g0),zq (yU g0 hm.b.ne),zq (wo _),zq (eT _),zq (c1 _),zq (c2 _),zq (c3 _),zq (c4 _),gvw,k0,k1,k2,k3,k4,k5,k6,hc0,hd2,Bool.not_true,Bool.not_false,Bool.true_and,Bool.false_and,Bool.or_false,Bool.false_or]
   rw [hTe] at hr
   exact zk.runs hr (.inr rfl) hc rfl
  ·
   simp only [Bool.false_eq_true,if_false,if_true]
   conv at hr =>
    rhs
    rw [hTe]
    simp only [zk.code,zk.rs,zSs,reduceIte,Nat.reduceEqDiff,Int.reduceEq,Int.reduceLT,Int.reduceLE,xZ,zJ,zV,jc,jd,zT,jg,je,zZ,wK g0,yC g0,yH g0,yP g0,yj g0,yV g0,yZ g0,yU g0 hm.b.ne,wo,eT,c1,c2,c3,c4,zq (zJ _ _ _),zq (zV _ _ _),zq (jc _ _ _),zq (jd _ _ _),zq (zT _ _ _),zq (jg _ _ _),zq (je _ _ _),zq (zZ _ _ _),zq (wK g0),zq (yC g0),zq (yH g0),zq (yP g0),zq (yj g0),zq (yV g0),zq (yZ g0),zq (yU g0 hm.b.ne),zq (wo _),zq (eT _),zq (c1 _),zq (c2 _),zq (c3 _),zq (c4 _),gvw,k0,k1,k2,k3,k4,k5,k6,hc0,hd2,Bool.not_true,Bool.not_false,Bool.true_and,Bool.false_and,Bool.or_false,Bool.false_or]
   rw [hTe] at hr
   exact zk.runs hr (.inr rfl) hc rfl
 ·
  simp only [if_true]
  conv at hr =>
   rhs
   rw [hTe]
   simp only [zk.code,zk.rs,zSs,reduceIte,Nat.reduceEqDiff,Int.reduceEq,Int.reduceLT,Int.reduceLE,xZ,zJ,zV,jc,jd,zT,jg,je,zZ,wK g0,yC g0,yH g0,yP g0,yj g0,yV g0,yZ g0,yU g0 hm.b.ne,wo,eT,c1,c2,c3,c4,zq (zJ _ _ _),zq (zV _ _ _),zq (jc _ _ _),zq (jd _ _ _),zq (zT _ _ _),zq (jg _ _ _),zq (je _ _ _),zq (zZ _ _ _),zq (wK g0),zq (yC g0),zq (yH g0),zq (yP g0),zq (yj g0),zq (yV g0),zq (yZ g0),zq (yU g0 hm.b.ne),zq (wo _),zq (eT _),zq (c1 _),zq (c2 _),zq (c3 _),zq (c4 _),gvw,k0,k1,k2,k3,k4,k5,k6,hc0]
  rw [hTe] at hr
  exact zk.runs hr (.inr rfl) hc rfl
theorem zk.v2 {m:wU} (hm:m.Ok) (hk:m.kind=2) (S:zn):zW Try.prog O zk.id [mv m] S=some (.bool (vJ m),S):=by
 obtain ⟨T,hTe⟩:∃ T,T=(mv m::zh::zh::zh::zh::zh::zh::zh::zh::zh::zh::zh::zh::zh::zh::zh::zh::zh::zh::zh::zh::zh::zh::zh::zh::zh::zh::zh::zh::zh::zh::zh::zh::zh::zh::zh::zh::zh::zh::zh::zh::zh::zh::zh::zh::zh::zh::zh::zh::zh::zh::zh::zh::zh::zh::zh::zh::zh::zh::zh::zh::zh::zh::zh::zh::zh::zh::zh::zh::zh::zh::zh::zh::zh::zh::zh::zh::zh::zh::zh::zh::zh::zh::zh::zh::zh::zh::zh::zh::zh::zh::zh::zh::zh::zh::zh::zh::zh::zh::zh::zh::zh::zh::zh::zh::zh::zh::zh::zh::zh::zh::zh::zh::zh::zh::zh::zh::zh::zh::zh::zh::zh::zh::zh::zh::zh::zh::zh::zh::zh::zh::zh::zh::zh::zh::zh::zh::zh::zh::zh::zh::zh::zh::zh::zh::zh::zh::zh::zh::zh::zh::zh::zh::zh::zh::zh::zh::zh::zh::zh::zh::zh::zh::zh::zh::zh::zh::zh::zh::[]):=⟨_,rfl⟩
 have hr:zG Try.prog O false zk.code T zn.empty=zG Try.prog O false zk.code T zn.empty:=rfl
 have g0:=kR m
 have c1:=fun S=>jF.v hm.b S
 have c2:=fun S=>jE.v hm.value.2 S
 have c3:=fun S=>jv.v m.tx S
 have c4:=fun S=>zC.v hm.b S
 have hc:[mv m].all (jP 16)=true:=all1 (yE hm.b.okl.le)
 have eT:∀ S,wB Try.prog .neq 43 (tv m.tx) (.agg [Value.int .i64 0,.int .i64 0].toArray) S=some (.bool (!decide (m.tx=⟨0,0⟩)),S):=fun S=>JR m.tx ⟨0,0⟩ S
 have k0:decide (m.kind=0)=false:=decide_eq_false (by omega)
 have k1:decide (m.kind=1)=false:=decide_eq_false (by omega)
 have k2:decide (m.kind=2)=true:=decide_eq_true hk
 have k3:decide (m.kind=3)=false:=decide_eq_false (by omega)
 have k4:decide (m.kind=4)=false:=decide_eq_false (by omega)
 have k5:decide (m.kind=5)=false:=decide_eq_false (by omega)
 have k6:decide (m.kind=6)=false:=decide_eq_false (by omega)
 have ek:Zh m=((decide (m.index=0) && decide (m.view=0)) && nameB m.value):=by simp only [Zh,hk,aaw,vwB,Int.reduceEq,if_true,if_false,reduceIte,or_true,true_or,or_false,or_self]
 unfold vJ
 rw [ek]
 obtain ⟨c,hc0⟩:∃ b,(decide (m.frm < 0) || decide (6 < m.frm))=b:=⟨_,rfl⟩
 obtain ⟨d,hd⟩:∃ b,vY m=b:=⟨_,rfl⟩
 have hd2:=hd
 unfold vY at hd2
 simp only [k0,k1,k2,k3,k4,k5,k6,Bool.not_true,Bool.not_false,Bool.true_and,Bool.false_and,Bool.or_false,Bool.false_or] at hd2
 rw [hc0,hd]
 cases c
 ·
  cases d
  ·
   simp only [Bool.false_eq_true,if_false]
   conv at hr =>
    rhs
    rw [hTe]
    simp only [zk.code,zk.rs,zSs,reduceIte,Nat.reduceEqDiff,Int.reduceEq,Int.reduceLT,Int.reduceLE,xZ,zJ,zV,jc,jd,zT,jg,je,zZ,wK g0,yC g0,yH g0,yP g0,yj g0,yV g0,yZ g0,yU g0 hm.b.ne,wo,eT,c1,c2,c3,c4,zq (zJ _ _ _),zq (zV _ _ _),zq (jc _ _ _),zq (jd _ _ _),zq (zT _ _ _),zq (jg _ _ _),zq (je _ _ _),zq (zZ _ _ _),zq (wK g0),zq (yC g0),zq (yH g0),zq (yP g0),zq (yj g0),zq (yV g0),zq (yZ g0),zq (yU g0 hm.b.ne),zq (wo _),zq (eT _),zq (c1 _),zq (c2 _),zq (c3 _),zq (c4 _),gvw,k0,k1,k2,k3,k4,k5,k6,hc0,hd2,Bool.not_true,Bool.not_false,Bool.true_and,Bool.false_and,Bool.or_false,Bool.false_or]
   rw [hTe] at hr
   exact zk.runs hr (.inr rfl) hc rfl
  ·
   simp only [Bool.false_eq_true,if_false,if_true]
   conv at hr =>
    rhs
    rw [hTe]
    simp only [zk.code,zk.rs,zSs,reduceIte,Nat.reduceEqDiff,Int.reduceEq,Int.reduceLT,Int.reduceLE,xZ,zJ,zV,jc,jd,zT,jg,je,zZ,wK g0,yC g0,yH g0,yP g0,yj g0,yV g0,yZ g0,yU g0 hm.b.ne,wo,eT,c1,c2,c3,c4,zq (zJ _ _ _),zq (zV _ _ _),zq (jc _ _ _),zq (jd _ _ _),zq (zT _ _ _),zq (jg _ _ _),zq (je _ _ _),zq (zZ _ _ _),zq (wK g0),zq (yC g0),zq (yH g0),zq (yP g0),zq (yj g0),zq (yV g0),zq (yZ g0),zq (yU g0 hm.b.ne),zq (wo _),zq (eT _),zq (c1 _),zq (c2 _),zq (c3 _),zq (c4 _),gvw,k0,k1,k2,k3,k4,k5,k6,hc0,hd2,Bool.not_true,Bool.not_false,Bool.true_and,Bool.false_and,Bool.or_false,Bool.false_or]
   rw [hTe] at hr
   exact zk.runs hr (.inr rfl) hc rfl
 ·
  simp only [if_true]
  conv at hr =>
   rhs
   rw [hTe]
   simp only [zk.code,zk.rs,zSs,reduceIte,Nat.reduceEqDiff,Int.reduceEq,Int.reduceLT,Int.reduceLE,xZ,zJ,zV,jc,jd,zT,jg,je,zZ,wK g0,yC g0,yH g0,yP g0,yj g0,yV g0,yZ g0,yU g0 hm.b.ne,wo,eT,c1,c2,c3,c4,zq (zJ _ _ _),zq (zV _ _ _),zq (jc _ _ _),zq (jd _ _ _),zq (zT _ _ _),zq (jg _ _ _),zq (je _ _ _),zq (zZ _ _ _),zq (wK g0),zq (yC g0),zq (yH g0),zq (yP g0),zq (yj g0),zq (yV g0),zq (yZ g0),zq (yU g0 hm.b.ne),zq (wo _),zq (eT _),zq (c1 _),zq (c2 _),zq (c3 _),zq (c4 _),gvw,k0,k1,k2,k3,k4,k5,k6,hc0]
  rw [hTe] at hr
  exact zk.runs hr (.inr rfl) hc rfl
theorem zk.v3 {m:wU} (hm:m.Ok) (hk:m.kind=3) (S:zn):zW Try.prog O zk.id [mv m] S=some (.bool (vJ m),S):=by
 obtain ⟨T,hTe⟩:∃ T,T=(mv m::zh::zh::zh::zh::zh::zh::zh::zh::zh::zh::zh::zh::zh::zh::zh::zh::zh::zh::zh::zh::zh::zh::zh::zh::zh::zh::zh::zh::zh::zh::zh::zh::zh::zh::zh::zh::zh::zh::zh::zh::zh::zh::zh::zh::zh::zh::zh::zh::zh::zh::zh::zh::zh::zh::zh::zh::zh::zh::zh::zh::zh::zh::zh::zh::zh::zh::zh::zh::zh::zh::zh::zh::zh::zh::zh::zh::zh::zh::zh::zh::zh::zh::zh::zh::zh::zh::zh::zh::zh::zh::zh::zh::zh::zh::zh::zh::zh::zh::zh::zh::zh::zh::zh::zh::zh::zh::zh::zh::zh::zh::zh::zh::zh::zh::zh::zh::zh::zh::zh::zh::zh::zh::zh::zh::zh::zh::zh::zh::zh::zh::zh::zh::zh::zh::zh::zh::zh::zh::zh::zh::zh::zh::zh::zh::zh::zh::zh::zh::zh::zh::zh::zh::zh::zh::zh::zh::zh::zh::zh::zh::zh::zh::zh::zh::zh::zh::zh::zh::[]):=⟨_,rfl⟩
 have hr:zG Try.prog O false zk.code T zn.empty=zG Try.prog O false zk.code T zn.empty:=rfl
 have g0:=kR m
 have c1:=fun S=>jF.v hm.b S
 have c2:=fun S=>jE.v hm.value.2 S
 have c3:=fun S=>jv.v m.tx S
 have c4:=fun S=>zC.v hm.b S
 have hc:[mv m].all (jP 16)=true:=all1 (yE hm.b.okl.le)
 have eT:∀ S,wB Try.prog .neq 43 (tv m.tx) (.agg [Value.int .i64 0,.int .i64 0].toArray) S=some (.bool (!decide (m.tx=⟨0,0⟩)),S):=fun S=>JR m.tx ⟨0,0⟩ S
 have k0:decide (m.kind=0)=false:=decide_eq_false (by omega)
 have k1:decide (m.kind=1)=false:=decide_eq_false (by omega)
 have k2:decide (m.kind=2)=false:=decide_eq_false (by omega)
 have k3:decide (m.kind=3)=true:=decide_eq_true hk
 have k4:decide (m.kind=4)=false:=decide_eq_false (by omega)
 have k5:decide (m.kind=5)=false:=decide_eq_false (by omega)
 have k6:decide (m.kind=6)=false:=decide_eq_false (by omega)
 have ek:Zh m=(((((decide (0≤m.index) && decide (m.index≤1000)) && (decide (0≤m.view) && decide (m.view≤1000))) && nameB m.value) && decide (-1≤m.prep)) && decide (m.prep < m.view)):=by simp only [Zh,hk,aaw,vwB,Int.reduceEq,if_true,if_false,reduceIte,or_true,true_or,or_false,or_self]
 unfold vJ
 rw [ek]
 obtain ⟨c,hc0⟩:∃ b,(decide (m.frm < 0) || decide (6 < m.frm))=b:=⟨_,rfl⟩
 obtain ⟨d,hd⟩:∃ b,vY m=b:=⟨_,rfl⟩
 have hd2:=hd
 unfold vY at hd2
 simp only [k0,k1,k2,k3,k4,k5,k6,Bool.not_true,Bool.not_false,Bool.true_and,Bool.false_and,Bool.or_false,Bool.false_or] at hd2
 rw [hc0,hd]
 cases c
 ·
  cases d
  ·
   simp only [Bool.false_eq_true,if_false]
   conv at hr =>
    rhs
    rw [hTe]
    simp only [zk.code,zk.rs,zSs,reduceIte,Nat.reduceEqDiff,Int.reduceEq,Int.reduceLT,Int.reduceLE,xZ,zJ,zV,jc,jd,zT,jg,je,zZ,wK g0,yC g0,yH g0,yP g0,yj g0,yV g0,yZ g0,yU g0 hm.b.ne,wo,eT,c1,c2,c3,c4,zq (zJ _ _ _),zq (zV _ _ _),zq (jc _ _ _),zq (jd _ _ _),zq (zT _ _ _),zq (jg _ _ _),zq (je _ _ _),zq (zZ _ _ _),zq (wK g0),zq (yC g0),zq (yH g0),zq (yP g0),zq (yj g0),zq (yV g0),zq (yZ g0),zq (yU g0 hm.b.ne),zq (wo _),zq (eT _),zq (c1 _),zq (c2 _),zq (c3 _),zq (c4 _),gvw,k0,k1,k2,k3,k4,k5,k6,hc0,hd2,Bool.not_true,Bool.not_false,Bool.true_and,Bool.false_and,Bool.or_false,Bool.false_or]
   rw [hTe] at hr
   exact zk.runs hr (.inr rfl) hc rfl
  ·
   simp only [Bool.false_eq_true,if_false,if_true]
   conv at hr =>
    rhs
    rw [hTe]
    simp only [zk.code,zk.rs,zSs,reduceIte,Nat.reduceEqDiff,Int.reduceEq,Int.reduceLT,Int.reduceLE,xZ,zJ,zV,jc,jd,zT,jg,je,zZ,wK g0,yC g0,yH g0,yP g0,yj g0,yV g0,yZ g0,yU g0 hm.b.ne,wo,eT,c1,c2,c3,c4,zq (zJ _ _ _),zq (zV _ _ _),zq (jc _ _ _),zq (jd _ _ _),zq (zT _ _ _),zq (jg _ _ _),zq (je _ _ _),zq (zZ _ _ _),zq (wK g0),zq (yC g0),zq (yH g0),zq (yP g0),zq (yj g0),zq (yV g0),zq (yZ g0),zq (yU g0 hm.b.ne),zq (wo _),zq (eT _),zq (c1 _),zq (c2 _),zq (c3 _),zq (c4 _),gvw,k0,k1,k2,k3,k4,k5,k6,hc0,hd2,Bool.not_true,Bool.not_false,Bool.true_and,Bool.false_and,Bool.or_false,Bool.false_or]
   rw [hTe] at hr
   exact zk.runs hr (.inr rfl) hc rfl
 ·
  simp only [if_true]
  conv at hr =>
   rhs
   rw [hTe]
   simp only [zk.code,zk.rs,zSs,reduceIte,Nat.reduceEqDiff,Int.reduceEq,Int.reduceLT,Int.reduceLE,xZ,zJ,zV,jc,jd,zT,jg,je,zZ,wK g0,yC g0,yH g0,yP g0,yj g0,yV g0,yZ g0,yU g0 hm.b.ne,wo,eT,c1,c2,c3,c4,zq (zJ _ _ _),zq (zV _ _ _),zq (jc _ _ _),zq (jd _ _ _),zq (zT _ _ _),zq (jg _ _ _),zq (je _ _ _),zq (zZ _ _ _),zq (wK g0),zq (yC g0),zq (yH g0),zq (yP g0),zq (yj g0),zq (yV g0),zq (yZ g0),zq (yU g0 hm.b.ne),zq (wo _),zq (eT _),zq (c1 _),zq (c2 _),zq (c3 _),zq (c4 _),gvw,k0,k1,k2,k3,k4,k5,k6,hc0]
  rw [hTe] at hr
  exact zk.runs hr (.inr rfl) hc rfl
theorem zk.v4 {m:wU} (hm:m.Ok) (hk:m.kind=4) (S:zn):zW Try.prog O zk.id [mv m] S=some (.bool (vJ m),S):=by
 obtain ⟨T,hTe⟩:∃ T,T=(mv m::zh::zh::zh::zh::zh::zh::zh::zh::zh::zh::zh::zh::zh::zh::zh::zh::zh::zh::zh::zh::zh::zh::zh::zh::zh::zh::zh::zh::zh::zh::zh::zh::zh::zh::zh::zh::zh::zh::zh::zh::zh::zh::zh::zh::zh::zh::zh::zh::zh::zh::zh::zh::zh::zh::zh::zh::zh::zh::zh::zh::zh::zh::zh::zh::zh::zh::zh::zh::zh::zh::zh::zh::zh::zh::zh::zh::zh::zh::zh::zh::zh::zh::zh::zh::zh::zh::zh::zh::zh::zh::zh::zh::zh::zh::zh::zh::zh::zh::zh::zh::zh::zh::zh::zh::zh::zh::zh::zh::zh::zh::zh::zh::zh::zh::zh::zh::zh::zh::zh::zh::zh::zh::zh::zh::zh::zh::zh::zh::zh::zh::zh::zh::zh::zh::zh::zh::zh::zh::zh::zh::zh::zh::zh::zh::zh::zh::zh::zh::zh::zh::zh::zh::zh::zh::zh::zh::zh::zh::zh::zh::zh::zh::zh::zh::zh::zh::zh::zh::[]):=⟨_,rfl⟩
 have hr:zG Try.prog O false zk.code T zn.empty=zG Try.prog O false zk.code T zn.empty:=rfl
 have g0:=kR m
 have c1:=fun S=>jF.v hm.b S
 have c2:=fun S=>jE.v hm.value.2 S
 have c3:=fun S=>jv.v m.tx S
 have c4:=fun S=>zC.v hm.b S
 have hc:[mv m].all (jP 16)=true:=all1 (yE hm.b.okl.le)
 have eT:∀ S,wB Try.prog .neq 43 (tv m.tx) (.agg [Value.int .i64 0,.int .i64 0].toArray) S=some (.bool (!decide (m.tx=⟨0,0⟩)),S):=fun S=>JR m.tx ⟨0,0⟩ S
 have k0:decide (m.kind=0)=false:=decide_eq_false (by omega)
 have k1:decide (m.kind=1)=false:=decide_eq_false (by omega)
 have k2:decide (m.kind=2)=false:=decide_eq_false (by omega)
 have k3:decide (m.kind=3)=false:=decide_eq_false (by omega)
 have k4:decide (m.kind=4)=true:=decide_eq_true hk
 have k5:decide (m.kind=5)=false:=decide_eq_false (by omega)
 have k6:decide (m.kind=6)=false:=decide_eq_false (by omega)
 have ek:Zh m=(((decide (0≤m.index) && decide (m.index≤1000)) && (decide (0≤m.view) && decide (m.view≤1000))) && (decide (m.value=-1) || nameB m.value)):=by simp only [Zh,hk,aaw,vwB,Int.reduceEq,if_true,if_false,reduceIte,or_true,true_or,or_false,or_self]
 unfold vJ
 rw [ek]
 obtain ⟨c,hc0⟩:∃ b,(decide (m.frm < 0) || decide (6 < m.frm))=b:=⟨_,rfl⟩
 obtain ⟨d,hd⟩:∃ b,vY m=b:=⟨_,rfl⟩
 have hd2:=hd
 unfold vY at hd2
 simp only [k0,k1,k2,k3,k4,k5,k6,Bool.not_true,Bool.not_false,Bool.true_and,Bool.false_and,Bool.or_false,Bool.false_or] at hd2
 rw [hc0,hd]
 cases c
 ·
  cases d
  ·
   simp only [Bool.false_eq_true,if_false]
   conv at hr =>
    rhs
    rw [hTe]
    simp only [zk.code,zk.rs,zSs,reduceIte,Nat.reduceEqDiff,Int.reduceEq,Int.reduceLT,Int.reduceLE,xZ,zJ,zV,jc,jd,zT,jg,je,zZ,wK g0,yC g0,yH g0,yP g0,yj g0,yV g0,yZ g0,yU g0 hm.b.ne,wo,eT,c1,c2,c3,c4,zq (zJ _ _ _),zq (zV _ _ _),zq (jc _ _ _),zq (jd _ _ _),zq (zT _ _ _),zq (jg _ _ _),zq (je _ _ _),zq (zZ _ _ _),zq (wK g0),zq (yC g0),zq (yH g0),zq (yP g0),zq (yj g0),zq (yV g0),zq (yZ g0),zq (yU g0 hm.b.ne),zq (wo _),zq (eT _),zq (c1 _),zq (c2 _),zq (c3 _),zq (c4 _),gvw,k0,k1,k2,k3,k4,k5,k6,hc0,hd2,Bool.not_true,Bool.not_false,Bool.true_and,Bool.false_and,Bool.or_false,Bool.false_or]
   rw [hTe] at hr
   exact zk.runs hr (.inr rfl) hc rfl
  ·
   simp only [Bool.false_eq_true,if_false,if_true]
   conv at hr =>
    rhs
    rw [hTe]
    simp only [zk.code,zk.rs,zSs,reduceIte,Nat.reduceEqDiff,Int.reduceEq,Int.reduceLT,Int.reduceLE,xZ,zJ,zV,jc,jd,zT,jg,je,zZ,wK g0,yC g0,yH g0,yP g0,yj g0,yV g0,yZ g0,yU g0 hm.b.ne,wo,eT,c1,c2,c3,c4,zq (zJ _ _ _),zq (zV _ _ _),zq (jc _ _ _),zq (jd _ _ _),zq (zT _ _ _),zq (jg _ _ _),zq (je _ _ _),zq (zZ _ _ _),zq (wK g0),zq (yC g0),zq (yH g0),zq (yP g0),zq (yj g0),zq (yV g0),zq (yZ g0),zq (yU g0 hm.b.ne),zq (wo _),zq (eT _),zq (c1 _),zq (c2 _),zq (c3 _),zq (c4 _),gvw,k0,k1,k2,k3,k4,k5,k6,hc0,hd2,Bool.not_true,Bool.not_false,Bool.true_and,Bool.false_and,Bool.or_false,Bool.false_or]
   rw [hTe] at hr
   exact zk.runs hr (.inr rfl) hc rfl
 ·
  simp only [if_true]
  conv at hr =>
   rhs
   rw [hTe]
   simp only [zk.code,zk.rs,zSs,reduceIte,Nat.reduceEqDiff,Int.reduceEq,Int.reduceLT,Int.reduceLE,xZ,zJ,zV,jc,jd,zT,jg,je,zZ,wK g0,yC g0,yH g0,yP g0,yj g0,yV g0,yZ g0,yU g0 hm.b.ne,wo,eT,c1,c2,c3,c4,zq (zJ _ _ _),zq (zV _ _ _),zq (jc _ _ _),zq (jd _ _ _),zq (zT _ _ _),zq (jg _ _ _),zq (je _ _ _),zq (zZ _ _ _),zq (wK g0),zq (yC g0),zq (yH g0),zq (yP g0),zq (yj g0),zq (yV g0),zq (yZ g0),zq (yU g0 hm.b.ne),zq (wo _),zq (eT _),zq (c1 _),zq (c2 _),zq (c3 _),zq (c4 _),gvw,k0,k1,k2,k3,k4,k5,k6,hc0]
  rw [hTe] at hr
  exact zk.runs hr (.inr rfl) hc rfl
theorem zk.v5 {m:wU} (hm:m.Ok) (hk:m.kind=5) (S:zn):zW Try.prog O zk.id [mv m] S=some (.bool (vJ m),S):=by
 obtain ⟨T,hTe⟩:∃ T,T=(mv m::zh::zh::zh::zh::zh::zh::zh::zh::zh::zh::zh::zh::zh::zh::zh::zh::zh::zh::zh::zh::zh::zh::zh::zh::zh::zh::zh::zh::zh::zh::zh::zh::zh::zh::zh::zh::zh::zh::zh::zh::zh::zh::zh::zh::zh::zh::zh::zh::zh::zh::zh::zh::zh::zh::zh::zh::zh::zh::zh::zh::zh::zh::zh::zh::zh::zh::zh::zh::zh::zh::zh::zh::zh::zh::zh::zh::zh::zh::zh::zh::zh::zh::zh::zh::zh::zh::zh::zh::zh::zh::zh::zh::zh::zh::zh::zh::zh::zh::zh::zh::zh::zh::zh::zh::zh::zh::zh::zh::zh::zh::zh::zh::zh::zh::zh::zh::zh::zh::zh::zh::zh::zh::zh::zh::zh::zh::zh::zh::zh::zh::zh::zh::zh::zh::zh::zh::zh::zh::zh::zh::zh::zh::zh::zh::zh::zh::zh::zh::zh::zh::zh::zh::zh::zh::zh::zh::zh::zh::zh::zh::zh::zh::zh::zh::zh::zh::zh::zh::[]):=⟨_,rfl⟩
 have hr:zG Try.prog O false zk.code T zn.empty=zG Try.prog O false zk.code T zn.empty:=rfl
 have g0:=kR m
 have c1:=fun S=>jF.v hm.b S
 have c2:=fun S=>jE.v hm.value.2 S
 have c3:=fun S=>jv.v m.tx S
 have c4:=fun S=>zC.v hm.b S
 have hc:[mv m].all (jP 16)=true:=all1 (yE hm.b.okl.le)
 have eT:∀ S,wB Try.prog .neq 43 (tv m.tx) (.agg [Value.int .i64 0,.int .i64 0].toArray) S=some (.bool (!decide (m.tx=⟨0,0⟩)),S):=fun S=>JR m.tx ⟨0,0⟩ S
 have k0:decide (m.kind=0)=false:=decide_eq_false (by omega)
 have k1:decide (m.kind=1)=false:=decide_eq_false (by omega)
 have k2:decide (m.kind=2)=false:=decide_eq_false (by omega)
 have k3:decide (m.kind=3)=false:=decide_eq_false (by omega)
 have k4:decide (m.kind=4)=false:=decide_eq_false (by omega)
 have k5:decide (m.kind=5)=true:=decide_eq_true hk
 have k6:decide (m.kind=6)=false:=decide_eq_false (by omega)
 have ek:Zh m=(((decide (0≤m.index) && decide (m.index≤1000)) && (decide (0≤m.view) && decide (m.view≤1000))) && (decide (m.value=-1) || nameB m.value)):=by simp only [Zh,hk,aaw,vwB,Int.reduceEq,if_true,if_false,reduceIte,or_true,true_or,or_false,or_self]
 unfold vJ
 rw [ek]
 obtain ⟨c,hc0⟩:∃ b,(decide (m.frm < 0) || decide (6 < m.frm))=b:=⟨_,rfl⟩
 obtain ⟨d,hd⟩:∃ b,vY m=b:=⟨_,rfl⟩
 have hd2:=hd
 unfold vY at hd2
 simp only [k0,k1,k2,k3,k4,k5,k6,Bool.not_true,Bool.not_false,Bool.true_and,Bool.false_and,Bool.or_false,Bool.false_or] at hd2
 rw [hc0,hd]
 cases c
 ·
  cases d
  ·
   simp only [Bool.false_eq_true,if_false]
   conv at hr =>
    rhs
    rw [hTe]
    simp only [zk.code,zk.rs,zSs,reduceIte,Nat.reduceEqDiff,Int.reduceEq,Int.reduceLT,Int.reduceLE,xZ,zJ,zV,jc,jd,zT,jg,je,zZ,wK g0,yC g0,yH g0,yP g0,yj g0,yV g0,yZ g0,yU g0 hm.b.ne,wo,eT,c1,c2,c3,c4,zq (zJ _ _ _),zq (zV _ _ _),zq (jc _ _ _),zq (jd _ _ _),zq (zT _ _ _),zq (jg _ _ _),zq (je _ _ _),zq (zZ _ _ _),zq (wK g0),zq (yC g0),zq (yH g0),zq (yP g0),zq (yj g0),zq (yV g0),zq (yZ g0),zq (yU g0 hm.b.ne),zq (wo _),zq (eT _),zq (c1 _),zq (c2 _),zq (c3 _),zq (c4 _),gvw,k0,k1,k2,k3,k4,k5,k6,hc0,hd2,Bool.not_true,Bool.not_false,Bool.true_and,Bool.false_and,Bool.or_false,Bool.false_or]
   rw [hTe] at hr
   exact zk.runs hr (.inr rfl) hc rfl
  ·
   simp only [Bool.false_eq_true,if_false,if_true]
   conv at hr =>
    rhs
    rw [hTe]
    simp only [zk.code,zk.rs,zSs,reduceIte,Nat.reduceEqDiff,Int.reduceEq,Int.reduceLT,Int.reduceLE,xZ,zJ,zV,jc,jd,zT,jg,je,zZ,wK g0,yC g0,yH g0,yP g0,yj g0,yV g0,yZ g0,yU g0 hm.b.ne,wo,eT,c1,c2,c3,c4,zq (zJ _ _ _),zq (zV _ _ _),zq (jc _ _ _),zq (jd _ _ _),zq (zT _ _ _),zq (jg _ _ _),zq (je _ _ _),zq (zZ _ _ _),zq (wK g0),zq (yC g0),zq (yH g0),zq (yP g0),zq (yj g0),zq (yV g0),zq (yZ g0),zq (yU g0 hm.b.ne),zq (wo _),zq (eT _),zq (c1 _),zq (c2 _),zq (c3 _),zq (c4 _),gvw,k0,k1,k2,k3,k4,k5,k6,hc0,hd2,Bool.not_true,Bool.not_false,Bool.true_and,Bool.false_and,Bool.or_false,Bool.false_or]
   rw [hTe] at hr
   exact zk.runs hr (.inr rfl) hc rfl
 ·
  simp only [if_true]
  conv at hr =>
   rhs
   rw [hTe]
   simp only [zk.code,zk.rs,zSs,reduceIte,Nat.reduceEqDiff,Int.reduceEq,Int.reduceLT,Int.reduceLE,xZ,zJ,zV,jc,jd,zT,jg,je,zZ,wK g0,yC g0,yH g0,yP g0,yj g0,yV g0,yZ g0,yU g0 hm.b.ne,wo,eT,c1,c2,c3,c4,zq (zJ _ _ _),zq (zV _ _ _),zq (jc _ _ _),zq (jd _ _ _),zq (zT _ _ _),zq (jg _ _ _),zq (je _ _ _),zq (zZ _ _ _),zq (wK g0),zq (yC g0),zq (yH g0),zq (yP g0),zq (yj g0),zq (yV g0),zq (yZ g0),zq (yU g0 hm.b.ne),zq (wo _),zq (eT _),zq (c1 _),zq (c2 _),zq (c3 _),zq (c4 _),gvw,k0,k1,k2,k3,k4,k5,k6,hc0]
  rw [hTe] at hr
  exact zk.runs hr (.inr rfl) hc rfl
theorem zk.v6 {m:wU} (hm:m.Ok) (hk:m.kind=6) (S:zn):zW Try.prog O zk.id [mv m] S=some (.bool (vJ m),S):=by
 obtain ⟨T,hTe⟩:∃ T,T=(mv m::zh::zh::zh::zh::zh::zh::zh::zh::zh::zh::zh::zh::zh::zh::zh::zh::zh::zh::zh::zh::zh::zh::zh::zh::zh::zh::zh::zh::zh::zh::zh::zh::zh::zh::zh::zh::zh::zh::zh::zh::zh::zh::zh::zh::zh::zh::zh::zh::zh::zh::zh::zh::zh::zh::zh::zh::zh::zh::zh::zh::zh::zh::zh::zh::zh::zh::zh::zh::zh::zh::zh::zh::zh::zh::zh::zh::zh::zh::zh::zh::zh::zh::zh::zh::zh::zh::zh::zh::zh::zh::zh::zh::zh::zh::zh::zh::zh::zh::zh::zh::zh::zh::zh::zh::zh::zh::zh::zh::zh::zh::zh::zh::zh::zh::zh::zh::zh::zh::zh::zh::zh::zh::zh::zh::zh::zh::zh::zh::zh::zh::zh::zh::zh::zh::zh::zh::zh::zh::zh::zh::zh::zh::zh::zh::zh::zh::zh::zh::zh::zh::zh::zh::zh::zh::zh::zh::zh::zh::zh::zh::zh::zh::zh::zh::zh::zh::zh::zh::[]):=⟨_,rfl⟩
 have hr:zG Try.prog O false zk.code T zn.empty=zG Try.prog O false zk.code T zn.empty:=rfl
 have g0:=kR m
 have c1:=fun S=>jF.v hm.b S
 have c2:=fun S=>jE.v hm.value.2 S
 have c3:=fun S=>jv.v m.tx S
 have c4:=fun S=>zC.v hm.b S
 have hc:[mv m].all (jP 16)=true:=all1 (yE hm.b.okl.le)
 have eT:∀ S,wB Try.prog .neq 43 (tv m.tx) (.agg [Value.int .i64 0,.int .i64 0].toArray) S=some (.bool (!decide (m.tx=⟨0,0⟩)),S):=fun S=>JR m.tx ⟨0,0⟩ S
 have k0:decide (m.kind=0)=false:=decide_eq_false (by omega)
 have k1:decide (m.kind=1)=false:=decide_eq_false (by omega)
 have k2:decide (m.kind=2)=false:=decide_eq_false (by omega)
 have k3:decide (m.kind=3)=false:=decide_eq_false (by omega)
 have k4:decide (m.kind=4)=false:=decide_eq_false (by omega)
 have k5:decide (m.kind=5)=false:=decide_eq_false (by omega)
 have k6:decide (m.kind=6)=true:=decide_eq_true hk
 have ek:Zh m=(((decide (0≤m.index) && decide (m.index≤1000)) && decide (m.view=0)) && nameB m.value):=by simp only [Zh,hk,aaw,vwB,Int.reduceEq,if_true,if_false,reduceIte,or_true,true_or,or_false,or_self]
 unfold vJ
 rw [ek]
 obtain ⟨c,hc0⟩:∃ b,(decide (m.frm < 0) || decide (6 < m.frm))=b:=⟨_,rfl⟩
 obtain ⟨d,hd⟩:∃ b,vY m=b:=⟨_,rfl⟩
 have hd2:=hd
 unfold vY at hd2
 simp only [k0,k1,k2,k3,k4,k5,k6,Bool.not_true,Bool.not_false,Bool.true_and,Bool.false_and,Bool.or_false,Bool.false_or] at hd2
 rw [hc0,hd]
 cases c
 ·
  cases d
  ·
   simp only [Bool.false_eq_true,if_false]
   conv at hr =>
    rhs
    rw [hTe]
    simp only [zk.code,zk.rs,zSs,reduceIte,Nat.reduceEqDiff,Int.reduceEq,Int.reduceLT,Int.reduceLE,xZ,zJ,zV,jc,jd,zT,jg,je,zZ,wK g0,yC g0,yH g0,yP g0,yj g0,yV g0,yZ g0,yU g0 hm.b.ne,wo,eT,c1,c2,c3,c4,zq (zJ _ _ _),zq (zV _ _ _),zq (jc _ _ _),zq (jd _ _ _),zq (zT _ _ _),zq (jg _ _ _),zq (je _ _ _),zq (zZ _ _ _),zq (wK g0),zq (yC g0),zq (yH g0),zq (yP g0),zq (yj g0),zq (yV g0),zq (yZ g0),zq (yU g0 hm.b.ne),zq (wo _),zq (eT _),zq (c1 _),zq (c2 _),zq (c3 _),zq (c4 _),gvw,k0,k1,k2,k3,k4,k5,k6,hc0,hd2,Bool.not_true,Bool.not_false,Bool.true_and,Bool.false_and,Bool.or_false,Bool.false_or]
   rw [hTe] at hr
   exact zk.runs hr (.inr rfl) hc rfl
  ·
   simp only [Bool.false_eq_true,if_false,if_true]
   conv at hr =>
    rhs
    rw [hTe]
    simp only [zk.code,zk.rs,zSs,reduceIte,Nat.reduceEqDiff,Int.reduceEq,Int.reduceLT,Int.reduceLE,xZ,zJ,zV,jc,jd,zT,jg,je,zZ,wK g0,yC g0,yH g0,yP g0,yj g0,yV g0,yZ g0,yU g0 hm.b.ne,wo,eT,c1,c2,c3,c4,zq (zJ _ _ _),zq (zV _ _ _),zq (jc _ _ _),zq (jd _ _ _),zq (zT _ _ _),zq (jg _ _ _),zq (je _ _ _),zq (zZ _ _ _),zq (wK g0),zq (yC g0),zq (yH g0),zq (yP g0),zq (yj g0),zq (yV g0),zq (yZ g0),zq (yU g0 hm.b.ne),zq (wo _),zq (eT _),zq (c1 _),zq (c2 _),zq (c3 _),zq (c4 _),gvw,k0,k1,k2,k3,k4,k5,k6,hc0,hd2,Bool.not_true,Bool.not_false,Bool.true_and,Bool.false_and,Bool.or_false,Bool.false_or]
   rw [hTe] at hr
   exact zk.runs hr (.inr rfl) hc rfl
 ·
  simp only [if_true]
  conv at hr =>
   rhs
   rw [hTe]
   simp only [zk.code,zk.rs,zSs,reduceIte,Nat.reduceEqDiff,Int.reduceEq,Int.reduceLT,Int.reduceLE,xZ,zJ,zV,jc,jd,zT,jg,je,zZ,wK g0,yC g0,yH g0,yP g0,yj g0,yV g0,yZ g0,yU g0 hm.b.ne,wo,eT,c1,c2,c3,c4,zq (zJ _ _ _),zq (zV _ _ _),zq (jc _ _ _),zq (jd _ _ _),zq (zT _ _ _),zq (jg _ _ _),zq (je _ _ _),zq (zZ _ _ _),zq (wK g0),zq (yC g0),zq (yH g0),zq (yP g0),zq (yj g0),zq (yV g0),zq (yZ g0),zq (yU g0 hm.b.ne),zq (wo _),zq (eT _),zq (c1 _),zq (c2 _),zq (c3 _),zq (c4 _),gvw,k0,k1,k2,k3,k4,k5,k6,hc0]
  rw [hTe] at hr
  exact zk.runs hr (.inr rfl) hc rfl
theorem zk.v7 {m:wU} (hm:m.Ok) (hk:m.kind < 0∨6 < m.kind) (S:zn):zW Try.prog O zk.id [mv m] S=some (.bool (vJ m),S):=by
 obtain ⟨T,hTe⟩:∃ T,T=(mv m::zh::zh::zh::zh::zh::zh::zh::zh::zh::zh::zh::zh::zh::zh::zh::zh::zh::zh::zh::zh::zh::zh::zh::zh::zh::zh::zh::zh::zh::zh::zh::zh::zh::zh::zh::zh::zh::zh::zh::zh::zh::zh::zh::zh::zh::zh::zh::zh::zh::zh::zh::zh::zh::zh::zh::zh::zh::zh::zh::zh::zh::zh::zh::zh::zh::zh::zh::zh::zh::zh::zh::zh::zh::zh::zh::zh::zh::zh::zh::zh::zh::zh::zh::zh::zh::zh::zh::zh::zh::zh::zh::zh::zh::zh::zh::zh::zh::zh::zh::zh::zh::zh::zh::zh::zh::zh::zh::zh::zh::zh::zh::zh::zh::zh::zh::zh::zh::zh::zh::zh::zh::zh::zh::zh::zh::zh::zh::zh::zh::zh::zh::zh::zh::zh::zh::zh::zh::zh::zh::zh::zh::zh::zh::zh::zh::zh::zh::zh::zh::zh::zh::zh::zh::zh::zh::zh::zh::zh::zh::zh::zh::zh::zh::zh::zh::zh::zh::zh::[]):=⟨_,rfl⟩
 have hr:zG Try.prog O false zk.code T zn.empty=zG Try.prog O false zk.code T zn.empty:=rfl
 have g0:=kR m
 have c1:=fun S=>jF.v hm.b S
 have c2:=fun S=>jE.v hm.value.2 S
 have c3:=fun S=>jv.v m.tx S
 have c4:=fun S=>zC.v hm.b S
 have hc:[mv m].all (jP 16)=true:=all1 (yE hm.b.okl.le)
 have eT:∀ S,wB Try.prog .neq 43 (tv m.tx) (.agg [Value.int .i64 0,.int .i64 0].toArray) S=some (.bool (!decide (m.tx=⟨0,0⟩)),S):=fun S=>JR m.tx ⟨0,0⟩ S
 have k0:decide (m.kind=0)=false:=decide_eq_false (by omega)
 have k1:decide (m.kind=1)=false:=decide_eq_false (by omega)
 have k2:decide (m.kind=2)=false:=decide_eq_false (by omega)
 have k3:decide (m.kind=3)=false:=decide_eq_false (by omega)
 have k4:decide (m.kind=4)=false:=decide_eq_false (by omega)
 have k5:decide (m.kind=5)=false:=decide_eq_false (by omega)
 have k6:decide (m.kind=6)=false:=decide_eq_false (by omega)
 have ek:Zh m=false:=by simp only [Zh,if_neg (show ¬ m.kind=0 by omega),if_neg (show ¬ m.kind=1 by omega),if_neg (show ¬ m.kind=2 by omega),if_neg (show ¬ m.kind=3 by omega),if_neg (show ¬ (m.kind=4∨m.kind=5) by omega),if_neg (show ¬ m.kind=6 by omega)]
 unfold vJ
 rw [ek]
 obtain ⟨c,hc0⟩:∃ b,(decide (m.frm < 0) || decide (6 < m.frm))=b:=⟨_,rfl⟩
 obtain ⟨d,hd⟩:∃ b,vY m=b:=⟨_,rfl⟩
 have hd2:=hd
 unfold vY at hd2
 simp only [k0,k1,k2,k3,k4,k5,k6,Bool.not_true,Bool.not_false,Bool.true_and,Bool.false_and,Bool.or_false,Bool.false_or] at hd2
 rw [hc0,hd]
 cases c
 ·
  cases d
  ·
   simp only [Bool.false_eq_true,if_false]
   conv at hr =>
    rhs
    rw [hTe]
    simp only [zk.code,zk.rs,zSs,reduceIte,Nat.reduceEqDiff,Int.reduceEq,Int.reduceLT,Int.reduceLE,xZ,zJ,zV,jc,jd,zT,jg,je,zZ,wK g0,yC g0,yH g0,yP g0,yj g0,yV g0,yZ g0,yU g0 hm.b.ne,wo,eT,c1,c2,c3,c4,zq (zJ _ _ _),zq (zV _ _ _),zq (jc _ _ _),zq (jd _ _ _),zq (zT _ _ _),zq (jg _ _ _),zq (je _ _ _),zq (zZ _ _ _),zq (wK g0),zq (yC g0),zq (yH g0),zq (yP g0),zq (yj g0),zq (yV g0),zq (yZ g0),zq (yU g0 hm.b.ne),zq (wo _),zq (eT _),zq (c1 _),zq (c2 _),zq (c3 _),zq (c4 _),gvw,k0,k1,k2,k3,k4,k5,k6,hc0,hd2,Bool.not_true,Bool.not_false,Bool.true_and,Bool.false_and,Bool.or_false,Bool.false_or]
   rw [hTe] at hr
   exact zk.runs hr (.inr rfl) hc rfl
  ·
   simp only [Bool.false_eq_true,if_false,if_true]
   conv at hr =>
    rhs
    rw [hTe]
    simp only [zk.code,zk.rs,zSs,reduceIte,Nat.reduceEqDiff,Int.reduceEq,Int.reduceLT,Int.reduceLE,xZ,zJ,zV,jc,jd,zT,jg,je,zZ,wK g0,yC g0,yH g0,yP g0,yj g0,yV g0,yZ g0,yU g0 hm.b.ne,wo,eT,c1,c2,c3,c4,zq (zJ _ _ _),zq (zV _ _ _),zq (jc _ _ _),zq (jd _ _ _),zq (zT _ _ _),zq (jg _ _ _),zq (je _ _ _),zq (zZ _ _ _),zq (wK g0),zq (yC g0),zq (yH g0),zq (yP g0),zq (yj g0),zq (yV g0),zq (yZ g0),zq (yU g0 hm.b.ne),zq (wo _),zq (eT _),zq (c1 _),zq (c2 _),zq (c3 _),zq (c4 _),gvw,k0,k1,k2,k3,k4,k5,k6,hc0,hd2,Bool.not_true,Bool.not_false,Bool.true_and,Bool.false_and,Bool.or_false,Bool.false_or]
   rw [hTe] at hr
   exact zk.runs hr (.inr rfl) hc rfl
 ·
  simp only [if_true]
  conv at hr =>
   rhs
   rw [hTe]
   simp only [zk.code,zk.rs,zSs,reduceIte,Nat.reduceEqDiff,Int.reduceEq,Int.reduceLT,Int.reduceLE,xZ,zJ,zV,jc,jd,zT,jg,je,zZ,wK g0,yC g0,yH g0,yP g0,yj g0,yV g0,yZ g0,yU g0 hm.b.ne,wo,eT,c1,c2,c3,c4,zq (zJ _ _ _),zq (zV _ _ _),zq (jc _ _ _),zq (jd _ _ _),zq (zT _ _ _),zq (jg _ _ _),zq (je _ _ _),zq (zZ _ _ _),zq (wK g0),zq (yC g0),zq (yH g0),zq (yP g0),zq (yj g0),zq (yV g0),zq (yZ g0),zq (yU g0 hm.b.ne),zq (wo _),zq (eT _),zq (c1 _),zq (c2 _),zq (c3 _),zq (c4 _),gvw,k0,k1,k2,k3,k4,k5,k6,hc0]
  rw [hTe] at hr
  exact zk.runs hr (.inr rfl) hc rfl
theorem zk.v {m:wU} (hm:m.Ok) (S:zn):zW Try.prog O zk.id [mv m] S=some (.bool (vJ m),S):=by
 have:m.kind=0∨m.kind=1∨m.kind=2∨m.kind=3∨m.kind=4∨m.kind=5∨m.kind=6∨(m.kind < 0∨6 < m.kind):=by omega
 rcases this with h | h | h | h | h | h | h | h
 ·
  exact zk.v0 hm h S
 ·
  exact zk.v1 hm h S
 ·
  exact zk.v2 hm h S
 ·
  exact zk.v3 hm h S
 ·
  exact zk.v4 hm h S
 ·
  exact zk.v5 hm h S
 ·
  exact zk.v6 hm h S
 ·
  exact zk.v7 hm h S
theorem Jq (m:wU):okq 3 (mv m)=true:=by
 have h:=JW (f:=fT) (e:=2) (k:=m.b.k) (l:=m.b.txs) (d:=2)
 simp only [okq,List.toList_toArray,List.all_cons,List.all_nil,h,Bool.and_true]
def y7 (m:wU):Bool :=
 if m.kind < 0∨6 < m.kind then false
 else if (decide (m.frm < 0) || decide (7≤m.frm)) || !ZA m (yX m) then false
 else if m.kind=0 then qp m.tx
 else if m.kind=1 then jU m.b
 else if m.kind=3∧(decide (m.prep < -1) || decide (m.view≤m.prep))=true then false
 else (((decide (0≤m.index) && decide (m.index≤1000)) && decide (0≤m.view)) && decide (m.view≤1000)) && qY m
theorem ai7 {m:wU} (hm:m.Ok):(yX m).Ok:=by
 have z:Big 0:=⟨by omega,by omega⟩
 have zt:TxV.Ok ⟨0,0⟩:=⟨z,z⟩
 unfold yX
 split
 ·
  exact ⟨ok0,hm.tx,hm.kind,hm.frm,z,z,z,z⟩
 split
 ·
  exact ⟨hm.b,zt,hm.kind,hm.frm,z,z,z,z⟩
 split
 ·
  exact ⟨ok0,zt,hm.kind,hm.frm,z,z,hm.value,z⟩
 split
 ·
  exact ⟨ok0,zt,hm.kind,hm.frm,hm.index,hm.view,hm.value,hm.prep⟩
 split
 ·
  exact ⟨ok0,zt,hm.kind,hm.frm,hm.index,hm.view,hm.value,z⟩
 split
 ·
  exact ⟨ok0,zt,hm.kind,hm.frm,hm.index,hm.view,hm.value,z⟩
 ·
  exact ⟨ok0,zt,hm.kind,hm.frm,hm.index,z,hm.value,z⟩
theorem jC.v {m:wU} (hm:m.Ok) (S:zn):zW Try.prog O jC.id [mv m] S=some (.bool (y7 m),S):=by
 obtain ⟨T,hTe⟩:∃ T,T=(mv m::zh::zh::zh::zh::zh::zh::zh::zh::zh::zh::zh::zh::zh::zh::zh::zh::zh::zh::zh::zh::zh::zh::zh::zh::zh::zh::zh::zh::zh::zh::zh::zh::zh::zh::zh::zh::zh::zh::zh::zh::zh::zh::zh::zh::zh::zh::zh::zh::zh::zh::zh::zh::zh::zh::zh::zh::zh::zh::zh::zh::zh::zh::zh::zh::zh::zh::zh::zh::zh::zh::zh::zh::zh::[]):=⟨_,rfl⟩
 have hr:zG Try.prog O false jC.code T zn.empty=zG Try.prog O false jC.code T zn.empty:=rfl
 have g0:=kR m
 have c3:=fun S=>qy.v m.tx S
 have c4:=fun S=>jy.v hm.b S
 have c5:=fun S=>wz.v hm S
 have hc:[mv m].all (jP 16)=true:=all1 (yE hm.b.okl.le)
 unfold y7
 by_cases k0:m.kind < 0
 ·
  rw [if_pos (.inl k0)]
  have e0:=decide_eq_true k0
  conv at hr =>
   rhs
   rw [hTe]
   simp only [jC.code,jC.rs,zSs,reduceIte,Nat.reduceEqDiff,Int.reduceEq,Int.reduceLT,Int.reduceLE,xZ,zJ,zV,jc,jd,zT,jg,je,zZ,wK g0,yC g0,yH g0,yP g0,yj g0,yV g0,yZ g0,yU g0 hm.b.ne,kT g0 hm.b.ne,zq (zJ _ _ _),zq (zV _ _ _),zq (jc _ _ _),zq (jd _ _ _),zq (zT _ _ _),zq (jg _ _ _),zq (je _ _ _),zq (zZ _ _ _),zq (wK g0),zq (yC g0),zq (yH g0),zq (yP g0),zq (yj g0),zq (yV g0),zq (yZ g0),zq (yU g0 hm.b.ne),zq (kT g0 hm.b.ne),J7 (kT g0 hm.b.ne) (Jq m),qj g0,gvw,e0]
  rw [hTe] at hr
  exact jC.runs hr (.inr rfl) hc rfl
 by_cases k6:6 < m.kind
 ·
  rw [if_pos (.inr k6)]
  have e0:=decide_eq_false k0
  have e6:=decide_eq_true k6
  conv at hr =>
   rhs
   rw [hTe]
   simp only [jC.code,jC.rs,zSs,reduceIte,Nat.reduceEqDiff,Int.reduceEq,Int.reduceLT,Int.reduceLE,xZ,zJ,zV,jc,jd,zT,jg,je,zZ,wK g0,yC g0,yH g0,yP g0,yj g0,yV g0,yZ g0,yU g0 hm.b.ne,kT g0 hm.b.ne,zq (zJ _ _ _),zq (zV _ _ _),zq (jc _ _ _),zq (jd _ _ _),zq (zT _ _ _),zq (jg _ _ _),zq (je _ _ _),zq (zZ _ _ _),zq (wK g0),zq (yC g0),zq (yH g0),zq (yP g0),zq (yj g0),zq (yV g0),zq (yZ g0),zq (yU g0 hm.b.ne),zq (kT g0 hm.b.ne),J7 (kT g0 hm.b.ne) (Jq m),qj g0,gvw,e0,e6]
  rw [hTe] at hr
  exact jC.runs hr (.inr rfl) hc rfl
 rw [if_neg (by omega)]
 have e0:=decide_eq_false k0
 have e6:=decide_eq_false k6
 have c1:=fun S=>jk.v hm (by omega) (by omega) S
 have c2:=fun S=>wS.v hm (ai7 hm) S
 obtain ⟨c,hc0⟩:∃ b,((decide (m.frm < 0) || decide (7≤m.frm)) || !ZA m (yX m))=b:=⟨_,rfl⟩
 rw [hc0]
 cases c
 ·
  rw [if_neg (by decide)]
  by_cases z0:m.kind=0
  ·
   rw [if_pos z0]
   conv at hr =>
    rhs
    rw [hTe]
    simp only [jC.code,jC.rs,zSs,reduceIte,Nat.reduceEqDiff,Int.reduceEq,Int.reduceLT,Int.reduceLE,xZ,zJ,zV,jc,jd,zT,jg,je,zZ,wK g0,yC g0,yH g0,yP g0,yj g0,yV g0,yZ g0,yU g0 hm.b.ne,kT g0 hm.b.ne,zq (zJ _ _ _),zq (zV _ _ _),zq (jc _ _ _),zq (jd _ _ _),zq (zT _ _ _),zq (jg _ _ _),zq (je _ _ _),zq (zZ _ _ _),zq (wK g0),zq (yC g0),zq (yH g0),zq (yP g0),zq (yj g0),zq (yV g0),zq (yZ g0),zq (yU g0 hm.b.ne),zq (kT g0 hm.b.ne),J7 (kT g0 hm.b.ne) (Jq m),qj g0,gvw,e0,e6,c1,c2,zq (c1 _),zq (c2 _),hc0,decide_eq_true z0,c3]
   rw [hTe] at hr
   exact jC.runs hr (.inr rfl) hc rfl
  rw [if_neg z0]
  by_cases z1:m.kind=1
  ·
   rw [if_pos z1]
   conv at hr =>
    rhs
    rw [hTe]
    simp only [jC.code,jC.rs,zSs,reduceIte,Nat.reduceEqDiff,Int.reduceEq,Int.reduceLT,Int.reduceLE,xZ,zJ,zV,jc,jd,zT,jg,je,zZ,wK g0,yC g0,yH g0,yP g0,yj g0,yV g0,yZ g0,yU g0 hm.b.ne,kT g0 hm.b.ne,zq (zJ _ _ _),zq (zV _ _ _),zq (jc _ _ _),zq (jd _ _ _),zq (zT _ _ _),zq (jg _ _ _),zq (je _ _ _),zq (zZ _ _ _),zq (wK g0),zq (yC g0),zq (yH g0),zq (yP g0),zq (yj g0),zq (yV g0),zq (yZ g0),zq (yU g0 hm.b.ne),zq (kT g0 hm.b.ne),J7 (kT g0 hm.b.ne) (Jq m),qj g0,gvw,e0,e6,c1,c2,zq (c1 _),zq (c2 _),hc0,decide_eq_false z0,decide_eq_true z1,c4]
   rw [hTe] at hr
   exact jC.runs hr (.inr rfl) hc rfl
  rw [if_neg z1]
  by_cases z3:m.kind=3
  ·
   obtain ⟨d,hd0⟩:∃ b,(decide (m.prep < -1) || decide (m.view≤m.prep))=b:=⟨_,rfl⟩
   rw [hd0]
   cases d
   ·
    rw [if_neg (by simp)]
    conv at hr =>
     rhs
     rw [hTe]
     simp only [jC.code,jC.rs,zSs,reduceIte,Nat.reduceEqDiff,Int.reduceEq,Int.reduceLT,Int.reduceLE,xZ,zJ,zV,jc,jd,zT,jg,je,zZ,wK g0,yC g0,yH g0,yP g0,yj g0,yV g0,yZ g0,yU g0 hm.b.ne,kT g0 hm.b.ne,zq (zJ _ _ _),zq (zV _ _ _),zq (jc _ _ _),zq (jd _ _ _),zq (zT _ _ _),zq (jg _ _ _),zq (je _ _ _),zq (zZ _ _ _),zq (wK g0),zq (yC g0),zq (yH g0),zq (yP g0),zq (yj g0),zq (yV g0),zq (yZ g0),zq (yU g0 hm.b.ne),zq (kT g0 hm.b.ne),J7 (kT g0 hm.b.ne) (Jq m),qj g0,gvw,e0,e6,c1,c2,zq (c1 _),zq (c2 _),hc0,decide_eq_false z0,decide_eq_false z1,decide_eq_true z3,hd0,c5,zq (c5 _)]
    rw [hTe] at hr
    exact jC.runs hr (.inr rfl) hc rfl
   ·
    rw [if_pos ⟨z3,rfl⟩]
    conv at hr =>
     rhs
     rw [hTe]
     simp only [jC.code,jC.rs,zSs,reduceIte,Nat.reduceEqDiff,Int.reduceEq,Int.reduceLT,Int.reduceLE,xZ,zJ,zV,jc,jd,zT,jg,je,zZ,wK g0,yC g0,yH g0,yP g0,yj g0,yV g0,yZ g0,yU g0 hm.b.ne,kT g0 hm.b.ne,zq (zJ _ _ _),zq (zV _ _ _),zq (jc _ _ _),zq (jd _ _ _),zq (zT _ _ _),zq (jg _ _ _),zq (je _ _ _),zq (zZ _ _ _),zq (wK g0),zq (yC g0),zq (yH g0),zq (yP g0),zq (yj g0),zq (yV g0),zq (yZ g0),zq (yU g0 hm.b.ne),zq (kT g0 hm.b.ne),J7 (kT g0 hm.b.ne) (Jq m),qj g0,gvw,e0,e6,c1,c2,zq (c1 _),zq (c2 _),hc0,decide_eq_false z0,decide_eq_false z1,decide_eq_true z3,hd0]
    rw [hTe] at hr
    exact jC.runs hr (.inr rfl) hc rfl
  rw [if_neg (fun h=>z3 h.1)]
  conv at hr =>
   rhs
   rw [hTe]
   simp only [jC.code,jC.rs,zSs,reduceIte,Nat.reduceEqDiff,Int.reduceEq,Int.reduceLT,Int.reduceLE,xZ,zJ,zV,jc,jd,zT,jg,je,zZ,wK g0,yC g0,yH g0,yP g0,yj g0,yV g0,yZ g0,yU g0 hm.b.ne,kT g0 hm.b.ne,zq (zJ _ _ _),zq (zV _ _ _),zq (jc _ _ _),zq (jd _ _ _),zq (zT _ _ _),zq (jg _ _ _),zq (je _ _ _),zq (zZ _ _ _),zq (wK g0),zq (yC g0),zq (yH g0),zq (yP g0),zq (yj g0),zq (yV g0),zq (yZ g0),zq (yU g0 hm.b.ne),zq (kT g0 hm.b.ne),J7 (kT g0 hm.b.ne) (Jq m),qj g0,gvw,e0,e6,c1,c2,zq (c1 _),zq (c2 _),hc0,decide_eq_false z0,decide_eq_false z1,decide_eq_false z3,c5,zq (c5 _)]
  rw [hTe] at hr
  exact jC.runs hr (.inr rfl) hc rfl
 ·
  rw [if_pos rfl]
  conv at hr =>
   rhs
   rw [hTe]
   simp only [jC.code,jC.rs,zSs,reduceIte,Nat.reduceEqDiff,Int.reduceEq,Int.reduceLT,Int.reduceLE,xZ,zJ,zV,jc,jd,zT,jg,je,zZ,wK g0,yC g0,yH g0,yP g0,yj g0,yV g0,yZ g0,yU g0 hm.b.ne,kT g0 hm.b.ne,zq (zJ _ _ _),zq (zV _ _ _),zq (jc _ _ _),zq (jd _ _ _),zq (zT _ _ _),zq (jg _ _ _),zq (je _ _ _),zq (zZ _ _ _),zq (wK g0),zq (yC g0),zq (yH g0),zq (yP g0),zq (yj g0),zq (yV g0),zq (yZ g0),zq (yU g0 hm.b.ne),zq (kT g0 hm.b.ne),J7 (kT g0 hm.b.ne) (Jq m),qj g0,gvw,e0,e6,c1,c2,zq (c1 _),zq (c2 _),hc0]
  rw [hTe] at hr
  exact jC.runs hr (.inr rfl) hc rfl
theorem vK (b:xJ):ZW b b=true:=by simp [ZW]
theorem right_eq (m:wU):y7 m=vJ m:=by
 unfold y7 vJ vY
 by_cases hk:m.kind < 0∨6 < m.kind
 ·
  rw [if_pos hk]
  have:Zh m=false:=by simp only [Zh,if_neg (show ¬ m.kind=0 by omega),if_neg (show ¬ m.kind=1 by omega),if_neg (show ¬ m.kind=2 by omega),if_neg (show ¬ m.kind=3 by omega),if_neg (show ¬ (m.kind=4∨m.kind=5) by omega),if_neg (show ¬ m.kind=6 by omega)]
  rw [this]
  simp
 rw [if_neg hk]
 by_cases f0:m.frm < 0
 ·
  simp [f0]
 by_cases f7:6 < m.frm
 ·
  simp [f0,f7,show 7≤m.frm by omega]
 have f8:¬ 7≤m.frm:=by omega
 have hv:decide (0 < Yo m.value)=xu m.value:=agV m.value
 have:m.kind=0∨m.kind=1∨m.kind=2∨m.kind=3∨m.kind=4∨m.kind=5∨m.kind=6:=by omega
 rcases this with h | h | h | h | h | h | h
 ·
  simp only [ZA,yX,Zh,h,decide_true,decide_false,Bool.true_and,Bool.false_and,Bool.not_true,Bool.not_false,Int.reduceEq,Int.reduceLT,if_true,if_false,reduceIte,aaw,vwB,qY,YP,nameB,hv,f0,f7,f8,or_true,true_or,or_false,false_or,or_self,Bool.or_false,Bool.false_or,vK,false_and,true_and]
  grind
 ·
  simp only [ZA,yX,Zh,h,decide_true,decide_false,Bool.true_and,Bool.false_and,Bool.not_true,Bool.not_false,Int.reduceEq,Int.reduceLT,if_true,if_false,reduceIte,aaw,vwB,qY,YP,nameB,hv,f0,f7,f8,or_true,true_or,or_false,false_or,or_self,Bool.or_false,Bool.false_or,vK,false_and,true_and]
  grind
 ·
  simp only [ZA,yX,Zh,h,decide_true,decide_false,Bool.true_and,Bool.false_and,Bool.not_true,Bool.not_false,Int.reduceEq,Int.reduceLT,if_true,if_false,reduceIte,aaw,vwB,qY,YP,nameB,hv,f0,f7,f8,or_true,true_or,or_false,false_or,or_self,Bool.or_false,Bool.false_or,vK,false_and,true_and]
  grind
 ·
  simp only [ZA,yX,Zh,h,decide_true,decide_false,Bool.true_and,Bool.false_and,Bool.not_true,Bool.not_false,Int.reduceEq,Int.reduceLT,if_true,if_false,reduceIte,aaw,vwB,qY,YP,nameB,hv,f0,f7,f8,or_true,true_or,or_false,false_or,or_self,Bool.or_false,Bool.false_or,vK,false_and,true_and]
  grind
 ·
  simp only [ZA,yX,Zh,h,decide_true,decide_false,Bool.true_and,Bool.false_and,Bool.not_true,Bool.not_false,Int.reduceEq,Int.reduceLT,if_true,if_false,reduceIte,aaw,vwB,qY,YP,nameB,hv,f0,f7,f8,or_true,true_or,or_false,false_or,or_self,Bool.or_false,Bool.false_or,vK,false_and,true_and]
  grind
 ·
  simp only [ZA,yX,Zh,h,decide_true,decide_false,Bool.true_and,Bool.false_and,Bool.not_true,Bool.not_false,Int.reduceEq,Int.reduceLT,if_true,if_false,reduceIte,aaw,vwB,qY,YP,nameB,hv,f0,f7,f8,or_true,true_or,or_false,false_or,or_self,Bool.or_false,Bool.false_or,vK,false_and,true_and]
  grind
 ·
  simp only [ZA,yX,Zh,h,decide_true,decide_false,Bool.true_and,Bool.false_and,Bool.not_true,Bool.not_false,Int.reduceEq,Int.reduceLT,if_true,if_false,reduceIte,aaw,vwB,qY,YP,nameB,hv,f0,f7,f8,or_true,true_or,or_false,false_or,or_self,Bool.or_false,Bool.false_or,vK,false_and,true_and]
  grind
end Go.Proofs.Ytfjogganfjkckaa
namespace Go.Proofs.Ytfjogganfjkckaa
open Go.Abs
theorem aed {n:Int} (h:nameB n=true):0≤n∧n≤268435455:=by
 unfold nameB at h
 simp only [Bool.or_eq_true,decide_eq_true_eq] at h
 rcases h with h | h
 ·
  omega
 ·
  have:=xY.1 h;omega
structure abo (m:wU):Prop where
 kind:0≤m.kind∧m.kind≤6
 frm:0≤m.frm∧m.frm≤6
 index:0≤m.index∧m.index≤1000
 view:0≤m.view∧m.view≤1000
 value:-1≤m.value∧m.value≤268435455
 prep:-1≤m.prep∧m.prep≤1000
 tx:m.kind=0→qp m.tx=true
 blk:m.kind=1→jU m.b=true
 notx:m.kind≠0→m.tx=⟨0,0⟩
 noblk:m.kind≠1→ZW m.b bk0=true
 noprep:m.kind≠3→m.prep=0
theorem Zj {m:wU} (h:y7 m=true):abo m:=by
 rw [right_eq] at h
 unfold vJ at h
 split at h
 ·
  cases h
 rename_i hf
 split at h
 ·
  cases h
 rename_i ho
 simp only [Bool.or_eq_true,decide_eq_true_eq,not_or] at hf
 have ho:(m.kind≠0→m.tx=⟨0,0⟩)∧(m.kind≠1→ZW m.b bk0=true)∧(m.kind≠3→m.prep=0):=by
  unfold vY at ho
  simp only [Bool.or_eq_true,Bool.and_eq_true,Bool.not_eq_true',decide_eq_false_iff_not,not_or,not_and,Decidable.not_not,Bool.not_eq_false] at ho
  exact ⟨ho.1.1,ho.1.2,ho.2⟩
 unfold Zh aaw vwB at h
 have nr:=fun hn=>aed (n:=m.value) hn
 have k:m.kind=0∨m.kind=1∨m.kind=2∨m.kind=3∨m.kind=4∨m.kind=5∨m.kind=6:=by
  by_cases a:m.kind=0∨m.kind=1∨m.kind=2∨m.kind=3∨m.kind=4∨m.kind=5∨m.kind=6
  ·
   exact a
  ·
   simp only [if_neg (show ¬ m.kind=0 by omega),if_neg (show ¬ m.kind=1 by omega),if_neg (show ¬ m.kind=2 by omega),if_neg (show ¬ m.kind=3 by omega),if_neg (show ¬ (m.kind=4∨m.kind=5) by omega),if_neg (show ¬ m.kind=6 by omega)] at h
   cases h
 rcases k with k | k | k | k | k | k | k
 ·
  simp only [k,Int.reduceEq,if_true,if_false,reduceIte,or_true,true_or,or_false,or_self,Bool.and_eq_true,Bool.or_eq_true,decide_eq_true_eq] at h
  have hp:=ho.2.2
  have hv:-1≤m.value∧m.value≤268435455:=by grind
  refine ⟨by omega,by omega,by omega,by omega,hv,by grind,fun e=>by grind,fun e=>by grind,ho.1,ho.2.1,ho.2.2⟩
 ·
  simp only [k,Int.reduceEq,if_true,if_false,reduceIte,or_true,true_or,or_false,or_self,Bool.and_eq_true,Bool.or_eq_true,decide_eq_true_eq] at h
  have hp:=ho.2.2
  have hv:-1≤m.value∧m.value≤268435455:=by grind
  refine ⟨by omega,by omega,by omega,by omega,hv,by grind,fun e=>by grind,fun e=>by grind,ho.1,ho.2.1,ho.2.2⟩
 ·
  simp only [k,Int.reduceEq,if_true,if_false,reduceIte,or_true,true_or,or_false,or_self,Bool.and_eq_true,Bool.or_eq_true,decide_eq_true_eq] at h
  have hp:=ho.2.2
  have hv:-1≤m.value∧m.value≤268435455:=by grind
  refine ⟨by omega,by omega,by omega,by omega,hv,by grind,fun e=>by grind,fun e=>by grind,ho.1,ho.2.1,ho.2.2⟩
 ·
  simp only [k,Int.reduceEq,if_true,if_false,reduceIte,or_true,true_or,or_false,or_self,Bool.and_eq_true,Bool.or_eq_true,decide_eq_true_eq] at h
  have hp:=ho.2.2
  have hv:-1≤m.value∧m.value≤268435455:=by grind
  refine ⟨by omega,by omega,by omega,by omega,hv,by grind,fun e=>by grind,fun e=>by grind,ho.1,ho.2.1,ho.2.2⟩
 ·
  simp only [k,Int.reduceEq,if_true,if_false,reduceIte,or_true,true_or,or_false,or_self,Bool.and_eq_true,Bool.or_eq_true,decide_eq_true_eq] at h
  have hp:=ho.2.2
  have hv:-1≤m.value∧m.value≤268435455:=by grind
  refine ⟨by omega,by omega,by omega,by omega,hv,by grind,fun e=>by grind,fun e=>by grind,ho.1,ho.2.1,ho.2.2⟩
 ·
  simp only [k,Int.reduceEq,if_true,if_false,reduceIte,or_true,true_or,or_false,or_self,Bool.and_eq_true,Bool.or_eq_true,decide_eq_true_eq] at h
  have hp:=ho.2.2
  have hv:-1≤m.value∧m.value≤268435455:=by grind
  refine ⟨by omega,by omega,by omega,by omega,hv,by grind,fun e=>by grind,fun e=>by grind,ho.1,ho.2.1,ho.2.2⟩
 ·
  simp only [k,Int.reduceEq,if_true,if_false,reduceIte,or_true,true_or,or_false,or_self,Bool.and_eq_true,Bool.or_eq_true,decide_eq_true_eq] at h
  have hp:=ho.2.2
  have hv:-1≤m.value∧m.value≤268435455:=by grind
  refine ⟨by omega,by omega,by omega,by omega,hv,by grind,fun e=>by grind,fun e=>by grind,ho.1,ho.2.1,ho.2.2⟩
def ZR (m:wU):List UInt8:=if m.kind=0 then txB m.tx else if m.kind=1 then Xd m.b else []
def WL (m:wU):List Int:=[m.kind,m.frm,m.index,m.view,m.value,m.prep]
def kW (m:wU):List UInt8:=encs (WL m)++ZR m
def mkM (m:wU):Nat:=(WQ (Xp m.frm) (kW m)).toNat
def Jj (m:wU):List UInt8:=enc (mkM m)++kW m
def aa5 (m:wU):Value:=if y7 m then .tuple #[by_ 2 (Jj m),.int .i64 0] else .tuple #[.slice none 0 0,.int .i64 121]
theorem acK (key:Int) (b:List UInt8):0≤WQ key b∧WQ key b < 18446744073709551616:=ac9 _ _
theorem aeu (key:Int) (b:List UInt8):((WQ key b).toNat:Int)=WQ key b:=Int.toNat_of_nonneg (acK key b).1
theorem ajp (key:Int) (b:List UInt8):(WQ key b).toNat < 2 ^ 64:=by have:=acK key b;omega
theorem QY {m:wU} (h:abo m):∀ n ∈ WL m,-1≤n∧n≤268435455:=by
 intro n hn
 have h1:=h.kind;have h2:=h.frm;have h3:=h.index;have h4:=h.view;have h5:=h.value;have h6:=h.prep
 simp only [WL,List.mem_cons,List.not_mem_nil,or_false] at hn
 rcases hn with rfl | rfl | rfl | rfl | rfl | rfl <;> omega
theorem aad {m:wU} (h:abo m):(encs (WL m)).length≤60:=by
 have h1:=QY h
 exact Z7 (l:=WL m) (fun n hn=>by have:=h1 n hn;omega)
theorem ac8 {b:xJ} (h:jU b=true):(Xd b).length≤140:=by
 have hh:headB b=true∧Zx b.txs=true:=by simpa [jU] using h
 unfold Xd
 have:=QB hh.1;have:=Qx hh.2
 rw [List.length_append];omega
theorem ahA {m:wU} (h:abo m):(ZR m).length≤140:=by
 unfold ZR
 split
 ·
  rename_i h0;have:=abI (h.tx h0);omega
 split
 ·
  rename_i h1;exact ac8 (h.blk h1)
 ·
  simp
theorem aas {m:wU} (h:abo m):(kW m).length≤200:=by
 unfold kW;have:=aad h;have:=ahA h;rw [List.length_append];omega
theorem bs6 (a b c d e f:Int) (S:zn):jH Try.prog 24 6 [(0,.int .i64 a),(1,.int .i64 b),(2,.int .i64 c),(3,.int .i64 d),(4,.int .i64 e),(5,.int .i64 f)] S=some (iz 2 [a,b,c,d,e,f],S):=by kernel_rfl
theorem zM.v {m:wU} (hm:m.Ok) (S:zn):zW Try.prog O zM.id [mv m] S=some (aa5 m,S):=by
 obtain ⟨T,hTe⟩:∃ T,T=(mv m::zh::zh::zh::zh::zh::zh::zh::zh::zh::zh::zh::zh::zh::zh::zh::zh::zh::zh::zh::zh::zh::zh::zh::zh::zh::zh::zh::zh::zh::zh::zh::zh::zh::zh::zh::zh::zh::zh::zh::zh::zh::zh::zh::zh::zh::zh::zh::zh::zh::zh::zh::zh::zh::zh::zh::zh::zh::zh::zh::zh::zh::[]):=⟨_,rfl⟩
 have hr:zG Try.prog O false zM.code T zn.empty=zG Try.prog O false zM.code T zn.empty:=rfl
 have g0:=kR m
 have hc:[mv m].all (jP 16)=true:=all1 (yE hm.b.okl.le)
 have c0:∀ S,zW Try.prog O 34 [mv m] S=some (.bool (y7 m),S):=fun S=>by rw [right_eq];exact zk.v hm S
 unfold aa5
 cases hR:y7 m
 ·
  rw [hR] at c0
  conv at hr =>
   rhs
   rw [hTe]
   simp only [zM.code,zM.rs,zSs,reduceIte,Nat.reduceEqDiff,Int.reduceEq,Int.reduceLT,Int.reduceLE,xZ,zJ,zV,jc,jd,zT,jg,je,zZ,wK g0,yC g0,yH g0,yP g0,yj g0,yV g0,yZ g0,yU g0 hm.b.ne,kT g0 hm.b.ne,c0]
  rw [hTe] at hr
  exact zM.runs hr (.inr rfl) rfl rfl hc rfl
 ·
  rw [hR] at c0
  have hf:=Zj hR
  have few:=QY hf
  have c2:∀ S,zW Try.prog O 35 [iz 1 [m.kind,m.frm,m.index,m.view,m.value,m.prep]] S=some (.tuple #[by_ 2 (encs (WL m)),.int .i64 0],S):=fun S=>by
   rw [zD.v (l:=[m.kind,m.frm,m.index,m.view,m.value,m.prep]) Okl.read (by decide) (fun n hn=>by have:=few n hn;omega) S,JE (l:=[m.kind,m.frm,m.index,m.view,m.value,m.prep]) (by simp) (fun n hn=>(few n hn).1) (by simp)];rfl
  have ck:∀ S,zW Try.prog O 40 [.int .i64 m.frm] S=some (.int .u64 (Xp m.frm),S):=fun S=>yT.v hf.frm.1 hf.frm.2 S
  have cn:∀ b S,zW Try.prog O 38 [.int .u64 (WQ (Xp m.frm) b)] S=some (by_ 2 (enc (WQ (Xp m.frm) b).toNat),S):=fun b S=>by
   have:=jl.v (WQ (Xp m.frm) b).toNat (ajp _ _) S
   rw [aeu] at this
   exact this
  have a0:∀ S,wP Try.prog 33 33 (by_ 2 (enc (mkM m))) (by_ 1 (kW m)) S=some (by_ 2 (Jj m),S):=fun S=>by
   rw [kX Okl.own (by decide) Okl.read (by have:=aas hf;have:=Ju (ajp (Xp m.frm) (kW m));unfold mkM;omega)];rfl
  have em:enc (WQ (Xp m.frm) (kW m)).toNat=enc (mkM m):=rfl
  have cof:∀ S,zW Try.prog O 39 [.int .u64 (Xp m.frm),by_ 1 (kW m)] S=some (.int .u64 (WQ (Xp m.frm) (kW m)),S):=fun S=>zX.v Okl.read (by decide) (by have:=aas hf;omega) S
  have hcv:jP 16 (.tuple #[by_ 2 (Jj m),.int .i64 0])=true:=yO (all2 (qx (k:=2) (Nat.le_refl 2)) rfl)
  by_cases k0:m.kind=0
  ·
   have c3:∀ S,zW Try.prog O 36 [tv m.tx] S=some (.tuple #[by_ 2 (txB m.tx),.int .i64 0],S):=fun S=>by
    rw [jD.v m.tx S,aji,if_pos (hf.tx k0)]
   have a1:∀ S,wP Try.prog 33 33 (by_ 2 (encs (WL m))) (by_ 1 (txB m.tx)) S=some (by_ 2 (kW m),S):=fun S=>by
    rw [kX Okl.own (by decide) Okl.read (by have:=aad hf;have:=abI (hf.tx k0);omega)]
    rw [if_neg (by omega)];simp only [kW,ZR,if_pos k0]
   conv at hr =>
    rhs
    rw [hTe]
    simp only [zM.code,zM.rs,zSs,reduceIte,Nat.reduceEqDiff,Int.reduceEq,Int.reduceLT,Int.reduceLE,xZ,zJ,zV,jc,jd,zT,jg,je,zZ,wK g0,yC g0,yH g0,yP g0,yj g0,yV g0,yZ g0,yU g0 hm.b.ne,kT g0 hm.b.ne,c0,bs6,c2,decide_eq_true k0,decide_eq_false (show ¬ m.kind=1 by omega),c3,a1,ck,QH,cof,cn,em,a0]
   rw [hTe] at hr
   exact zM.runs hr (.inr rfl) (by simp only [List.getD_cons_succ,List.getD_cons_zero,wC,jW,jK,jO,jX]) rfl hc hcv
  by_cases k1:m.kind=1
  ·
   have c3:∀ S,zW Try.prog O 37 [bv m.b] S=some (.tuple #[by_ 2 (Xd m.b),.int .i64 0],S):=fun S=>by
    rw [jm.v hm.b S,aby,if_pos (hf.blk k1)]
   have a1:∀ S,wP Try.prog 33 33 (by_ 2 (encs (WL m))) (by_ 1 (Xd m.b)) S=some (by_ 2 (kW m),S):=fun S=>by
    rw [kX Okl.own (by decide) Okl.read (by have:=aad hf;have:=ac8 (hf.blk k1);omega)]
    rw [if_neg (by omega)];simp only [kW,ZR,if_neg k0,if_pos k1]
   conv at hr =>
    rhs
    rw [hTe]
    simp only [zM.code,zM.rs,zSs,reduceIte,Nat.reduceEqDiff,Int.reduceEq,Int.reduceLT,Int.reduceLE,xZ,zJ,zV,jc,jd,zT,jg,je,zZ,wK g0,yC g0,yH g0,yP g0,yj g0,yV g0,yZ g0,yU g0 hm.b.ne,kT g0 hm.b.ne,c0,bs6,c2,decide_eq_false k0,decide_eq_true k1,c3,a1,ck,QH,cof,cn,em,a0]
   rw [hTe] at hr
   exact zM.runs hr (.inr rfl) (by simp only [List.getD_cons_succ,List.getD_cons_zero,wC,jW,jK,jO,jX]) rfl hc hcv
  have eb:encs (WL m)=kW m:=by simp only [kW,ZR,if_neg k0,if_neg k1,List.append_nil]
  conv at hr =>
   rhs
   rw [hTe]
   simp only [zM.code,zM.rs,zSs,reduceIte,Nat.reduceEqDiff,Int.reduceEq,Int.reduceLT,Int.reduceLE,xZ,zJ,zV,jc,jd,zT,jg,je,zZ,wK g0,yC g0,yH g0,yP g0,yj g0,yV g0,yZ g0,yU g0 hm.b.ne,kT g0 hm.b.ne,c0,bs6,c2,decide_eq_false k0,decide_eq_false k1,eb,ck,QH,cof,cn,em,a0]
  rw [hTe] at hr
  exact zM.runs hr (.inr rfl) (by simp only [List.getD_cons_succ,List.getD_cons_zero,wC,jW,jK,jO,jX]) rfl hc hcv
end Go.Proofs.Ytfjogganfjkckaa
namespace Go.Proofs.Ytfjogganfjkckaa
open Go.Abs
theorem Zq {a b:xJ}:ZW a b=true ↔ a.slot=b.slot∧a.miner=b.miner∧a.variant=b.variant∧a.parent=b.parent∧a.txs=b.txs:=by
 simp [ZW]
theorem Vh {m:wU} {b:xJ} (h:ZW m.b b=true):y7 { m with b:=b }=y7 m:=by
 rw [right_eq,right_eq]
 obtain ⟨k,f,i,v,w,p,t,c⟩:=m
 obtain ⟨c1,c2,c3,c4,c5,c6⟩:=c
 obtain ⟨b1,b2,b3,b4,b5,b6⟩:=b
 obtain ⟨e1,e2,e3,e4,e5⟩:=Zq.1 h
 dsimp only at e1 e2 e3 e4 e5
 subst e1 e2 e3 e4 e5
 rfl
theorem afZ (l:List UInt8):y8 6 l=none∨∃ a b c d e f r,y8 6 l=some ([a,b,c,d,e,f],r)∧r.length≤l.length:=by
 cases h:y8 6 l with
 | none=>exact .inl rfl
 | some ar =>
  obtain ⟨a,r⟩:=ar
  obtain ⟨h1,h2⟩:=Wp h
  match a,h1 with
  | [x,y,z,w,u,v],_=>exact .inr ⟨x,y,z,w,u,v,r,rfl,h2⟩
theorem JZ {x:wU} (hx:y7 x=true):y8 6 (kW x)=some (WL x,ZR x):=by
 have f1:=QY (Zj hx)
 exact (yQ _ _ _ _).mpr ⟨rfl,rfl,fun n hn=>by have:=f1 n hn;unfold Few;omega⟩
theorem Wh {l r:List UInt8} {a b c d e f:Int} (h:y8 6 l=some ([a,b,c,d,e,f],r)) {x:wU} (hx:y7 x=true) (hl:l=kW x) :
  x.kind=a∧x.frm=b∧x.index=c∧x.view=d∧x.value=e∧x.prep=f∧ZR x=r:=by
 have:=JZ hx
 rw [← hl,h] at this
 simp only [Option.some.injEq,Prod.mk.injEq,WL,List.cons.injEq,and_true] at this
 obtain ⟨⟨h1,h2,h3,h4,h5,h6⟩,h7⟩:=this
 exact ⟨h1.symm,h2.symm,h3.symm,h4.symm,h5.symm,h6.symm,h7.symm⟩
def Yi (l:List UInt8) (m:wU) (ok:Bool):Prop:=m.Ok∧m.b.txs.length≤3∧((ok=true∧y7 m=true∧l=kW m)∨(ok=false∧∀ x,y7 x=true→l≠kW x))
theorem Y4:m0.Ok:=by
 have z:Big 0:=⟨by omega,by omega⟩
 exact ⟨ok0,⟨z,z⟩,z,z,z,z,z,z⟩
theorem yM {n:Int} (h:Few n):Big n:=by unfold Few at h;unfold Big;omega
theorem acB {t:TxV} (h:qp t=true):t.Ok:=by
 have:=xg.1 h
 exact ⟨⟨by omega,by omega⟩,⟨by omega,by omega⟩⟩
section
variable {l r:List UInt8} {a b c d e f:Int}
theorem ag9 {t:TxV} (h:y8 6 l=some ([a,b,c,d,e,f],r)) (ha:a=0) (ht:afJ r=some t):Yi l ⟨a,b,c,d,e,f,t,bk0⟩ (y7 ⟨a,b,c,d,e,f,t,bk0⟩):=by
 obtain ⟨_,g2,few⟩:=(yQ _ _ _ _).mp h
 obtain ⟨t1,t2⟩:=(JD r t).1 ht
 refine ⟨⟨ok0,acB t1,yM (few _ (by simp)),yM (few _ (by simp)),yM (few _ (by simp)),yM (few _ (by simp)),yM (few _ (by simp)),yM (few _ (by simp))⟩,by simp,?_⟩
 cases hR:y7 ⟨a,b,c,d,e,f,t,bk0⟩
 ·
  refine .inr ⟨rfl,fun x hx hl=>?_⟩
  obtain ⟨i1,i2,i3,i4,i5,i6,i7⟩:=Wh h hx hl
  have hf:=Zj hx
  have k0:x.kind=0:=by omega
  have h3:=(JD r x.tx).2 ⟨hf.tx k0,by rw [← i7,ZR,if_pos k0]⟩
  rw [ht] at h3
  have:=Vh (m:=x) (b:=bk0) (hf.noblk (by omega))
  rw [hx] at this
  have e:({ x with b:=bk0 }:wU)=⟨a,b,c,d,e,f,t,bk0⟩:=mk_eq i1 i2 i3 i4 i5 i6 (by injection h3 with h3;exact h3.symm) rfl
  rw [e,hR] at this
  cases this
 ·
  refine .inl ⟨rfl,rfl,?_⟩
  rw [g2,t2]
  simp only [kW,WL,ZR,if_pos ha]
theorem afB {t:TxV} (h:y8 6 l=some ([a,b,c,d,e,f],r)) (ha:a=0) (ht:afJ r=none):Yi l ⟨a,b,c,d,e,f,⟨0,0⟩,bk0⟩ false:=by
 obtain ⟨_,g2,few⟩:=(yQ _ _ _ _).mp h
 refine ⟨⟨ok0,Y4.tx,yM (few _ (by simp)),yM (few _ (by simp)),yM (few _ (by simp)),yM (few _ (by simp)),yM (few _ (by simp)),yM (few _ (by simp))⟩,by simp,.inr ⟨rfl,fun x hx hl=>?_⟩⟩
 obtain ⟨i1,i2,i3,i4,i5,i6,i7⟩:=Wh h hx hl
 have k0:x.kind=0:=by omega
 have h3:=(JD r x.tx).2 ⟨(Zj hx).tx k0,by rw [← i7,ZR,if_pos k0]⟩
 rw [ht] at h3
 cases h3
theorem ag5 {y:xJ} (h:y8 6 l=some ([a,b,c,d,e,f],r)) (ha:a=1) (hy:y.Ok) (hy3:y.txs.length≤3) (hb:agz r=some ⟨y.slot,y.miner,y.variant,y.parent,0,y.txs⟩):Yi l ⟨a,b,c,d,e,f,⟨0,0⟩,y⟩ (y7 ⟨a,b,c,d,e,f,⟨0,0⟩,y⟩):=by
 obtain ⟨_,g2,few⟩:=(yQ _ _ _ _).mp h
 obtain ⟨⟨t1,_⟩,t2⟩:=(WJ r _).1 hb
 refine ⟨⟨hy,Y4.tx,yM (few _ (by simp)),yM (few _ (by simp)),yM (few _ (by simp)),yM (few _ (by simp)),yM (few _ (by simp)),yM (few _ (by simp))⟩,hy3,?_⟩
 cases hR:y7 ⟨a,b,c,d,e,f,⟨0,0⟩,y⟩
 ·
  refine .inr ⟨rfl,fun x hx hl=>?_⟩
  obtain ⟨i1,i2,i3,i4,i5,i6,i7⟩:=Wh h hx hl
  have hf:=Zj hx
  have k1:x.kind=1:=by omega
  have h3:=(WJ r ⟨x.b.slot,x.b.miner,x.b.variant,x.b.parent,0,x.b.txs⟩).2 ⟨⟨hf.blk k1,rfl⟩,by rw [← i7,ZR,if_neg (by omega),if_pos k1];rfl⟩
  rw [hb] at h3
  simp only [Option.some.injEq,xJ.mk.injEq,true_and] at h3
  have:=Vh (m:=x) (b:=y) (Zq.2 ⟨h3.1.symm,h3.2.1.symm,h3.2.2.1.symm,h3.2.2.2.1.symm,h3.2.2.2.2.symm⟩)
  rw [hx] at this
  have e:({ x with b:=y }:wU)=⟨a,b,c,d,e,f,⟨0,0⟩,y⟩:=mk_eq i1 i2 i3 i4 i5 i6 (hf.notx (by omega)) rfl
  rw [e,hR] at this
  cases this
 ·
  refine .inl ⟨rfl,rfl,?_⟩
  rw [g2,t2]
  simp only [kW,WL,ZR,if_pos ha,if_neg (show ¬ a=0 by omega)]
  rfl
theorem ae1 (h:y8 6 l=some ([a,b,c,d,e,f],r)) (ha:a=1) (hb:agz r=none):Yi l ⟨a,b,c,d,e,f,⟨0,0⟩,bk0⟩ false:=by
 obtain ⟨_,g2,few⟩:=(yQ _ _ _ _).mp h
 refine ⟨⟨ok0,Y4.tx,yM (few _ (by simp)),yM (few _ (by simp)),yM (few _ (by simp)),yM (few _ (by simp)),yM (few _ (by simp)),yM (few _ (by simp))⟩,by simp,.inr ⟨rfl,fun x hx hl=>?_⟩⟩
 obtain ⟨i1,i2,i3,i4,i5,i6,i7⟩:=Wh h hx hl
 have k1:x.kind=1:=by omega
 have h3:=(WJ r ⟨x.b.slot,x.b.miner,x.b.variant,x.b.parent,0,x.b.txs⟩).2 ⟨⟨(Zj hx).blk k1,rfl⟩,by rw [← i7,ZR,if_neg (by omega),if_pos k1];rfl⟩
 rw [hb] at h3
 cases h3
theorem agL (h:y8 6 l=some ([a,b,c,d,e,f],r)) (h0:a≠0) (h1:a≠1):Yi l ⟨a,b,c,d,e,f,⟨0,0⟩,bk0⟩ (decide ((r.length:Int)=0) && y7 ⟨a,b,c,d,e,f,⟨0,0⟩,bk0⟩):=by
 obtain ⟨_,g2,few⟩:=(yQ _ _ _ _).mp h
 refine ⟨⟨ok0,Y4.tx,yM (few _ (by simp)),yM (few _ (by simp)),yM (few _ (by simp)),yM (few _ (by simp)),yM (few _ (by simp)),yM (few _ (by simp))⟩,by simp,?_⟩
 cases hR:(decide ((r.length:Int)=0) && y7 ⟨a,b,c,d,e,f,⟨0,0⟩,bk0⟩)
 ·
  refine .inr ⟨rfl,fun x hx hl=>?_⟩
  obtain ⟨i1,i2,i3,i4,i5,i6,i7⟩:=Wh h hx hl
  have hf:=Zj hx
  rw [ZR,if_neg (by omega),if_neg (by omega)] at i7
  have:=Vh (m:=x) (b:=bk0) (hf.noblk (by omega))
  rw [hx] at this
  have e:({ x with b:=bk0 }:wU)=⟨a,b,c,d,e,f,⟨0,0⟩,bk0⟩:=mk_eq i1 i2 i3 i4 i5 i6 (hf.notx (by omega)) rfl
  rw [e] at this
  rw [this,← i7] at hR
  simp at hR
 ·
  rw [Bool.and_eq_true,decide_eq_true_eq] at hR
  refine .inl ⟨rfl,hR.2,?_⟩
  have hr0:r=[]:=List.length_eq_zero_iff.1 (by omega)
  rw [g2,hr0]
  simp only [kW,WL,ZR,if_neg h0,if_neg h1]
theorem ado (h:y8 6 l=none):Yi l m0 false:=⟨Y4,by simp,.inr ⟨rfl,fun x hx hl=>by
 have:=JZ hx
 rw [← hl,h] at this
 cases this⟩⟩
end
theorem jq.v {k:Nat} {l:List UInt8} (hk:Okl k l) (k2:k≠2) (hl:l.length≤140737488355328):∃ m ok,Yi l m ok∧∀ S,zW Try.prog O jq.id [by_ k l] S=some (.tuple #[mv m,.bool ok],S):=by
 have a1:yG Try.prog 48 zn.empty=some (.pointer (some ⟨0,0,none⟩),Yk m0):=Xe zn.empty
 have g1:=kR m0
 have ne0:(0:Nat)≠2:=by decide
 have cl:[by_ k l].all (jP 16)=true:=all1 (qx (k:=k) hk.le)
 obtain ⟨T,hTe⟩:∃ T,T=(by_ k l::zh::zh::zh::zh::zh::zh::zh::zh::zh::zh::zh::zh::zh::zh::zh::zh::zh::zh::zh::zh::zh::zh::zh::zh::zh::zh::zh::zh::zh::zh::zh::zh::zh::zh::zh::zh::zh::zh::zh::zh::zh::zh::zh::zh::zh::zh::zh::zh::zh::zh::zh::zh::zh::zh::zh::zh::zh::zh::zh::zh::zh::zh::zh::zh::zh::zh::zh::zh::[]):=⟨_,rfl⟩
 have hr:zG Try.prog O false jq.code T zn.empty=zG Try.prog O false jq.code T zn.empty:=rfl
 have c1:=fun S=>zL.v (many:=6) hk k2 hl S
 have r1:∀ k0 k1,vO k0 k1 6 l=_:=fun k0 k1=>xI (m:=6) (by decide) (by decide)
 rw [r1] at c1
 rcases afZ l with h | ⟨a,b,c,d,e,f,r,h,hlr⟩
 ·
  rw [h] at c1
  refine ⟨m0,false,ado h,fun S=>?_⟩
  have s1:=YW g1 m0
  conv at hr =>
   rhs
   rw [hTe]
   simp only [jq.code,jq.rs,zSs,reduceIte,Nat.reduceEqDiff,Int.reduceEq,Int.reduceLT,Int.reduceLE,if_neg k2,a1,c1,kT g1 (by decide),s1]
  rw [hTe] at hr
  exact jq.runs hr (.inr rfl) (kT (wJ _ 0 m0) (by decide)) rfl rfl cl rfl
 ·
  rw [h] at c1
  have i0:=fun S=>xQ (k:=1) (i:=0) (m:=0) (l:=[a,b,c,d,e,f]) Okl.read rfl rfl S
  have i1:=fun S=>xQ (k:=1) (i:=1) (m:=1) (l:=[a,b,c,d,e,f]) Okl.read rfl rfl S
  have i2:=fun S=>xQ (k:=1) (i:=2) (m:=2) (l:=[a,b,c,d,e,f]) Okl.read rfl rfl S
  have i3:=fun S=>xQ (k:=1) (i:=3) (m:=3) (l:=[a,b,c,d,e,f]) Okl.read rfl rfl S
  have i4:=fun S=>xQ (k:=1) (i:=4) (m:=4) (l:=[a,b,c,d,e,f]) Okl.read rfl rfl S
  have i5:=fun S=>xQ (k:=1) (i:=5) (m:=5) (l:=[a,b,c,d,e,f]) Okl.read rfl rfl S
  have bd:=fun S=>Zd (y0:=.int .i64 a) (y1:=.int .i64 b) (y2:=.int .i64 c) (y3:=.int .i64 d) (y4:=.int .i64 e) (y5:=.int .i64 f) yL yL yL yL yL yL S
  have s1:wM Try.prog 48 (.pointer (some ⟨0,0,none⟩)) (.agg [Value.int .i64 a,.int .i64 b,.int .i64 c,.int .i64 d,.int .i64 e,.int .i64 f,.int .i64 0,.int .i64 0,.int .i64 0,.int .i64 0,.int .i64 0,.int .i64 0,.slice none 0 0].toArray) (Yk m0)=some (zh,qX (Yk m0) 0 ⟨a,b,c,d,e,f,⟨0,0⟩,bk0⟩):=YW g1 ⟨a,b,c,d,e,f,⟨0,0⟩,bk0⟩
  have g2:=wJ (Yk m0) 0 ⟨a,b,c,d,e,f,⟨0,0⟩,bk0⟩
  generalize qX (Yk m0) 0 ⟨a,b,c,d,e,f,⟨0,0⟩,bk0⟩=A2 at s1 g2
  by_cases k0:a=0
  ·
   obtain ⟨t,x,o1,o2⟩:=XZ r
   have c2:=fun S=>yR.v (k:=1) (l:=r) Okl.read (by decide) (by omega) S
   rw [o1] at c2
   have s2:=ajf g2 t
   have g3:=wJ A2 0 ⟨a,b,c,d,e,f,t,bk0⟩
   dsimp only at s2
   generalize qX A2 0 ⟨a,b,c,d,e,f,t,bk0⟩=A3 at s2 g3
   have s3:=YW g3 ⟨a,b,c,d,e,f,t,bk0⟩
   have fin:=kT (wJ A3 0 ⟨a,b,c,d,e,f,t,bk0⟩) (by show (0:Nat)≠2;decide)
   rcases o2 with ⟨rfl,o2⟩ | ⟨rfl,o2,rfl⟩
   ·
    have hP:=ag9 h k0 o2
    have c3:=fun S=>jC.v hP.1 S
    refine ⟨_,_,hP,fun S=>?_⟩
    conv at hr =>
     rhs
     rw [hTe]
     simp only [jq.code,jq.rs,zSs,reduceIte,Nat.reduceEqDiff,Int.reduceEq,Int.reduceLT,Int.reduceLE,if_neg k2,a1,c1,i0,i1,i2,i3,i4,i5,ql,bd,s1,zJ,wK g2,decide_eq_true k0,c2,je,s2,kT g3 ne0,kM (Jq _),c3,qj g3,s3]
    rw [hTe] at hr
    exact jq.runs hr (.inr rfl) fin rfl rfl cl (yO (all2 (yE hP.1.b.okl.le) rfl))
   ·
    have hP:=afB (t:=⟨0,0⟩) h k0 o2
    refine ⟨_,_,hP,fun S=>?_⟩
    conv at hr =>
     rhs
     rw [hTe]
     simp only [jq.code,jq.rs,zSs,reduceIte,Nat.reduceEqDiff,Int.reduceEq,Int.reduceLT,Int.reduceLE,if_neg k2,a1,c1,i0,i1,i2,i3,i4,i5,ql,bd,s1,zJ,wK g2,decide_eq_true k0,c2,je,s2,kT g3 ne0,kM (Jq _),qj g3,s3]
    rw [hTe] at hr
    exact jq.runs hr (.inr rfl) fin rfl rfl cl (yO (all2 (yE hP.1.b.okl.le) rfl))
  by_cases k1:a=1
  ·
   obtain ⟨y,x,⟨hy,hy3,o2⟩,c2⟩:=jJ.v (k:=1) (l:=r) Okl.read (by decide) (by omega)
   have s2:=aiZ g2 y
   have g3:=wJ A2 0 ⟨a,b,c,d,e,f,⟨0,0⟩,y⟩
   dsimp only at s2
   generalize qX A2 0 ⟨a,b,c,d,e,f,⟨0,0⟩,y⟩=A3 at s2 g3
   have s3:=YW g3 ⟨a,b,c,d,e,f,⟨0,0⟩,y⟩
   have fin:=kT (wJ A3 0 ⟨a,b,c,d,e,f,⟨0,0⟩,y⟩) hy.ne
   rcases o2 with ⟨rfl,o2,_⟩ | ⟨rfl,o2,rfl⟩
   ·
    have hP:=ag5 h k1 hy hy3 o2
    have c3:=fun S=>jC.v hP.1 S
    refine ⟨_,_,hP,fun S=>?_⟩
    conv at hr =>
     rhs
     rw [hTe]
     simp only [jq.code,jq.rs,zSs,reduceIte,Nat.reduceEqDiff,Int.reduceEq,Int.reduceLT,Int.reduceLE,if_neg k2,a1,c1,i0,i1,i2,i3,i4,i5,ql,bd,s1,zJ,wK g2,decide_eq_false k0,decide_eq_true k1,c2,zZ,s2,kT g3 hy.ne,kM (Jq _),c3,qj g3,s3]
    rw [hTe] at hr
    exact jq.runs hr (.inr rfl) fin rfl rfl cl (yO (all2 (yE hP.1.b.okl.le) rfl))
   ·
    have hP:=ae1 h k1 o2
    refine ⟨_,_,hP,fun S=>?_⟩
    conv at hr =>
     rhs
     rw [hTe]
     simp only [jq.code,jq.rs,zSs,reduceIte,Nat.reduceEqDiff,Int.reduceEq,Int.reduceLT,Int.reduceLE,if_neg k2,a1,c1,i0,i1,i2,i3,i4,i5,ql,bd,s1,zJ,wK g2,decide_eq_false k0,decide_eq_true k1,c2,zZ,s2,kT g3 ne0,kM (Jq _),qj g3,s3]
    rw [hTe] at hr
    exact jq.runs hr (.inr rfl) fin rfl rfl cl (yO (all2 (yE hP.1.b.okl.le) rfl))
  have hP:=agL h k0 k1
  have c3:=fun S=>jC.v hP.1 S
  have ln:∀ S,Zz Try.prog 33 (by_ 1 r) S=some (.int .i64 r.length,S):=fun S=>Zy Okl.read
  have s3:=YW g2 ⟨a,b,c,d,e,f,⟨0,0⟩,bk0⟩
  have fin:=kT (wJ A2 0 ⟨a,b,c,d,e,f,⟨0,0⟩,bk0⟩) (by show (0:Nat)≠2;decide)
  refine ⟨_,_,hP,fun S=>?_⟩
  conv at hr =>
   rhs
   rw [hTe]
   simp only [jq.code,jq.rs,zSs,reduceIte,Nat.reduceEqDiff,Int.reduceEq,Int.reduceLT,Int.reduceLE,if_neg k2,a1,c1,i0,i1,i2,i3,i4,i5,ql,bd,s1,zJ,wK g2,decide_eq_false k0,decide_eq_false k1,ln,kT g2 ne0,zq (kT g2 ne0),zq (c3 _),gvw,kM (Jq _),qj g2,s3]
  rw [hTe] at hr
  exact jq.runs hr (.inr rfl) fin rfl rfl cl (yO (all2 (yE hP.1.b.okl.le) rfl))
end Go.Proofs.Ytfjogganfjkckaa
namespace Go.Proofs.Ytfjogganfjkckaa
open Go.Abs
theorem vP {x y:wU}:ZA x y=true ↔ x.kind=y.kind∧x.frm=y.frm∧x.index=y.index∧x.view=y.view∧x.value=y.value∧x.prep=y.prep∧x.tx=y.tx∧ZW x.b y.b=true:=by
 simp [ZA]
theorem adU {a b:xJ} (h:ZW a b=true):ZW b a=true:=by
 rw [Zq] at h ⊢;exact ⟨h.1.symm,h.2.1.symm,h.2.2.1.symm,h.2.2.2.1.symm,h.2.2.2.2.symm⟩
theorem acd {a b c:xJ} (h:ZW a b=true) (k:ZW b c=true):ZW a c=true:=by
 rw [Zq] at h k ⊢;exact ⟨h.1.trans k.1,h.2.1.trans k.2.1,h.2.2.1.trans k.2.2.1,h.2.2.2.1.trans k.2.2.2.1,h.2.2.2.2.trans k.2.2.2.2⟩
theorem adI (m:wU):ZA m m=true:=vP.2 ⟨rfl,rfl,rfl,rfl,rfl,rfl,rfl,vK _⟩
theorem like {x y:wU} (h:ZA x y=true):y7 y=y7 x∧kW y=kW x∧Jj y=Jj x:=by
 obtain ⟨h1,h2,h3,h4,h5,h6,h7,h8⟩:=vP.1 h
 have e:y={ x with b:=y.b }:=mk_eq h1.symm h2.symm h3.symm h4.symm h5.symm h6.symm h7.symm rfl
 have hb:kW y=kW x:=by
  obtain ⟨s1,s2,s3,s4,s5⟩:=Zq.1 h8
  simp only [kW,WL,ZR,Xd,← h1,← h2,← h3,← h4,← h5,← h6,← h7,← s1,← s2,← s3,← s4,← s5]
 refine ⟨?_,hb,?_⟩
 ·
  rw [e];exact Vh h8
 ·
  simp only [Jj,mkM,hb,← h2]
theorem acW {x y:wU} (hx:y7 x=true) (hy:y7 y=true) (h:kW x=kW y):ZA x y=true:=by
 have e:=JZ hx
 rw [h,JZ hy] at e
 simp only [Option.some.injEq,Prod.mk.injEq,WL,List.cons.injEq,and_true] at e
 obtain ⟨⟨h1,h2,h3,h4,h5,h6⟩,h7⟩:=e
 have fx:=Zj hx;have fy:=Zj hy
 refine vP.2 ⟨h1.symm,h2.symm,h3.symm,h4.symm,h5.symm,h6.symm,?_,?_⟩
 ·
  by_cases k:x.kind=0
  ·
   have ky:y.kind=0:=by omega
   rw [ZR,ZR,if_pos k,if_pos ky] at h7
   exact (afN (r:=[]) (s:=[]) (fx.tx k) (fy.tx ky) (by rw [List.append_nil,List.append_nil,h7])).1
  ·
   rw [fx.notx k,fy.notx (by omega)]
 ·
  by_cases k:x.kind=1
  ·
   have ky:y.kind=1:=by omega
   rw [ZR,ZR,if_neg (show ¬ y.kind=0 by omega),if_neg (show ¬ x.kind=0 by omega),if_pos ky,if_pos k] at h7
   exact Zq.2 (ac7 (r:=[]) (s:=[]) (fx.blk k) (fy.blk ky) (by rw [List.append_nil,List.append_nil,h7])).1
  ·
   exact acd (fx.noblk k) (adU (fy.noblk (by omega)))
theorem abf (m:wU):mkM m < 2 ^ 64:=ajp _ _
theorem ade {x y:wU} (hx:y7 x=true) (hy:y7 y=true) (h:Jj x=Jj y):ZA x y=true :=
 acW hx hy (ajb (abf x) (abf y) h).2
def YS (l:List UInt8) (m:wU) (e:Int):Prop:=m.Ok∧m.b.txs.length≤3∧((e=0∧y7 m=true∧l=Jj m)∨(e=121∧m=m0∧∀ x,y7 x=true→l≠Jj x))
theorem KQ {l:List UInt8} (h:scan 0 0 l=none):YS l m0 121:=⟨Y4,by simp,.inr ⟨rfl,rfl,fun x hx hl=>by
 have:=Yv (abf x) (kW x)
 rw [show enc (mkM x)++kW x=l from hl.symm,h] at this
 cases this⟩⟩
theorem QG {l r:List UInt8} {n:Nat} (h:scan 0 0 l=some (n,r)) {x:wU} (hl:l=Jj x):n=mkM x∧r=kW x:=by
 have:=Yv (abf x) (kW x)
 rw [show enc (mkM x)++kW x=l from hl.symm,h] at this
 simpa using this
theorem wL.v {k:Nat} {l:List UInt8} (hk:Okl k l) (k2:k≠2) (hl:l.length≤140737488355328):∃ m e,YS l m e∧∀ S,zW Try.prog O wL.id [by_ k l] S=some (.tuple #[mv m,.int .i64 e],S):=by
 have a1:yG Try.prog 48 zn.empty=some (.pointer (some ⟨0,0,none⟩),Yk m0):=Xe zn.empty
 have g1:=kR m0
 have ne0:(0:Nat)≠2:=by decide
 have cl:[by_ k l].all (jP 16)=true:=all1 (qx (k:=k) hk.le)
 obtain ⟨T,hTe⟩:∃ T,T=(by_ k l::zh::zh::zh::zh::zh::zh::zh::zh::zh::zh::zh::zh::zh::zh::zh::zh::zh::zh::zh::zh::zh::zh::zh::zh::zh::zh::zh::zh::zh::zh::zh::zh::zh::zh::zh::[]):=⟨_,rfl⟩
 have hr:zG Try.prog O false wL.code T zn.empty=zG Try.prog O false wL.code T zn.empty:=rfl
 have c1:=fun S=>jr.v hk k2 hl S
 unfold Xk at c1
 have z0:∀ S,yg Try.prog 48 [] S=some (mv m0,S):=fun S=>XV S
 cases h:scan 0 0 l with
 | none =>
  rw [h] at c1
  have s1:=YW g1 m0
  refine ⟨m0,121,KQ h,fun S=>?_⟩
  conv at hr =>
   rhs
   rw [hTe]
   simp only [wL.code,wL.rs,zSs,reduceIte,Nat.reduceEqDiff,Int.reduceEq,Int.reduceLT,Int.reduceLE,if_neg k2,a1,c1,z0,s1]
  rw [hTe] at hr
  exact wL.runs hr (.inr rfl) (kT (wJ _ 0 m0) ne0) rfl rfl cl rfl
 | some nr =>
  obtain ⟨n,r⟩:=nr
  rw [h] at c1
  obtain ⟨hn,hlr⟩:=QV l 0 0 (by decide) (by decide) n r h
  obtain ⟨m,ok,⟨mo,m3,hP⟩,c2⟩:=jq.v (k:=1) (l:=r) Okl.read (by decide) (by omega)
  have a2:yG Try.prog 48 (Yk m0)=some (.pointer (some ⟨1,0,none⟩),Y5 m0 m0):=Xe (Yk m0)
  have s1:=YW (aci m0 m0) m
  have g2:=wJ (Y5 m0 m0) 1 m
  have g3:(qX (Y5 m0 m0) 1 m).get 0=some (.cells (fM m0) (.own []) 0):=(yx (by decide)).trans (abK m0 m0)
  generalize qX (Y5 m0 m0) 1 m=A2 at s1 g2 g3
  have s2:=YW g3 m0
  have f2:=kT (wJ A2 0 m0) ne0
  have s3:=YW g3 m
  have f3:=kT (wJ A2 0 m) mo.b.ne
  rcases hP with ⟨rfl,hR,hb⟩ | ⟨rfl,hP⟩
  ·
   have ck:=fun S=>kL.v m.frm S
   have ct:=fun S=>qm.v (k:=1) (l:=r) Okl.read rfl (by omega) (key:=Xp m.frm) (mark:=n) S
   have em:WQ (Xp m.frm) r=(mkM m:Nat):=by rw [hb];exact (aeu _ _).symm
   by_cases hq:WQ (Xp m.frm) r=n
   ·
    refine ⟨m,0,⟨mo,m3,.inl ⟨rfl,hR,?_⟩⟩,fun S=>?_⟩
    ·
     rw [(aaJ h).1,Jj,← hb]
     congr 2
     omega
    rw [decide_eq_true hq] at ct
    conv at hr =>
     rhs
     rw [hTe]
     simp only [wL.code,wL.rs,zSs,reduceIte,Nat.reduceEqDiff,Int.reduceEq,Int.reduceLT,Int.reduceLE,if_neg k2,a1,c1,c2,a2,s1,zV,yC g2,ck,ct,kT g2 mo.b.ne,s3]
    rw [hTe] at hr
    exact wL.runs hr (.inr rfl) f3 rfl rfl cl (yO (all2 (yE mo.b.okl.le) rfl))
   ·
    refine ⟨m0,121,⟨Y4,by simp,.inr ⟨rfl,rfl,fun x hx hl=>?_⟩⟩,fun S=>?_⟩
    ·
     obtain ⟨i1,i2⟩:=QG h hl
     have hs:=acW hx hR (by rw [← i2,hb])
     refine hq ?_
     rw [em,i1]
     simp only [mkM,(like hs).2.1,(vP.1 hs).2.1]
    rw [decide_eq_false hq] at ct
    conv at hr =>
     rhs
     rw [hTe]
     simp only [wL.code,wL.rs,zSs,reduceIte,Nat.reduceEqDiff,Int.reduceEq,Int.reduceLT,Int.reduceLE,if_neg k2,a1,c1,c2,a2,s1,zV,yC g2,ck,ct,z0,s2]
    rw [hTe] at hr
    exact wL.runs hr (.inr rfl) f2 rfl rfl cl rfl
  ·
   refine ⟨m0,121,⟨Y4,by simp,.inr ⟨rfl,rfl,fun x hx hl=>hP x hx (QG h hl).2⟩⟩,fun S=>?_⟩
   conv at hr =>
    rhs
    rw [hTe]
    simp only [wL.code,wL.rs,zSs,reduceIte,Nat.reduceEqDiff,Int.reduceEq,Int.reduceLT,Int.reduceLE,if_neg k2,a1,c1,c2,a2,s1,z0,s2]
   rw [hTe] at hr
   exact wL.runs hr (.inr rfl) f2 rfl rfl cl rfl
theorem Ve {l r:List UInt8} {n:Nat} (h:scan 0 0 l=some (n,r)) {m:wU} (hm:m.Ok) (h3:m.b.txs.length≤3) (hP:∀ x,y7 x=true→r=kW x→ZA x m=true) :
  YS l (if y7 m=true∧Jj m=l then m else m0) (if y7 m=true∧Jj m=l then 0 else 121):=by
 by_cases hq:y7 m=true∧Jj m=l
 ·
  rw [if_pos hq,if_pos hq]
  exact ⟨hm,h3,.inl ⟨rfl,hq.1,hq.2.symm⟩⟩
 ·
  rw [if_neg hq,if_neg hq]
  refine ⟨Y4,by simp,.inr ⟨rfl,rfl,fun x hx hl=>hq ?_⟩⟩
  have hs:=like (hP x hx (QG h hl).2)
  exact ⟨hs.1.trans hx,hs.2.2.trans hl.symm⟩
theorem zy.v {k:Nat} {l:List UInt8} (hk:Okl k l) (k2:k≠2) (hl:l.length≤140737488355328):∃ m e,YS l m e∧∀ S,zW Try.prog O zy.id [by_ k l] S=some (.tuple #[mv m,.int .i64 e],S):=by
 have a1:yG Try.prog 48 zn.empty=some (.pointer (some ⟨0,0,none⟩),Yk m0):=Xe zn.empty
 have g1:=kR m0
 have ne0:(0:Nat)≠2:=by decide
 have cl:[by_ k l].all (jP 16)=true:=all1 (qx (k:=k) hk.le)
 obtain ⟨T,hTe⟩:∃ T,T=(by_ k l::zh::zh::zh::zh::zh::zh::zh::zh::zh::zh::zh::zh::zh::zh::zh::zh::zh::zh::zh::zh::zh::zh::zh::zh::zh::zh::zh::zh::zh::zh::zh::zh::zh::zh::zh::zh::zh::zh::zh::zh::zh::zh::zh::zh::zh::zh::zh::zh::zh::zh::zh::zh::zh::zh::zh::zh::zh::zh::zh::zh::zh::zh::zh::zh::zh::zh::zh::zh::zh::zh::zh::zh::zh::zh::zh::zh::zh::zh::zh::zh::zh::zh::zh::[]):=⟨_,rfl⟩
 have hr:zG Try.prog O false zy.code T zn.empty=zG Try.prog O false zy.code T zn.empty:=rfl
 have c1:=fun S=>zB.v hk k2 hl S
 unfold Xk at c1
 have z0:∀ S,yg Try.prog 48 [] S=some (mv m0,S):=fun S=>XV S
 cases h:scan 0 0 l with
 | none =>
  rw [h] at c1
  have s1:=YW g1 m0
  refine ⟨m0,121,KQ h,fun S=>?_⟩
  conv at hr =>
   rhs
   rw [hTe]
   simp only [zy.code,zy.rs,zSs,reduceIte,Nat.reduceEqDiff,Int.reduceEq,Int.reduceLT,Int.reduceLE,if_neg k2,a1,c1,z0,s1]
  rw [hTe] at hr
  exact zy.runs hr (.inr rfl) (kT (wJ _ 0 m0) ne0) rfl rfl cl rfl
 | some nr =>
  obtain ⟨n,r0⟩:=nr
  rw [h] at c1
  obtain ⟨hn,hlr⟩:=QV l 0 0 (by decide) (by decide) n r0 h
  have c2:=fun S=>zx.v (k:=1) (l:=r0) (many:=6) Okl.read (by decide) (by omega) S
  have r1:∀ k0 k1,vO k0 k1 6 r0=_:=fun k0 k1=>xI (m:=6) (by decide) (by decide)
  rw [r1] at c2
  rcases afZ r0 with h6 | ⟨a,b,c,d,e,f,r,h6,hlr6⟩
  ·
   rw [h6] at c2
   have s1:=YW g1 m0
   refine ⟨m0,121,⟨Y4,by simp,.inr ⟨rfl,rfl,fun x hx hl=>?_⟩⟩,fun S=>?_⟩
   ·
    have:=JZ hx
    rw [← (QG h hl).2,h6] at this
    cases this
   conv at hr =>
    rhs
    rw [hTe]
    simp only [zy.code,zy.rs,zSs,reduceIte,Nat.reduceEqDiff,Int.reduceEq,Int.reduceLT,Int.reduceLE,if_neg k2,a1,c1,c2,z0,s1]
   rw [hTe] at hr
   exact zy.runs hr (.inr rfl) (kT (wJ _ 0 m0) ne0) rfl rfl cl rfl
  ·
   rw [h6] at c2
   have few:=((yQ _ _ _ _).mp h6).2.2
   have i0:=fun S=>xQ (k:=1) (i:=0) (m:=0) (l:=[a,b,c,d,e,f]) Okl.read rfl rfl S
   have i1:=fun S=>xQ (k:=1) (i:=1) (m:=1) (l:=[a,b,c,d,e,f]) Okl.read rfl rfl S
   have i2:=fun S=>xQ (k:=1) (i:=2) (m:=2) (l:=[a,b,c,d,e,f]) Okl.read rfl rfl S
   have i3:=fun S=>xQ (k:=1) (i:=3) (m:=3) (l:=[a,b,c,d,e,f]) Okl.read rfl rfl S
   have i4:=fun S=>xQ (k:=1) (i:=4) (m:=4) (l:=[a,b,c,d,e,f]) Okl.read rfl rfl S
   have i5:=fun S=>xQ (k:=1) (i:=5) (m:=5) (l:=[a,b,c,d,e,f]) Okl.read rfl rfl S
   have bd:=fun S=>Zd (y0:=.int .i64 a) (y1:=.int .i64 b) (y2:=.int .i64 c) (y3:=.int .i64 d) (y4:=.int .i64 e) (y5:=.int .i64 f) yL yL yL yL yL yL S
   have a2:yG Try.prog 48 (Yk m0)=some (.pointer (some ⟨1,0,none⟩),Y5 m0 m0):=Xe (Yk m0)
   have s1:wM Try.prog 48 (.pointer (some ⟨1,0,none⟩)) (.agg [Value.int .i64 a,.int .i64 b,.int .i64 c,.int .i64 d,.int .i64 e,.int .i64 f,.int .i64 0,.int .i64 0,.int .i64 0,.int .i64 0,.int .i64 0,.int .i64 0,.slice none 0 0].toArray) (Y5 m0 m0)=some (zh,qX (Y5 m0 m0) 1 ⟨a,b,c,d,e,f,⟨0,0⟩,bk0⟩):=YW (aci m0 m0) ⟨a,b,c,d,e,f,⟨0,0⟩,bk0⟩
   have g2:=wJ (Y5 m0 m0) 1 ⟨a,b,c,d,e,f,⟨0,0⟩,bk0⟩
   have g3:(qX (Y5 m0 m0) 1 ⟨a,b,c,d,e,f,⟨0,0⟩,bk0⟩).get 0=some (.cells (fM m0) (.own []) 0):=(yx (by decide)).trans (abK m0 m0)
   generalize qX (Y5 m0 m0) 1 ⟨a,b,c,d,e,f,⟨0,0⟩,bk0⟩=A2 at s1 g2 g3
   have okA:okq 3 (.agg [Value.int .i64 a,.int .i64 b,.int .i64 c,.int .i64 d,.int .i64 e,.int .i64 f,.int .i64 0,.int .i64 0,.int .i64 0,.int .i64 0,.int .i64 0,.int .i64 0,.slice none 0 0].toArray)=true:=rfl
   have fin:∀ (m:wU) (A:zn),A.get 1=some (.cells (fM m) (.own []) 0)→A.get 0=some (.cells (fM m0) (.own []) 0)→m.Ok→∀ S,
     wM Try.prog 48 (.pointer (some ⟨0,0,none⟩)) (mv m) A=some (zh,qX A 0 m)∧wM Try.prog 48 (.pointer (some ⟨0,0,none⟩)) (mv m0) A=some (zh,qX A 0 m0)∧zW Try.prog O 19 [mv m] S=some (aa5 m,S) :=
    fun m A h1 h0 hm S=>⟨YW h0 m,YW h0 m0,zM.v hm S⟩
   have cs1:∀ S,ZO Try.prog 33 9 (by_ k l) S=some (.string ⟨l.toArray⟩,S):=fun S=>Yu hk
   have cs2:∀ (x:List UInt8) S,ZO Try.prog 33 9 (by_ 1 x) S=some (.string ⟨x.toArray⟩,S):=fun x S=>Yu Okl.read
   have tb:∀ t:TxV,t.Ok→wU.Ok ⟨a,b,c,d,e,f,t,bk0⟩:=fun t ht=>⟨ok0,ht,yM (few _ (by simp)),yM (few _ (by simp)),yM (few _ (by simp)),yM (few _ (by simp)),yM (few _ (by simp)),yM (few _ (by simp))⟩
   by_cases k0:a=0
   ·
    obtain ⟨t,x,o1,o2⟩:=XZ r
    have c3:=fun S=>zS.v (k:=1) (l:=r) Okl.read (by decide) (by omega) S
    rw [o1] at c3
    have s2:=ajf g2 t
    have q1:=wJ A2 1 ⟨a,b,c,d,e,f,t,bk0⟩
    have q0:(qX A2 1 ⟨a,b,c,d,e,f,t,bk0⟩).get 0=some (.cells (fM m0) (.own []) 0):=(yx (by decide)).trans g3
    dsimp only at s2
    generalize qX A2 1 ⟨a,b,c,d,e,f,t,bk0⟩=A3 at s2 q1 q0
    have ht:t.Ok:=by
     rcases o2 with ⟨_,o2⟩ | ⟨_,_,rfl⟩
     ·
      exact acB ((JD r t).1 o2).1
     ·
      exact Y4.tx
    have hm:=tb t ht
    have hP:∀ x,y7 x=true→r0=kW x→ZA x ⟨a,b,c,d,e,f,t,bk0⟩=true:=fun x hx hl=>by
     obtain ⟨i1,i2,i3,i4,i5,i6,i7⟩:=Wh h6 hx hl
     have hf:=Zj hx
     have k0:x.kind=0:=by omega
     have h3:=(JD r x.tx).2 ⟨hf.tx k0,by rw [← i7,ZR,if_pos k0]⟩
     refine vP.2 ⟨i1,i2,i3,i4,i5,i6,?_,hf.noblk (by omega)⟩
     rcases o2 with ⟨_,o2⟩ | ⟨_,o2,_⟩
     ·
      rw [o2] at h3;injection h3 with h3;exact h3.symm
     ·
      rw [o2] at h3;cases h3
    have hR:=Ve h hm (by simp) hP
    obtain ⟨w0,w1,_⟩:=fin _ A3 q1 q0 hm zn.empty
    have w2:=fun S=>(fin _ A3 q1 q0 hm S).2.2
    have kk:=decide_eq_true k0
    have kl:decide (a=1)=false:=decide_eq_false (by omega)
    have hcm:=yE (d:=9) hm.b.okl.le
    refine ⟨_,_,hR,fun S=>?_⟩
    unfold aa5 at w2
    by_cases hb:y7 (⟨a,b,c,d,e,f,t,bk0⟩:wU)=true
    ·
     simp only [if_pos hb] at w2
     by_cases hq:Jj (⟨a,b,c,d,e,f,t,bk0⟩:wU)=l
     ·
      rw [if_pos ⟨hb,hq⟩,if_pos ⟨hb,hq⟩]
      have dq:=decide_eq_true hq
      conv at hr =>
       rhs
       rw [hTe]
       simp only [zy.code,zy.rs,zSs,reduceIte,Nat.reduceEqDiff,Int.reduceEq,Int.reduceLT,Int.reduceLE,if_neg k2,a1,c1,c2,i0,i1,i2,i3,i4,i5,ql,kM (JW (d:=3)),kM okA,bd,a2,s1,xC,zJ,wK g2,kk,c3,je,s2,kl,wK q1,kT q1 ne0,w2,cs1,cs2,xO,dq,w0]
      rw [hTe] at hr
      exact zy.runs hr (.inr rfl) (kT (wJ A3 0 (⟨a,b,c,d,e,f,t,bk0⟩:wU)) ne0) rfl rfl cl (yO (all2 hcm rfl))
     ·
      rw [if_neg (fun h=>hq h.2),if_neg (fun h=>hq h.2)]
      have dq:=decide_eq_false hq
      conv at hr =>
       rhs
       rw [hTe]
       simp only [zy.code,zy.rs,zSs,reduceIte,Nat.reduceEqDiff,Int.reduceEq,Int.reduceLT,Int.reduceLE,if_neg k2,a1,c1,c2,i0,i1,i2,i3,i4,i5,ql,kM (JW (d:=3)),kM okA,bd,a2,s1,xC,zJ,wK g2,kk,c3,je,s2,kl,wK q1,kT q1 ne0,w2,cs1,cs2,xO,dq,z0,w1]
      rw [hTe] at hr
      exact zy.runs hr (.inr rfl) (kT (wJ A3 0 m0) ne0) rfl rfl cl rfl
    ·
     simp only [if_neg hb] at w2
     rw [if_neg (fun h=>hb h.1),if_neg (fun h=>hb h.1)]
     conv at hr =>
      rhs
      rw [hTe]
      simp only [zy.code,zy.rs,zSs,reduceIte,Nat.reduceEqDiff,Int.reduceEq,Int.reduceLT,Int.reduceLE,if_neg k2,a1,c1,c2,i0,i1,i2,i3,i4,i5,ql,kM (JW (d:=3)),kM okA,bd,a2,s1,xC,zJ,wK g2,kk,c3,je,s2,kl,wK q1,kT q1 ne0,w2,cs1,cs2,xO,z0,w1]
     rw [hTe] at hr
     exact zy.runs hr (.inr rfl) (kT (wJ A3 0 m0) ne0) rfl rfl cl rfl
   by_cases k1:a=1
   ·
    obtain ⟨y,x,⟨hy,hy3,o2⟩,c3⟩:=zN.v (k:=1) (l:=r) Okl.read (by decide) (by omega)
    have s2:=aiZ g2 y
    have q1:=wJ A2 1 ⟨a,b,c,d,e,f,⟨0,0⟩,y⟩
    have q0:(qX A2 1 ⟨a,b,c,d,e,f,⟨0,0⟩,y⟩).get 0=some (.cells (fM m0) (.own []) 0):=(yx (by decide)).trans g3
    dsimp only at s2
    generalize qX A2 1 ⟨a,b,c,d,e,f,⟨0,0⟩,y⟩=A3 at s2 q1 q0
    have hm:wU.Ok ⟨a,b,c,d,e,f,⟨0,0⟩,y⟩:=⟨hy,Y4.tx,yM (few _ (by simp)),yM (few _ (by simp)),yM (few _ (by simp)),yM (few _ (by simp)),yM (few _ (by simp)),yM (few _ (by simp))⟩
    have hP:∀ x,y7 x=true→r0=kW x→ZA x ⟨a,b,c,d,e,f,⟨0,0⟩,y⟩=true:=fun x hx hl=>by
     obtain ⟨i1,i2,i3,i4,i5,i6,i7⟩:=Wh h6 hx hl
     have hf:=Zj hx
     have k1:x.kind=1:=by omega
     have h3:=(WJ r ⟨x.b.slot,x.b.miner,x.b.variant,x.b.parent,0,x.b.txs⟩).2 ⟨⟨hf.blk k1,rfl⟩,by rw [← i7,ZR,if_neg (by omega),if_pos k1];rfl⟩
     refine vP.2 ⟨i1,i2,i3,i4,i5,i6,hf.notx (by omega),?_⟩
     rcases o2 with ⟨_,o2,_⟩ | ⟨_,o2,_⟩
     ·
      rw [o2] at h3
      simp only [Option.some.injEq,xJ.mk.injEq,true_and] at h3
      exact Zq.2 ⟨h3.1.symm,h3.2.1.symm,h3.2.2.1.symm,h3.2.2.2.1.symm,h3.2.2.2.2.symm⟩
     ·
      rw [o2] at h3;cases h3
    have hR:=Ve h hm hy3 hP
    obtain ⟨w0,w1,_⟩:=fin _ A3 q1 q0 hm zn.empty
    have w2:=fun S=>(fin _ A3 q1 q0 hm S).2.2
    have kk:=decide_eq_true k1
    have kl:decide (a=0)=false:=decide_eq_false k0
    have hcm:=yE (d:=9) hm.b.okl.le
    refine ⟨_,_,hR,fun S=>?_⟩
    unfold aa5 at w2
    by_cases hb:y7 (⟨a,b,c,d,e,f,⟨0,0⟩,y⟩:wU)=true
    ·
     simp only [if_pos hb] at w2
     by_cases hq:Jj (⟨a,b,c,d,e,f,⟨0,0⟩,y⟩:wU)=l
     ·
      rw [if_pos ⟨hb,hq⟩,if_pos ⟨hb,hq⟩]
      have dq:=decide_eq_true hq
      conv at hr =>
       rhs
       rw [hTe]
       simp only [zy.code,zy.rs,zSs,reduceIte,Nat.reduceEqDiff,Int.reduceEq,Int.reduceLT,Int.reduceLE,if_neg k2,a1,c1,c2,i0,i1,i2,i3,i4,i5,ql,kM (JW (d:=3)),kM okA,bd,a2,s1,xC,zJ,wK g2,kk,c3,zZ,s2,kl,wK q1,kT q1 hy.ne,w2,cs1,cs2,xO,dq,w0]
      rw [hTe] at hr
      exact zy.runs hr (.inr rfl) (kT (wJ A3 0 (⟨a,b,c,d,e,f,⟨0,0⟩,y⟩:wU)) hy.ne) rfl rfl cl (yO (all2 hcm rfl))
     ·
      rw [if_neg (fun h=>hq h.2),if_neg (fun h=>hq h.2)]
      have dq:=decide_eq_false hq
      conv at hr =>
       rhs
       rw [hTe]
       simp only [zy.code,zy.rs,zSs,reduceIte,Nat.reduceEqDiff,Int.reduceEq,Int.reduceLT,Int.reduceLE,if_neg k2,a1,c1,c2,i0,i1,i2,i3,i4,i5,ql,kM (JW (d:=3)),kM okA,bd,a2,s1,xC,zJ,wK g2,kk,c3,zZ,s2,kl,wK q1,kT q1 hy.ne,w2,cs1,cs2,xO,dq,z0,w1]
      rw [hTe] at hr
      exact zy.runs hr (.inr rfl) (kT (wJ A3 0 m0) ne0) rfl rfl cl rfl
    ·
     simp only [if_neg hb] at w2
     rw [if_neg (fun h=>hb h.1),if_neg (fun h=>hb h.1)]
     conv at hr =>
      rhs
      rw [hTe]
      simp only [zy.code,zy.rs,zSs,reduceIte,Nat.reduceEqDiff,Int.reduceEq,Int.reduceLT,Int.reduceLE,if_neg k2,a1,c1,c2,i0,i1,i2,i3,i4,i5,ql,kM (JW (d:=3)),kM okA,bd,a2,s1,xC,zJ,wK g2,kk,c3,zZ,s2,kl,wK q1,kT q1 hy.ne,w2,cs1,cs2,xO,z0,w1]
     rw [hTe] at hr
     exact zy.runs hr (.inr rfl) (kT (wJ A3 0 m0) ne0) rfl rfl cl rfl
   have hm:=tb ⟨0,0⟩ Y4.tx
   have hP:∀ x,y7 x=true→r0=kW x→ZA x ⟨a,b,c,d,e,f,⟨0,0⟩,bk0⟩=true:=fun x hx hl=>by
    obtain ⟨i1,i2,i3,i4,i5,i6,i7⟩:=Wh h6 hx hl
    have hf:=Zj hx
    exact vP.2 ⟨i1,i2,i3,i4,i5,i6,hf.notx (by omega),hf.noblk (by omega)⟩
   have hR:=Ve h hm (by simp) hP
   obtain ⟨w0,w1,_⟩:=fin _ A2 g2 g3 hm zn.empty
   have w2:=fun S=>(fin _ A2 g2 g3 hm S).2.2
   have kk:=decide_eq_false k0
   have kl:=decide_eq_false k1
   have hcm:=yE (d:=9) hm.b.okl.le
   refine ⟨_,_,hR,fun S=>?_⟩
   unfold aa5 at w2
   by_cases hb:y7 (⟨a,b,c,d,e,f,⟨0,0⟩,bk0⟩:wU)=true
   ·
    simp only [if_pos hb] at w2
    by_cases hq:Jj (⟨a,b,c,d,e,f,⟨0,0⟩,bk0⟩:wU)=l
    ·
     rw [if_pos ⟨hb,hq⟩,if_pos ⟨hb,hq⟩]
     have dq:=decide_eq_true hq
     conv at hr =>
      rhs
      rw [hTe]
      simp only [zy.code,zy.rs,zSs,reduceIte,Nat.reduceEqDiff,Int.reduceEq,Int.reduceLT,Int.reduceLE,if_neg k2,a1,c1,c2,i0,i1,i2,i3,i4,i5,ql,kM (JW (d:=3)),kM okA,bd,a2,s1,xC,zJ,wK g2,kk,kl,kT g2 ne0,w2,cs1,cs2,xO,dq,w0]
     rw [hTe] at hr
     exact zy.runs hr (.inr rfl) (kT (wJ A2 0 (⟨a,b,c,d,e,f,⟨0,0⟩,bk0⟩:wU)) ne0) rfl rfl cl (yO (all2 hcm rfl))
    ·
     rw [if_neg (fun h=>hq h.2),if_neg (fun h=>hq h.2)]
     have dq:=decide_eq_false hq
     conv at hr =>
      rhs
      rw [hTe]
      simp only [zy.code,zy.rs,zSs,reduceIte,Nat.reduceEqDiff,Int.reduceEq,Int.reduceLT,Int.reduceLE,if_neg k2,a1,c1,c2,i0,i1,i2,i3,i4,i5,ql,kM (JW (d:=3)),kM okA,bd,a2,s1,xC,zJ,wK g2,kk,kl,kT g2 ne0,w2,cs1,cs2,xO,dq,z0,w1]
     rw [hTe] at hr
     exact zy.runs hr (.inr rfl) (kT (wJ A2 0 m0) ne0) rfl rfl cl rfl
   ·
    simp only [if_neg hb] at w2
    rw [if_neg (fun h=>hb h.1),if_neg (fun h=>hb h.1)]
    conv at hr =>
     rhs
     rw [hTe]
     simp only [zy.code,zy.rs,zSs,reduceIte,Nat.reduceEqDiff,Int.reduceEq,Int.reduceLT,Int.reduceLE,if_neg k2,a1,c1,c2,i0,i1,i2,i3,i4,i5,ql,kM (JW (d:=3)),kM okA,bd,a2,s1,xC,zJ,wK g2,kk,kl,kT g2 ne0,w2,cs1,cs2,xO,z0,w1]
    rw [hTe] at hr
    exact zy.runs hr (.inr rfl) (kT (wJ A2 0 m0) ne0) rfl rfl cl rfl
end Go.Proofs.Ytfjogganfjkckaa
namespace Go.Proofs.Ytfjogganfjkckaa
open Go.Abs
theorem abx (m:wU) (S:zn):∃ S2,wM Try.prog 48 (.pointer (some ⟨S.next,0,none⟩)) (mv m) (S.push (.cells (fM m0) (.own []) 0))=some (zh,S2)∧S2.get S.next=some (.cells (fM m) (.own []) 0)∧Ext S S2∧S.next < S2.next :=
 Kv S (by rw [qI];rfl) Xa rfl (ajZ m)
abbrev tM:Ty:=.pair (.int .i64) (.pair (.int .i64) (.pair (.int .i64) (.pair (.int .i64) (.pair (.int .i64) (.pair (.int .i64) (.pair tTx (.pair tBk .unit)))))))
theorem ak1 (x:tM.Val) (hg:tM.Good x):∃ m:wU,tM.WO x=fM m∧m.Ok:=by
 obtain ⟨a,b,c,d,e,f,t,y,u⟩:=x
 obtain ⟨h1,h2,h3,h4,h5,h6,h7,h8,_⟩:=hg
 obtain ⟨t',t1,ht⟩:=ajO t h7
 obtain ⟨y',y1,hy⟩:=akB y h8
 refine ⟨⟨a,b,c,d,e,f,t',y'⟩,?_,⟨hy,ht,Yw h1,Yw h2,Yw h3,Yw h4,Yw h5,Yw h6⟩⟩
 show [Value.int .i64 a]++([Value.int .i64 b]++([Value.int .i64 c]++([Value.int .i64 d]++([Value.int .i64 e]++([Value.int .i64 f]++(tTx.WO t++(tBk.WO y++[])))))))=_
 rw [t1,y1];rfl
theorem XY {l:List UInt8} {x y:wU} {e f:Int} (h:YS l x e) (g:YS l y f):ZA x y=true∧e=f:=by
 obtain ⟨_,_,⟨rfl,h1,h2⟩ | ⟨rfl,rfl,h2⟩⟩:=h <;> obtain ⟨_,_,⟨rfl,g1,g2⟩ | ⟨rfl,rfl,g2⟩⟩:=g
 ·
  exact ⟨ade h1 g1 (h2.symm.trans g2),rfl⟩
 ·
  exact absurd h2 (g2 _ h1)
 ·
  exact absurd g2 (h2 _ g1)
 ·
  exact ⟨adI _,rfl⟩
theorem aag {m:wU} (h:y7 m=true):(Jj m).length≤210:=by
 unfold Jj
 have:=aas (Zj h);have:=Ju (abf m)
 rw [List.length_append];omega
end Go.Proofs.Ytfjogganfjkckaa
namespace Go.Proofs.Ytfjogganfjkckaa
open Go.Abs
abbrev encS (s:List UInt8):Value:=.string ⟨s.toArray⟩
abbrev encI (n:Int):Value:=.int .i64 n
theorem afF:adF encS .string:=⟨fun _=>rfl,fun a b=>by
 show some (a.toArray == b.toArray)=_
 congr 1
 by_cases h:a=b
 ·
  subst h;simp
 ·
  rw [decide_eq_false h]
  refine beq_eq_false_iff_ne.2 fun h2=>h ?_
  have:=congrArg Array.toList h2
  exact this⟩
abbrev abb (l:List (List UInt8)):List (List UInt8×Value):=l.map fun s=>(s,.bool true)
abbrev Qi (l:List (Int×List UInt8)):List (Int×Value):=l.map fun p=>(p.1,encS p.2)
theorem ahc (l:List (List UInt8)) (s:List UInt8):(Xz (abb l) s).getD (.bool false)=.bool (decide (s ∈ l)):=by
 induction l with
 | nil=>rfl
 | cons a l ih =>
  simp only [List.map_cons,Xz]
  by_cases h:a=s
  ·
   simp [h]
  ·
   rw [if_neg h,ih]
   have:s≠a:=fun h2=>h h2.symm
   simp [this]
theorem ahw (l:List (List UInt8)) (s:List UInt8):ahs (abb l) s (.bool true)=abb (if s ∈ l then l else l++[s]):=by
 induction l with
 | nil=>rfl
 | cons a l ih =>
  simp only [List.map_cons,ahs]
  by_cases h:a=s
  ·
   simp [h]
  ·
   rw [if_neg h,ih]
   have:s≠a:=fun h2=>h h2.symm
   by_cases h2:s ∈ l <;> simp [h2,this]
def aan:List (Int×List UInt8)→Int→Option (List UInt8)
 | [],_=>none
 | (a,t)::l,n=>if a=n then some t else aan l n
theorem KH (l:List (Int×List UInt8)) (n:Int):Xz (Qi l) n=(aan l n).map encS:=by
 induction l with
 | nil=>rfl
 | cons a l ih =>
  simp only [List.map_cons,Xz,aan]
  by_cases h:a.1=n
  ·
   rw [if_pos h,if_pos h];rfl
  ·
   rw [if_neg h,if_neg h,ih]
theorem afM {l:List (Int×List UInt8)} {n:Int} (h:aan l n=none) (t:List UInt8):ahs (Qi l) n (encS t)=Qi (l++[(n,t)]):=by
 rw [VZ (by rw [KH,h];rfl)]
 simp
structure Gt (S:zn) (q:Nat) (bad:List Int) (said:List (List UInt8)) (known:List (Int×List UInt8)):Prop where
 lt:q < S.next
 cell:∃ k a b,Okl k bad∧k≠2∧bad.length≤17592186044416∧a < S.next∧b < S.next∧a≠b∧S.get q=some (.cells [iz k bad,.map (some a),.map (some b)] (.own []) 0)∧MapAt encS S a (abb said)∧MapAt encI S b (Qi known)
theorem Gt.ext {S S1:zn} {q:Nat} {bad:List Int} {said:List (List UInt8)} {known:List (Int×List UInt8)} (h:Gt S q bad said known) (k:Ext S S1):Gt S1 q bad said known:=by
 obtain ⟨k0,a,b,h1,h2,h3,h4,h5,h6,h7,h8,h9⟩:=h.cell
 exact ⟨Nat.lt_of_lt_of_le h.lt k.1,k0,a,b,h1,h2,h3,Nat.lt_of_lt_of_le h4 k.1,Nat.lt_of_lt_of_le h5 k.1,h6,by rw [k.2 q h.lt];exact h7,h8.keep (k.2 a h4),h9.keep (k.2 b h5)⟩
section
variable {S:zn} {q:Nat} {bad:List Int} {said:List (List UInt8)} {known:List (Int×List UInt8)}
theorem wH.v (h:Gt S q bad said known) (n:Int):zW Try.prog O wH.id [.pointer (some ⟨q,0,none⟩),.int .i64 n] S=some (.bool (bad.any fun x=>decide (n=x)),S):=by
 obtain ⟨T,hTe⟩:∃ T,T=(.pointer (some ⟨q,0,none⟩)::.int .i64 n::zh::zh::zh::zh::zh::zh::zh::zh::zh::[]):=⟨_,rfl⟩
 have hr:zG Try.prog O false wH.code T S=zG Try.prog O false wH.code T S:=rfl
 obtain ⟨k0,a,b,h1,h2,h3,h4,h5,h6,h7,h8,h9⟩:=h.cell
 have l1:jf Try.prog false 24 (.pointer (some ⟨q,0+0,none⟩)) S=some (iz k0 bad,S):=by
  have:=QA (t:=24) (o:=0+0) h7 aiO rfl (by intro l;unfold iz vs sv;split <;> (intro hh;cases hh))
  rwa [XE,if_neg h2] at this
 have c1:=fun S=>slices_Contains.v h1 h2 h3 (v:=n) S
 conv at hr =>
  rhs
  rw [hTe]
  simp only [wH.code,wH.rs,zSs,reduceIte,Nat.reduceEqDiff,Int.reduceEq,Int.reduceLT,Int.reduceLE,qO,Xm,l1,if_neg h2,c1]
 rw [hTe] at hr
 exact wH.runs hr (.inr rfl)
end
def WM (b:xJ):List UInt8:=if jU b then Xd b else []
theorem yS.v {b:xJ} (hb:b.Ok) (S:zn):zW Try.prog O yS.id [bv b] S=some (encS (WM b),S):=by
 obtain ⟨T,hTe⟩:∃ T,T=(bv b::zh::zh::zh::zh::zh::zh::zh::zh::zh::zh::zh::[]):=⟨_,rfl⟩
 have hr:zG Try.prog O false yS.code T zn.empty=zG Try.prog O false yS.code T zn.empty:=rfl
 obtain ⟨k,x,e,h1,_,h3,h4⟩:=adL b
 have c1:=fun S=>wG.v hb S
 rw [h3] at c1
 have hx:WM b=x:=by
  unfold WM
  rcases h4 with ⟨_,g1,g2,_⟩ | ⟨_,g1,g2,_⟩
  ·
   rw [if_pos g1,g2]
  ·
   rw [g1,g2];rfl
 have s1:∀ S,ZO Try.prog 33 9 (by_ (if k=2 then 1 else k) x) S=some (.string ⟨x.toArray⟩,S):=fun S=>Yu h1.dem
 have lb:=Xg (qc b) hb.ne
 rw [hx]
 conv at hr =>
  rhs
  rw [hTe]
  simp only [yS.code,yS.rs,zSs,reduceIte,Nat.reduceEqDiff,Int.reduceEq,Int.reduceLT,Int.reduceLE,JI,lb,c1,XE,s1]
 rw [hTe] at hr
 exact yS.runs hr (.inr rfl) (all1 (yI hb.okl.le)) rfl
theorem wF.v {k:Nat} {l:List Int} (hk:Okl k l) (k2:k≠2) (hl:l.length≤17592186044416) (S:zn):zW Try.prog O wF.id [iz k l] S=some (iz (if k=0 then 0 else 2) l,S):=by
 obtain ⟨T,hTe⟩:∃ T,T=(iz k l::zh::zh::zh::zh::zh::zh::zh::[]):=⟨_,rfl⟩
 have hr:zG Try.prog O false wF.code T S=zG Try.prog O false wF.code T S:=rfl
 by_cases h0:k=0
 ·
  subst h0
  have:=hk.nil rfl
  subst this
  conv at hr =>
   rhs
   rw [hTe]
   simp only [wF.code,wF.rs,zSs,reduceIte,Nat.reduceEqDiff,Int.reduceEq,Int.reduceLT,Int.reduceLE,iz]
  rw [hTe] at hr
  exact wF.runs hr (.inr rfl)
 ·
  have cp:∀ S,wP Try.prog 24 24 (iz 2 []) (iz k l) S=some (iz 2 l,S):=fun S=>by
   rw [YJ Okl.own (by decide) hk (by simp;omega),if_neg (fun h=>by have:=h.1;omega),List.nil_append]
  have iz0:∀ S,jH Try.prog 24 0 [] S=some (iz 2 [],S):=fun S=>by rw [Y2];rfl
  rw [if_neg h0]
  conv at hr =>
   rhs
   rw [hTe]
   simp only [wF.code,wF.rs,zSs,reduceIte,Nat.reduceEqDiff,Int.reduceEq,Int.reduceLT,Int.reduceLE,if_neg k2,ag0 hk,decide_eq_false h0,cp,iz0]
  rw [hTe] at hr
  exact wF.runs hr (.inr rfl)
theorem qH.v {k:Nat} {l:List Int} (hk:Okl k l) (k2:k≠2) (hl:l.length≤17592186044416) (S:zn):∃ q S1,zW Try.prog O qH.id [iz k l] S=some (.pointer (some ⟨q,0,none⟩),S1)∧Gt S1 q l [] []∧Ext S S1∧S.next≤q:=by
 obtain ⟨T,hTe⟩:∃ T,T=(iz k l::zh::zh::zh::zh::zh::zh::zh::zh::[]):=⟨_,rfl⟩
 have hr:zG Try.prog O false qH.code T S=zG Try.prog O false qH.code T S:=rfl
 have c1:=fun S=>wF.v hk k2 hl S
 have hk0:Okl (if k=0 then 0 else 2) l:=⟨by split <;> omega,fun h=>by split at h <;> first | (exact hk.nil ‹_›) | omega⟩
 generalize (if k=0 then 0 else 2)=k0 at c1 hk0
 obtain ⟨S2,m1,m2,m3,m4,m5⟩:=abU (P:=Try.prog) (t:=59) encS S
 obtain ⟨S3,n1,n2,n3,n4,n5⟩:=abU (P:=Try.prog) (t:=60) encI S2
 have bd:=fun S=>Z4 (y0:=iz (if k0=2 then 1 else k0) l) (y1:=.map (some S.next)) (y2:=.map (some S2.next)) YG rfl rfl S
 have bd:∀ S5,yg Try.prog 62 [(0,iz (if k0=2 then 1 else k0) l),(1,.map (some S.next)),(2,.map (some S2.next))] S5=some (.agg [iz (if k0=2 then 1 else k0) l,.map (some S.next),.map (some S2.next)].toArray,S5):=fun S5=>Z4 YG rfl rfl S5
 obtain ⟨S4,b1,b2,b3,b4⟩:=aiw (.agg [iz (if k0=2 then 1 else k0) l,.map (some S.next),.map (some S2.next)].toArray) S3
 have dm:dem (iz k0 l)=iz (if k0=2 then 1 else k0) l:=XE
 refine ⟨S3.next,S4,?_,⟨b4,_,S.next,S2.next,hk0.dem,J5 _,hl,by omega,by omega,by omega,b2,?_,?_⟩,m5.trans (n5.trans b3),by omega⟩
 ·
  conv at hr =>
   rhs
   rw [hTe]
   simp only [qH.code,qH.rs,zSs,reduceIte,Nat.reduceEqDiff,Int.reduceEq,Int.reduceLT,Int.reduceLE,if_neg k2,c1,dm,m1,n1,bd,b1]
  rw [hTe] at hr
  exact qH.runs hr (.inr rfl)
 ·
  exact (m2.keep (n4 _ (by omega))).keep (b3.2 _ (by omega))
 ·
  exact n2.keep (b3.2 _ (by omega))
end Go.Proofs.Ytfjogganfjkckaa
namespace Go.Proofs.Ytfjogganfjkckaa
open Go.Abs
def vG (S S1:zn):Prop:=S.next≤S1.next∧∀ p cs own e,p < S.next→S.get p=some (.cells cs own e)→S1.get p=S.get p
theorem vG.refl (S:zn):vG S S:=⟨Nat.le_refl _,fun _ _ _ _ _ _=>rfl⟩
theorem vG.trans {S S1 S2:zn} (h:vG S S1) (k:vG S1 S2):vG S S2:=⟨Nat.le_trans h.1 k.1,fun p cs own e hp hg=>by
 have h1:=h.2 p cs own e hp hg
 rw [k.2 p cs own e (Nat.lt_of_lt_of_le hp h.1) (h1.trans hg),h1]⟩
theorem vG.ext {S S1:zn} (h:Ext S S1):vG S S1:=⟨h.1,fun p _ _ _ hp _=>h.2 p hp⟩
def ajx (said:List (List UInt8)) (data:List UInt8):List (List UInt8):=if data ∈ said then said else said++[data]
def ahn (known:List (Int×List UInt8)) (b:xJ):List (Int×List UInt8):=if (aan known (nameOf b)).isSome then known else known++[(nameOf b,WM b)]
def agw (known:List (Int×List UInt8)) (m:wU) (e:Int):List (Int×List UInt8):=if e=0∧m.kind=1 then ahn known m.b else known
section
variable {S:zn} {q:Nat} {bad:List Int} {said:List (List UInt8)} {known:List (Int×List UInt8)}
theorem Gt.say (h:Gt S q bad said known) {a b k:Nat} (h1:Okl k bad) (h2:k≠2) (h3:bad.length≤17592186044416) (h4:a < S.next) (h5:b < S.next) (h6:a≠b) (h7:S.get q=some (.cells [iz k bad,.map (some a),.map (some b)] (.own []) 0)) (h8:MapAt encS S a (abb said)) (h9:MapAt encI S b (Qi known)) (data:List UInt8) :
  ∃ S1,y9 Try.prog 59 (.map (some a)) (encS data) (.bool true) S=some (zh,S1)∧S1.next=S.next∧S1.get q=some (.cells [iz k bad,.map (some a),.map (some b)] (.own []) 0)∧MapAt encS S1 a (abb (ajx said data))∧MapAt encI S1 b (Qi known)∧vG S S1:=by
 obtain ⟨S1,m1,m2,m3,m4,_⟩:=acp afF h8 Wi VI data (.bool true)
 obtain ⟨es,c,g,_⟩:=h8
 have hne:∀ p cs own e,S.get p=some (.cells cs own e)→p≠a:=fun p cs own e hp hpa=>by rw [hpa,g] at hp;cases hp
 rw [ahw] at m2
 exact ⟨S1,m1,m3,(m4 q (hne q _ _ _ h7)).trans h7,m2,h9.keep (m4 b (fun h=>h6 h.symm)),Nat.le_of_eq m3.symm,fun p cs own e _ hg=>m4 p (hne p _ _ _ hg)⟩
theorem Gt.know {a b k:Nat} (h4:a < S.next) (h5:b < S.next) (h6:a≠b) (h7:S.get q=some (.cells [iz k bad,.map (some a),.map (some b)] (.own []) 0)) (h8:MapAt encS S a (abb said)) (h9:MapAt encI S b (Qi known)) {n:Int} {t:List UInt8} (hn:aan known n=none) :
  ∃ S1,y9 Try.prog 60 (.map (some b)) (encI n) (encS t) S=some (zh,S1)∧S1.next=S.next∧S1.get q=some (.cells [iz k bad,.map (some a),.map (some b)] (.own []) 0)∧MapAt encS S1 a (abb said)∧MapAt encI S1 b (Qi (known++[(n,t)]))∧vG S S1:=by
 obtain ⟨S1,m1,m2,m3,m4,_⟩:=acp QK h9 Jg aaB n (encS t)
 obtain ⟨es,c,g,_⟩:=h9
 have hne:∀ p cs own e,S.get p=some (.cells cs own e)→p≠b:=fun p cs own e hp hpa=>by rw [hpa,g] at hp;cases hp
 rw [afM hn] at m2
 exact ⟨S1,m1,m3,(m4 q (hne q _ _ _ h7)).trans h7,h8.keep (m4 a h6),m2,Nat.le_of_eq m3.symm,fun p cs own e _ hg=>m4 p (hne p _ _ _ hg)⟩
theorem ji.v (h:Gt S q bad said known) {k:Nat} {data:List UInt8} (hk:Okl k data) (k2:k≠2) (hl:data.length≤140737488355328) :
  ∃ m e S1,YS data m e∧zW Try.prog O ji.id [.pointer (some ⟨q,0,none⟩),by_ k data] S=some (.tuple #[],S1)∧Gt S1 q bad (ajx said data) (agw known m e)∧vG S S1:=by
 obtain ⟨T,hTe⟩:∃ T,T=(.pointer (some ⟨q,0,none⟩)::by_ k data::zh::zh::zh::zh::zh::zh::zh::zh::zh::zh::zh::zh::zh::zh::zh::zh::zh::zh::zh::zh::zh::zh::zh::zh::zh::zh::zh::zh::zh::zh::zh::zh::zh::zh::zh::zh::zh::zh::zh::zh::zh::zh::zh::zh::zh::zh::zh::[]):=⟨_,rfl⟩
 have hr:zG Try.prog O false ji.code T S=zG Try.prog O false ji.code T S:=rfl
 obtain ⟨k0,a,b,h1,h2,h3,h4,h5,h6,h7,h8,h9⟩:=h.cell
 have l1:jf Try.prog false 59 (.pointer (some ⟨q,0+1,none⟩)) S=some (.map (some a),S):=Qz (t:=59) (o:=0+1) h7 J4 rfl
 have s1:∀ S,ZO Try.prog 33 9 (by_ k data) S=some (.string ⟨data.toArray⟩,S):=fun S=>Yu hk
 have s2:∀ S,qA Try.prog false false 33 9 (by_ k data) S=some (.string ⟨data.toArray⟩,S):=fun S=>by rw [Jp];exact s1 S
 obtain ⟨S1,m1,m2,m3,m4,m5,m6⟩:=h.say h1 h2 h3 h4 h5 h6 h7 h8 h9 data
 obtain ⟨m,e,hR,c1⟩:=wL.v hk k2 hl
 obtain ⟨S2,n1,n2,n3,n4⟩:=abx m S1
 have am:yG Try.prog 48 S1=some (.pointer (some ⟨S1.next,0,none⟩),S1.push (.cells (fM m0) (.own []) 0)):=Xe S1
 have hq1:q < S1.next:=by rw [m2];exact h.lt
 have st2:vG S S2:=m6.trans (vG.ext n3)
 have G2:Gt S2 q bad (ajx said data) known:=⟨Nat.lt_of_lt_of_le hq1 n3.1,k0,a,b,h1,h2,h3,by have:=n3.1;omega,by have:=n3.1;omega,h6,(n3.2 q hq1).trans m3,m4.keep (n3.2 a (by omega)),m5.keep (n3.2 b (by omega))⟩
 have hR2:=hR
 obtain ⟨ok,_,hcase⟩:=hR2
 by_cases he:e=0
 ·
  subst he
  have d1:=wK n2
  by_cases hkd:m.kind=1
  ·
   have dk:=decide_eq_true hkd
   have g2q:=(n3.2 q hq1).trans m3
   have l2:jf Try.prog false 60 (.pointer (some ⟨q,0+2,none⟩)) S2=some (.map (some b),S2):=Qz (t:=60) (o:=0+2) g2q WX rfl
   have c2:=fun S=>wV.v ok.b S
   have lk:=acD QK (m5.keep (n3.2 b (by omega))) Jg aaB ada rfl (nameOf m.b)
   rw [KH] at lk
   cases hf:aan known (nameOf m.b) with
   | some t =>
    rw [hf] at lk
    simp only [Option.map_some,Option.map_none,Option.getD_some,Option.getD_none,Option.isSome_some,Option.isSome_none] at lk
    refine ⟨m,0,S2,hR,?_,?_,st2⟩
    ·
     conv at hr =>
      rhs
      rw [hTe]
      simp only [ji.code,ji.rs,zSs,reduceIte,Nat.reduceEqDiff,Int.reduceEq,Int.reduceLT,Int.reduceLE,if_neg k2,qO,qB,l1,s1,s2,m1,c1,am,n1,zJ,d1,dk,zZ,yU n2 ok.b.ne,c2,vw,l2,lk]
     rw [hTe] at hr
     exact ji.runs hr (.inl rfl)
    ·
     rw [agw,if_pos ⟨rfl,hkd⟩,ahn,hf];exact G2
   | none =>
    rw [hf] at lk
    simp only [Option.map_some,Option.map_none,Option.getD_some,Option.getD_none,Option.isSome_some,Option.isSome_none] at lk
    obtain ⟨S3,p1,p2,p3,p4,p5,p6⟩:=Gt.know (t:=WM m.b) (by have:=n3.1;omega) (by have:=n3.1;omega) h6 g2q (m4.keep (n3.2 a (by omega))) (m5.keep (n3.2 b (by omega))) hf
    have c3:=fun S=>yS.v ok.b S
    have okm:okq 3 (.map (some b))=true:=rfl
    refine ⟨m,0,S3,hR,?_,?_,st2.trans p6⟩
    ·
     conv at hr =>
      rhs
      rw [hTe]
      simp only [ji.code,ji.rs,zSs,reduceIte,Nat.reduceEqDiff,Int.reduceEq,Int.reduceLT,Int.reduceLE,if_neg k2,qO,qB,l1,s1,s2,m1,c1,am,n1,zJ,d1,dk,zZ,yU n2 ok.b.ne,c2,vw,l2,lk,kM okm,ZN,c3,qj g2q,p1]
     rw [hTe] at hr
     exact ji.runs hr (.inl rfl)
    ·
     rw [agw,if_pos ⟨rfl,hkd⟩,ahn,hf]
     exact ⟨by rw [p2];exact G2.lt,k0,a,b,h1,h2,h3,by have:=n3.1;omega,by have:=n3.1;omega,h6,p3,p4,p5⟩
  ·
   have dk:=decide_eq_false hkd
   refine ⟨m,0,S2,hR,?_,?_,st2⟩
   ·
    conv at hr =>
     rhs
     rw [hTe]
     simp only [ji.code,ji.rs,zSs,reduceIte,Nat.reduceEqDiff,Int.reduceEq,Int.reduceLT,Int.reduceLE,if_neg k2,qO,qB,l1,s1,s2,m1,c1,am,n1,zJ,d1,dk]
    rw [hTe] at hr
    exact ji.runs hr (.inr rfl)
   ·
    rw [agw,if_neg (fun hh=>hkd hh.2)];exact G2
 ·
  have de:=decide_eq_false he
  refine ⟨m,e,S2,hR,?_,?_,st2⟩
  ·
   conv at hr =>
    rhs
    rw [hTe]
    simp only [ji.code,ji.rs,zSs,reduceIte,Nat.reduceEqDiff,Int.reduceEq,Int.reduceLT,Int.reduceLE,if_neg k2,qO,qB,l1,s1,s2,m1,c1,am,n1,de]
   rw [hTe] at hr
   exact ji.runs hr (.inr rfl)
  ·
   rw [agw,if_neg (fun hh=>he hh.1)];exact G2
def isBad (bad:List Int) (n:Int):Bool:=bad.any fun x=>decide (n=x)
def vN (bad:List Int) (said:List (List UInt8)) (known:List (Int×List UInt8)) (data:List UInt8) (m:wU) (e:Int):Bool×List (Int×List UInt8) :=
 if e=0 then (if data ∈ said then (true,known) else if isBad bad m.frm then (if m.kind=1 then (match aan known (nameOf m.b) with
  | some t=>(decide (t=WM m.b),known)
  | none=>if isBad bad m.b.miner then (true,known++[(nameOf m.b,WM m.b)]) else (false,known)) else (true,known)) else (false,known)) else (false,known)
theorem zH.v (h:Gt S q bad said known) {k:Nat} {data:List UInt8} (hk:Okl k data) (k2:k≠2) (hl:data.length≤140737488355328) :
  ∃ m e S1,YS data m e∧zW Try.prog O zH.id [.pointer (some ⟨q,0,none⟩),by_ k data] S=some (.bool (vN bad said known data m e).1,S1)∧Gt S1 q bad said (vN bad said known data m e).2∧vG S S1:=by
 obtain ⟨T,hTe⟩:∃ T,T=(.pointer (some ⟨q,0,none⟩)::by_ k data::zh::zh::zh::zh::zh::zh::zh::zh::zh::zh::zh::zh::zh::zh::zh::zh::zh::zh::zh::zh::zh::zh::zh::zh::zh::zh::zh::zh::zh::zh::zh::zh::zh::zh::zh::zh::zh::zh::zh::zh::zh::zh::zh::zh::zh::zh::zh::zh::zh::zh::zh::zh::zh::zh::zh::zh::zh::zh::zh::zh::zh::zh::zh::zh::zh::zh::[]):=⟨_,rfl⟩
 have hr:zG Try.prog O false zH.code T S=zG Try.prog O false zH.code T S:=rfl
 obtain ⟨m,e,hR,c1⟩:=wL.v hk k2 hl
 obtain ⟨S2,n1,n2,n3,n4⟩:=abx m S
 have am:yG Try.prog 48 S=some (.pointer (some ⟨S.next,0,none⟩),S.push (.cells (fM m0) (.own []) 0)):=Xe S
 have st2:vG S S2:=vG.ext n3
 have G2:=h.ext n3
 obtain ⟨k0,a,b,h1,h2,h3,h4,h5,h6,h7,h8,h9⟩:=G2.cell
 have hR2:=hR
 obtain ⟨ok,_,hcase⟩:=hR2
 by_cases he:e=0
 ·
  subst he
  have l1:jf Try.prog false 59 (.pointer (some ⟨q,0+1,none⟩)) S2=some (.map (some a),S2):=Qz (t:=59) (o:=0+1) h7 J4 rfl
  have s1:∀ S,ZO Try.prog 33 9 (by_ k data) S=some (.string ⟨data.toArray⟩,S):=fun S=>Yu hk
  have s2:∀ S,qA Try.prog false false 33 9 (by_ k data) S=some (.string ⟨data.toArray⟩,S):=fun S=>by rw [Jp];exact s1 S
  have lk:=aeN afF h8 Wi VI aio rfl data
  rw [ahc] at lk
  by_cases hs:data ∈ said
  ·
   have ds:=decide_eq_true hs
   rw [ds] at lk
   have hp:vN bad said known data m 0=(true,known):=by rw [vN,if_pos rfl,if_pos hs]
   refine ⟨m,0,S2,hR,?_,by rw [hp];exact G2,st2⟩
   rw [hp]
   conv at hr =>
    rhs
    rw [hTe]
    simp only [zH.code,zH.rs,zSs,reduceIte,Nat.reduceEqDiff,Int.reduceEq,Int.reduceLT,Int.reduceLE,if_neg k2,c1,am,n1,qO,qB,l1,s1,s2,lk]
   rw [hTe] at hr
   exact zH.runs hr (.inr rfl)
  ·
   have ds:=decide_eq_false hs
   rw [ds] at lk
   have cb:=wH.v G2 m.frm
   have d1:=yC n2
   have d0:=wK n2
   cases hb:isBad bad m.frm
   ·
    have hb2:(bad.any fun x=>decide (m.frm=x))=false:=hb
    rw [hb2] at cb
    have hp:vN bad said known data m 0=(false,known):=by rw [vN,if_pos rfl,if_neg hs,hb];rfl
    refine ⟨m,0,S2,hR,?_,by rw [hp];exact G2,st2⟩
    rw [hp]
    conv at hr =>
     rhs
     rw [hTe]
     simp only [zH.code,zH.rs,zSs,reduceIte,Nat.reduceEqDiff,Int.reduceEq,Int.reduceLT,Int.reduceLE,if_neg k2,c1,am,n1,qO,qB,l1,s1,s2,lk,zV,d1,cb]
    rw [hTe] at hr
    exact zH.runs hr (.inr rfl)
   ·
    have hb2:(bad.any fun x=>decide (m.frm=x))=true:=hb
    rw [hb2] at cb
    by_cases hkd:m.kind=1
    ·
     have dk:=decide_eq_true hkd
     have l2:jf Try.prog false 60 (.pointer (some ⟨q,0+2,none⟩)) S2=some (.map (some b),S2):=Qz (t:=60) (o:=0+2) h7 WX rfl
     have c2:=fun S=>wV.v ok.b S
     have c3:=fun S=>yS.v ok.b S
     have lk2:=acD QK h9 Jg aaB ada rfl (nameOf m.b)
     rw [KH] at lk2
     cases hf:aan known (nameOf m.b) with
     | some t =>
      rw [hf] at lk2
      simp only [Option.map_some,Option.map_none,Option.getD_some,Option.getD_none,Option.isSome_some,Option.isSome_none] at lk2
      have hp:vN bad said known data m 0=(decide (t=WM m.b),known):=by rw [vN,if_pos rfl,if_neg hs,hb,if_pos rfl,if_pos hkd,hf]
      have cq:∀ S,wB Try.prog .eql 9 (encS t) (encS (WM m.b)) S=some (.bool (decide (t=WM m.b)),S):=fun S=>acN (t:=9)
      refine ⟨m,0,S2,hR,?_,by rw [hp];exact G2,st2⟩
      rw [hp]
      conv at hr =>
       rhs
       rw [hTe]
       simp only [zH.code,zH.rs,zSs,reduceIte,Nat.reduceEqDiff,Int.reduceEq,Int.reduceLT,Int.reduceLE,if_neg k2,c1,am,n1,qO,qB,l1,s1,s2,lk,zV,d1,cb,zJ,d0,dk,zZ,yU n2 ok.b.ne,c2,vw,l2,lk2,c3,cq]
      rw [hTe] at hr
      exact zH.runs hr (.inr rfl)
     | none =>
      rw [hf] at lk2
      simp only [Option.map_some,Option.map_none,Option.getD_some,Option.getD_none,Option.isSome_some,Option.isSome_none] at lk2
      have cb2:=wH.v G2 m.b.miner
      have d2:jf Try.prog false 3 (.pointer (some ⟨S.next,0+8+1,none⟩)) S2=some (.int .i64 m.b.miner,S2):=qL (t:=3) (o:=0+8+1) n2 ZY rfl
      cases hb3:isBad bad m.b.miner
      ·
       have hb4:(bad.any fun x=>decide (m.b.miner=x))=false:=hb3
       rw [hb4] at cb2
       have hp:vN bad said known data m 0=(false,known):=by rw [vN,if_pos rfl,if_neg hs,hb,if_pos rfl,if_pos hkd,hf];dsimp only;rw [hb3];rfl
       refine ⟨m,0,S2,hR,?_,by rw [hp];exact G2,st2⟩
       rw [hp]
       conv at hr =>
        rhs
        rw [hTe]
        simp only [zH.code,zH.rs,zSs,reduceIte,Nat.reduceEqDiff,Int.reduceEq,Int.reduceLT,Int.reduceLE,if_neg k2,c1,am,n1,qO,qB,l1,s1,s2,lk,zV,d1,cb,zJ,d0,dk,zZ,yU n2 ok.b.ne,c2,vw,l2,lk2,jM,d2,cb2]
       rw [hTe] at hr
       exact zH.runs hr (.inr rfl)
      ·
       have hb4:(bad.any fun x=>decide (m.b.miner=x))=true:=hb3
       rw [hb4] at cb2
       have hp:vN bad said known data m 0=(true,known++[(nameOf m.b,WM m.b)]):=by rw [vN,if_pos rfl,if_neg hs,hb,if_pos rfl,if_pos hkd,hf];dsimp only;rw [hb3];rfl
       obtain ⟨S3,p1,p2,p3,p4,p5,p6⟩:=Gt.know (t:=WM m.b) h4 h5 h6 h7 h8 h9 hf
       have okm:okq 3 (.map (some b))=true:=rfl
       refine ⟨m,0,S3,hR,?_,?_,st2.trans p6⟩
       ·
        rw [hp]
        conv at hr =>
         rhs
         rw [hTe]
         simp only [zH.code,zH.rs,zSs,reduceIte,Nat.reduceEqDiff,Int.reduceEq,Int.reduceLT,Int.reduceLE,if_neg k2,c1,am,n1,qO,qB,l1,s1,s2,lk,zV,d1,cb,zJ,d0,dk,zZ,yU n2 ok.b.ne,c2,vw,l2,lk2,jM,d2,cb2,c3,kM okm,ZN,qj h7,p1]
        rw [hTe] at hr
        exact zH.runs hr (.inr rfl)
       ·
        rw [hp]
        exact ⟨by rw [p2];exact G2.lt,k0,a,b,h1,h2,h3,by omega,by omega,h6,p3,p4,p5⟩
    ·
     have dk:=decide_eq_false hkd
     have hp:vN bad said known data m 0=(true,known):=by rw [vN,if_pos rfl,if_neg hs,hb,if_pos rfl,if_neg hkd]
     refine ⟨m,0,S2,hR,?_,by rw [hp];exact G2,st2⟩
     rw [hp]
     conv at hr =>
      rhs
      rw [hTe]
      simp only [zH.code,zH.rs,zSs,reduceIte,Nat.reduceEqDiff,Int.reduceEq,Int.reduceLT,Int.reduceLE,if_neg k2,c1,am,n1,qO,qB,l1,s1,s2,lk,zV,d1,cb,zJ,d0,dk]
     rw [hTe] at hr
     exact zH.runs hr (.inr rfl)
 ·
  have de:=decide_eq_false he
  have hp:vN bad said known data m e=(false,known):=by rw [vN,if_neg he]
  refine ⟨m,e,S2,hR,?_,by rw [hp];exact G2,st2⟩
  rw [hp]
  conv at hr =>
   rhs
   rw [hTe]
   simp only [zH.code,zH.rs,zSs,reduceIte,Nat.reduceEqDiff,Int.reduceEq,Int.reduceLT,Int.reduceLE,if_neg k2,c1,am,n1,de]
  rw [hTe] at hr
  exact zH.runs hr (.inr rfl)
end
end Go.Proofs.Ytfjogganfjkckaa
namespace Go.Proofs.Ytfjogganfjkckaa
open Go.Abs
theorem Ku {x m:wU} {e:Int} (hx:y7 x=true) (h:YS (Jj x) m e):e=0∧ZA x m=true:=by
 obtain ⟨_,_,⟨h1,h2,h3⟩ | ⟨_,_,h3⟩⟩:=h
 ·
  exact ⟨h1,ade hx h2 h3⟩
 ·
  exact absurd rfl (h3 x hx)
theorem acY {a b:xJ} (h:ZW a b=true):nameOf a=nameOf b∧WM a=WM b∧a.miner=b.miner:=by
 obtain ⟨h1,h2,h3,h4,h5⟩:=Zq.1 h
 have hr:jU a=jU b:=by unfold jU headB;rw [h1,h2,h3,h4,h5]
 refine ⟨by unfold nameOf;rw [hr,h1,h2,h3],?_,h2⟩
 unfold WM Xd
 rw [hr,h1,h2,h3,h4,h5]
theorem afP {x m:wU} (h:ZA x m=true) (bad:List Int) (said:List (List UInt8)) (known:List (Int×List UInt8)) (d:List UInt8) (e:Int):vN bad said known d m e=vN bad said known d x e:=by
 obtain ⟨h1,h2,_,_,_,_,_,h8⟩:=vP.1 h
 obtain ⟨g1,g2,g3⟩:=acY h8
 unfold vN
 rw [h1,h2,g1,g2,g3]
theorem ahF {x m:wU} (h:ZA x m=true) (known:List (Int×List UInt8)) (e:Int):agw known m e=agw known x e:=by
 obtain ⟨h1,h2,_,_,_,_,_,h8⟩:=vP.1 h
 obtain ⟨g1,g2,g3⟩:=acY h8
 unfold agw ahn
 rw [h1,g1,g2]
section
variable {S:zn} {q:Nat} {bad:List Int} {said:List (List UInt8)} {known:List (Int×List UInt8)}
theorem Wv (h:Gt S q bad said known) {x:wU} (hx:y7 x=true):∃ S1,zW Try.prog O zH.id [.pointer (some ⟨q,0,none⟩),by_ 1 (Jj x)] S=some (.bool (vN bad said known (Jj x) x 0).1,S1)∧Gt S1 q bad said (vN bad said known (Jj x) x 0).2∧vG S S1:=by
 obtain ⟨m,e,S1,h1,h2,h3,h4⟩:=zH.v h (k:=1) (data:=Jj x) Okl.read (by decide) (by have:=aag hx;omega)
 obtain ⟨rfl,hs⟩:=Ku hx h1
 rw [afP hs] at h2 h3
 exact ⟨S1,h2,h3,h4⟩
theorem ajt (h:Gt S q bad said known) {x:wU} (hx:y7 x=true):∃ S1,zW Try.prog O ji.id [.pointer (some ⟨q,0,none⟩),by_ 1 (Jj x)] S=some (.tuple #[],S1)∧Gt S1 q bad (ajx said (Jj x)) (agw known x 0)∧vG S S1:=by
 obtain ⟨m,e,S1,h1,h2,h3,h4⟩:=ji.v h (k:=1) (data:=Jj x) Okl.read (by decide) (by have:=aag hx;omega)
 obtain ⟨rfl,hs⟩:=Ku hx h1
 rw [ahF hs] at h3
 exact ⟨S1,h2,h3,h4⟩
end
abbrev mkm (f:Int) (b:xJ):wU:=⟨1,f,0,0,0,0,⟨0,0⟩,b⟩
theorem jI.v {f:Int} {b:xJ} (hb:b.Ok) (hf:Big f) (hR:y7 (mkm f b)=true) (S:zn):∃ S1,zW Try.prog O jI.id [.int .i64 f,bv b] S=some (by_ 2 (Jj (mkm f b)),S1)∧Ext S S1:=by
 obtain ⟨T,hTe⟩:∃ T,T=(.int .i64 f::bv b::zh::zh::zh::zh::zh::zh::zh::zh::zh::zh::zh::zh::zh::[]):=⟨_,rfl⟩
 have hr:zG Try.prog O false jI.code T S=zG Try.prog O false jI.code T S:=rfl
 obtain ⟨S2,b1,b2,b3,b4⟩:=aiw (bv b) S
 have b2:S2.get S.next=some (.cells (fBk b) (.own []) 0):=b2
 have z0:Big 0:=by unfold Big;decide
 have z1:Big 1:=by unfold Big;decide
 have ok:(mkm f b).Ok:=⟨hb,⟨z0,z0⟩,z1,hf,z0,z0,z0,z0⟩
 have bd:∀ S,yg Try.prog 48 [(0,.int .i64 1),(1,.int .i64 f),(7,bv b)] S=some (mv (mkm f b),S):=fun S=>Qu rfl rfl S
 have c1:=fun S=>zM.v ok S
 unfold aa5 at c1
 rw [hR] at c1
 refine ⟨S2,?_,b3⟩
 conv at hr =>
  rhs
  rw [hTe]
  simp only [jI.code,jI.rs,zSs,reduceIte,Nat.reduceEqDiff,Int.reduceEq,Int.reduceLT,Int.reduceLE,b1,Xg b2 hb.ne,bd,c1]
 rw [hTe] at hr
 exact jI.runs hr (.inr rfl)
abbrev bbk:xJ:=⟨1,1,0,0,0,[]⟩
abbrev cbk:xJ:=⟨1,1,0,0,1,[⟨1,0⟩]⟩
theorem WW:bbk.Ok:=⟨Okl.none,by decide,by decide,by decide⟩
theorem aiu:cbk.Ok:=⟨Okl.read,by decide,by decide,by decide⟩
theorem r1b:y7 (mkm 1 bbk)=true:=by kernel_rfl
theorem r2b:y7 (mkm 2 bbk)=true:=by kernel_rfl
theorem r3b:y7 (mkm 3 bbk)=true:=by kernel_rfl
theorem r2c:y7 (mkm 2 cbk)=true:=by kernel_rfl
abbrev K1:List (Int×List UInt8):=[(nameOf bbk,WM bbk)]
abbrev S1s:List (List UInt8):=[Jj (mkm 1 bbk)]
theorem pa1:vN [2] [] [] (Jj (mkm 2 bbk)) (mkm 2 bbk) 0=(false,[]):=by kernel_rfl
theorem pa2:vN [2] S1s K1 (Jj (mkm 2 bbk)) (mkm 2 bbk) 0=(true,K1):=by kernel_rfl
theorem pa3:vN [2] S1s K1 (Jj (mkm 2 cbk)) (mkm 2 cbk) 0=(false,K1):=by kernel_rfl
theorem pa4:vN [2] S1s K1 (Jj (mkm 3 bbk)) (mkm 3 bbk) 0=(false,K1):=by kernel_rfl
theorem pa5:vN [2] S1s K1 (Jj (mkm 1 bbk)) (mkm 1 bbk) 0=(true,K1):=by kernel_rfl
theorem sa1:ajx [] (Jj (mkm 1 bbk))=S1s:=rfl
theorem sa2:agw [] (mkm 1 bbk) 0=K1:=by kernel_rfl
theorem zY.v (S:zn):zW Try.prog O zY.id [] S=some (.bool true,S):=by
 obtain ⟨T,hTe⟩:∃ T,T=(zh::zh::zh::zh::zh::zh::zh::zh::zh::zh::zh::zh::zh::zh::zh::zh::zh::zh::zh::zh::zh::zh::zh::zh::zh::zh::zh::zh::zh::zh::zh::zh::zh::zh::zh::zh::zh::zh::zh::zh::zh::zh::zh::zh::zh::zh::zh::zh::zh::zh::zh::zh::zh::zh::zh::zh::zh::zh::[]):=⟨_,rfl⟩
 have hr:zG Try.prog O false zY.code T zn.empty=zG Try.prog O false zY.code T zn.empty:=rfl
 have i0:∀ S,jH Try.prog 24 1 [(0,.int .i64 2)] S=some (iz 2 [2],S):=fun S=>by kernel_rfl
 obtain ⟨q,S1,c1,G1,_,_⟩:=qH.v (k:=1) (l:=[2]) Okl.read (by decide) (by decide) zn.empty
 have pn:∀ S,wB Try.prog .eql 22 (.pointer (some ⟨q,0,none⟩)) (.pointer none) S=some (.bool false,S):=fun S=>rfl
 have bb:∀ S,yg Try.prog 46 [(0,.int .i64 1),(1,.int .i64 1)] S=some (bv bbk,S):=fun S=>Qw rfl rfl S
 have bt:∀ S,yg Try.prog 43 [(0,.int .i64 1)] S=some (tv ⟨1,0⟩,S):=fun S=>abz rfl S
 have bs:=fun S=>aeM ⟨1,0⟩ S
 have bc:∀ S,yg Try.prog 46 [(0,.int .i64 1),(1,.int .i64 1),(4,tl 1 [⟨1,0⟩])] S=some (bv cbk,S):=fun S=>YA rfl rfl YG S
 have a1:=Xi S1
 obtain ⟨A1,hA1⟩:∃ A1,A1=S1.push (.cells (fBk bk0) (.own []) 0):=⟨_,rfl⟩
 rw [← hA1] at a1
 have a2:=Xi A1
 have n1:A1.next=S1.next+1:=by rw [hA1];rfl
 obtain ⟨A2,hA2⟩:∃ A2,A2=A1.push (.cells (fBk bk0) (.own []) 0):=⟨_,rfl⟩
 rw [← hA2] at a2
 have E1:Ext S1 A1:=by rw [hA1];exact Ext.push _ _
 have E2:Ext A1 A2:=by rw [hA2];exact Ext.push _ _
 have g1:A2.get S1.next=some (.cells (fBk bk0) (.own []) 0):=by rw [E2.2 _ (by omega),hA1,zn.yJ,if_pos rfl]
 have g2:A2.get A1.next=some (.cells (fBk bk0) (.own []) 0):=by rw [hA2,zn.yJ,if_pos rfl]
 obtain ⟨A3,s1,s2,s3,s4,s5⟩:=Xj bbk g1 (E1.trans E2) (Nat.le_refl _)
 have g3:A3.get A1.next=some (.cells (fBk bk0) (.own []) 0):=(s5 _ (by omega)).trans g2
 obtain ⟨A4,t1,t2,t3,t4,t5⟩:=Xj cbk g3 s3 (by omega)
 have G4:=G1.ext t3
 have m4:A2.next=A1.next+1:=by rw [hA2];rfl
 have hb4:A4.get S1.next=some (.cells (fBk bbk) (.own []) 0):=(t5 _ (by omega)).trans s2
 have hn4:A1.next < A4.next:=by omega
 have kp:∀ {X Y:zn},vG X Y→(A1.next < X.next∧X.get S1.next=some (.cells (fBk bbk) (.own []) 0)∧X.get A1.next=some (.cells (fBk cbk) (.own []) 0))→(A1.next < Y.next∧Y.get S1.next=some (.cells (fBk bbk) (.own []) 0)∧Y.get A1.next=some (.cells (fBk cbk) (.own []) 0)):=fun h k=>⟨Nat.lt_of_lt_of_le k.1 h.1,(h.2 _ _ _ _ (by omega) k.2.1).trans k.2.1,(h.2 _ _ _ _ k.1 k.2.2).trans k.2.2⟩
 have k4:A1.next < A4.next∧A4.get S1.next=some (.cells (fBk bbk) (.own []) 0)∧A4.get A1.next=some (.cells (fBk cbk) (.own []) 0):=⟨hn4,hb4,t2⟩
 have z1:Big 1:=by unfold Big;decide
 have z2:Big 2:=by unfold Big;decide
 have z3:Big 3:=by unfold Big;decide
 have l4:=Xg k4.2.1 WW.ne
 obtain ⟨B1,c2,x1⟩:=jI.v WW z2 r2b A4
 obtain ⟨B2,c3,G5,y1⟩:=Wv (G4.ext x1) r2b
 rw [pa1] at c3 G5
 have k5:=kp y1 (kp (vG.ext x1) k4)
 have l5:=Xg k5.2.1 WW.ne
 obtain ⟨B3,c4,x2⟩:=jI.v WW z1 r1b B2
 obtain ⟨B4,c5,G6,y2⟩:=ajt (G5.ext x2) r1b
 rw [sa1,sa2] at G6
 have k6:=kp y2 (kp (vG.ext x2) k5)
 have l6:=Xg k6.2.1 WW.ne
 obtain ⟨B5,c6,x3⟩:=jI.v WW z2 r2b B4
 obtain ⟨B6,c7,G7,y3⟩:=Wv (G6.ext x3) r2b
 rw [pa2] at c7 G7
 have k7:=kp y3 (kp (vG.ext x3) k6)
 have l7:=Xg k7.2.2 aiu.ne
 obtain ⟨B7,c8,x4⟩:=jI.v aiu z2 r2c B6
 obtain ⟨B8,c9,G8,y4⟩:=Wv (G7.ext x4) r2c
 rw [pa3] at c9 G8
 have k8:=kp y4 (kp (vG.ext x4) k7)
 have l8:=Xg k8.2.1 WW.ne
 obtain ⟨B9,c10,x5⟩:=jI.v WW z3 r3b B8
 obtain ⟨B10,c11,G9,y5⟩:=Wv (G8.ext x5) r3b
 rw [pa4] at c11 G9
 have k9:=kp y5 (kp (vG.ext x5) k8)
 have l9:=Xg k9.2.1 WW.ne
 obtain ⟨B11,c12,x6⟩:=jI.v WW z1 r1b B10
 obtain ⟨B12,c13,G10,y6⟩:=Wv (G9.ext x6) r1b
 rw [pa5] at c13 G10
 have c14:zW Try.prog O wH.id [.pointer (some ⟨q,0,none⟩),.int .i64 2] B12=some (.bool true,B12):=wH.v G10 2
 have c15:zW Try.prog O wH.id [.pointer (some ⟨q,0,none⟩),.int .i64 1] B12=some (.bool false,B12):=wH.v G10 1
 conv at hr =>
  rhs
  rw [hTe]
  simp only [zY.code,zY.rs,zSs,reduceIte,Nat.reduceEqDiff,Int.reduceEq,Int.reduceLT,Int.reduceLE,i0,c1,pn,bb,bt,bs,bc,a1,a2,s1,t1,l4,c2,c3,l5,c4,c5,l6,c6,c7,l7,c8,c9,l8,c10,c11,l9,c12,c13,c14,c15]
 rw [hTe] at hr
 exact zY.runs hr (.inr rfl) rfl rfl
end Go.Proofs.Ytfjogganfjkckaa
