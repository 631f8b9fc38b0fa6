/-
The law GateSays returns true for every input, and leaves it as it was; no condition. Part 7 of 7 of the texts (put together by a program: own names are short, what isn't needed is left out).
-/
import Derived.Test.YtfjogganfjkckaaZGateSays6
import Derived.Test.YtfjogganfjkckaaRows
import Derived.WalkKit
import Derived.ProofKit
import Derived.OpenShut
import Derived.ShutString
import Derived.ChangeOld
import Derived.Below
import Derived.SizedLaws
import Derived.Carry
set_option linter.unusedVariables false
set_option linter.unusedSimpArgs false
set_option maxRecDepth 100000
open Go renaming undef → zh
namespace Go.Proofs.Ytfjogganfjkckaa
open Go.Abs
namespace gateSays
def codes:List (Bool×Ty):=[(false,.slc 8 (.int .i64)),(false,.slc 24 (.slc 1 (.int .u8))),(true,tM)]
theorem coded:X3 Try.prog 9 [24,29,48]=some codes:=by kernel_rfl
def aef (sd:List (List UInt8)) (l:List Tb):Prop:=∀ s,s ∈ sd ↔ ∃ t ∈ l,t.b=s
theorem adN {sd:List (List UInt8)} {l:List Tb} (h:aef sd l) (t:Tb):aef (ajx sd t.b) (l++[t]):=fun s=>by
 unfold ajx
 constructor
 ·
  intro hs
  have hs:s ∈ sd∨s=t.b:=by
   split at hs
   ·
    exact .inl hs
   ·
    simpa using hs
  rcases hs with hs | hs
  ·
   obtain ⟨u,h1,h2⟩:=(h s).1 hs
   exact ⟨u,by simp [h1],h2⟩
  ·
   exact ⟨t,by simp,hs.symm⟩
 ·
  intro ⟨u,h1,h2⟩
  rcases List.mem_append.1 h1 with h1 | h1
  ·
   have:=(h s).2 ⟨u,h1,h2⟩
   split
   ·
    exact this
   ·
    simp [this]
  ·
   rw [List.mem_singleton.1 h1] at h2
   split
   ·
    rw [← h2];assumption
   ·
    simp [h2]
theorem akj {sd:List (List UInt8)} {l:List Tb} (h:aef sd l) (x:List UInt8):decide (x ∈ sd)=l.any fun t=>decide (t.b=x):=by
 by_cases hx:x ∈ sd
 ·
  obtain ⟨t,h1,h2⟩:=(h x).1 hx
  rw [decide_eq_true hx]
  exact (List.any_eq_true.2 ⟨t,h1,by rw [decide_eq_true h2]⟩).symm
 ·
  rw [decide_eq_false hx]
  symm
  rw [List.any_eq_false]
  intro t ht
  have:t.b≠x:=fun h2=>hx ((h x).2 ⟨t,ht,h2⟩)
  simp [this]
section
variable {k q:Nat} {l:List Tb} {bad:List Int} {M:List Value}
theorem round (hk:Okl k l) (k2:k≠2) (hl:l.length≤40) (hg:∀ t ∈ l,t.Ok):∀ (suf pre:List Tb) {T:List Value} {r:St} {S:zn} {sd:List (List UInt8)} {kn:List (Int×List UInt8)},qw (zG Try.prog O false zi.jL) T S=r→T.length=120 →
  T.getD 7 zh=.pointer (some ⟨q,0,none⟩)→T.getD 34 zh=vs fB 1 k l→T.getD 35 zh=.int .i64 l.length→T.getD 36 zh=.int .i64 pre.length→l=pre++suf→Gt S q bad sd kn→aef sd pre →
  ∃ T' S' sd' kn',r=some (.exit 0,T',S')∧T'.length=120∧T'.getD 1 zh=T.getD 1 zh∧T'.getD 5 zh=T.getD 5 zh∧T'.getD 7 zh=.pointer (some ⟨q,0,none⟩)∧Gt S' q bad sd' kn'∧aef sd' l∧vG S S':=by
 intro suf
 induction suf with
 | nil =>
  intro pre T r S sd kn hL hT h7 h34 h35 h36 hpre hD hS
  have hTe:=zi.eta hT
  rw [h7,h34,h35,h36] at hTe
  have hr:zG Try.prog O false zi.jL T S=zG Try.prog O false zi.jL T S:=rfl
  have d1:¬ (pre.length:Int) < (l.length:Int):=by rw [hpre];simp
  conv at hr =>
   rhs
   rw [hTe]
   simp only [zi.jL,zi.code,zi.rs,zSs,reduceIte,Nat.reduceEqDiff,Int.reduceEq,Int.reduceLT,Int.reduceLE,d1]
  exact ⟨_,_,sd,kn,hL.symm.trans (jZ hr (by simp)),rfl,rfl,rfl,rfl,hD,by rw [hpre,List.append_nil];exact hS,vG.refl _⟩
 | cons t suf ih =>
  intro pre T r S sd kn hL hT h7 h34 h35 h36 hpre hD hS
  have hTe:=zi.eta hT
  rw [h7,h34,h35,h36] at hTe
  have hr:zG Try.prog O false zi.jL T S=zG Try.prog O false zi.jL T S:=rfl
  have d1:(pre.length:Int) < (l.length:Int):=by rw [hpre];simp;omega
  have ht:=hg t (by rw [hpre];simp)
  have ne:¬ t.k=2:=ht.ne
  have e1:∀ S,jo Try.prog 29 (vs fB 1 k l) (.int .i64 pre.length) S=some (EP [by_ t.k t.b],S):=fun S=>by
   rw [adV ZM Yp acH hk (by omega) d1,Qr hpre];rfl
  have l1:∀ S,jf Try.prog false 33 (EP [by_ t.k t.b]) S=some (by_ t.k t.b,S):=fun S=>Jr YO
  have wi:IntKind.i64.wrap ((pre.length:Int)+1)=((pre++[t]).length:Int):=by rw [wrap_i64 (by omega) (by omega)];simp
  have cp:∀ S,wP Try.prog 33 33 (by_ 2 []) (by_ t.k t.b) S=some (by_ 2 t.b,S):=fun S=>aaj ht.okl (by have:=ht.le;omega)
  obtain ⟨m,e,S3,hR,c2,hD3,o3⟩:=ji.v (k:=1) (data:=t.b) hD Okl.read (by decide) (by have:=ht.le;omega)
  conv at hr =>
   rhs
   rw [hTe]
   simp only [zi.jL,zi.code,zi.rs,zSs,reduceIte,Nat.reduceEqDiff,Int.reduceEq,Int.reduceLT,Int.reduceLE,d1,e1,l1,if_neg ne,bb0,cp,c2,wi]
  obtain ⟨T',S',sd',kn',q1,q2,q3,q4,q5,q6,q7,q8⟩:=ih (pre++[t]) ((wY hr).symm.trans hL) rfl rfl rfl rfl rfl (by simp [hpre]) hD3 (adN hS t)
  exact ⟨T',S',sd',kn',q1,q2,q3,q4,q5,q6,q7,o3.trans q8⟩
theorem nq (a:Bool) (S:zn):wB Try.prog .neq 4 (.bool a) (.bool a) S=some (.bool false,S):=by cases a <;> rfl
theorem Yz {sd:List (List UInt8)} {kn:List (Int×List UInt8)} {d:List UInt8} {m:wU} {e:Int} (h:d ∈ sd):vN bad sd kn d m e=(decide (e=0),kn):=by
 unfold vN
 by_cases he:e=0
 ·
  rw [if_pos he,if_pos h,decide_eq_true he]
 ·
  rw [if_neg he,decide_eq_false he]
theorem akr (hk:Okl k l) (k2:k≠2) (hl:l.length≤40) (hg:∀ t ∈ l,t.Ok) {sd:List (List UInt8)} {kn:List (Int×List UInt8)} (hS:aef sd l):∀ (suf pre:List Tb) {T:List Value} {r:St} {S:zn},qw (zG Try.prog O false zi.kP) T S=r→T.length=120 →
  T.getD 7 zh=.pointer (some ⟨q,0,none⟩)→T.getD 46 zh=vs fB 1 k l→T.getD 47 zh=.int .i64 l.length→T.getD 48 zh=.int .i64 pre.length→l=pre++suf→Gt S q bad sd kn →
  ∃ T' S',r=some (.exit 2,T',S')∧T'.length=120∧T'.getD 1 zh=T.getD 1 zh∧T'.getD 5 zh=T.getD 5 zh∧T'.getD 7 zh=.pointer (some ⟨q,0,none⟩)∧Gt S' q bad sd kn∧vG S S':=by
 intro suf
 induction suf with
 | nil =>
  intro pre T r S hL hT h7 h34 h35 h36 hpre hD
  have hTe:=zi.eta hT
  rw [h7,h34,h35,h36] at hTe
  have hr:zG Try.prog O false zi.kP T S=zG Try.prog O false zi.kP T S:=rfl
  have d1:¬ (pre.length:Int) < (l.length:Int):=by rw [hpre];simp
  conv at hr =>
   rhs
   rw [hTe]
   simp only [zi.kP,zi.code,zi.rs,zSs,reduceIte,Nat.reduceEqDiff,Int.reduceEq,Int.reduceLT,Int.reduceLE,d1]
  exact ⟨_,_,hL.symm.trans (jZ hr (by simp)),rfl,rfl,rfl,rfl,hD,vG.refl _⟩
 | cons t suf ih =>
  intro pre T r S hL hT h7 h34 h35 h36 hpre hD
  have hTe:=zi.eta hT
  rw [h7,h34,h35,h36] at hTe
  have hr:zG Try.prog O false zi.kP T S=zG Try.prog O false zi.kP T S:=rfl
  have d1:(pre.length:Int) < (l.length:Int):=by rw [hpre];simp;omega
  have htl:t ∈ l:=by rw [hpre];simp
  have ht:=hg t htl
  have hin:t.b ∈ sd:=(hS t.b).2 ⟨t,htl,rfl⟩
  have ne:¬ t.k=2:=ht.ne
  have e1:∀ S,jo Try.prog 29 (vs fB 1 k l) (.int .i64 pre.length) S=some (EP [by_ t.k t.b],S):=fun S=>by
   rw [adV ZM Yp acH hk (by omega) d1,Qr hpre];rfl
  have l1:∀ S,jf Try.prog false 33 (EP [by_ t.k t.b]) S=some (by_ t.k t.b,S):=fun S=>Jr YO
  have wi:IntKind.i64.wrap ((pre.length:Int)+1)=((pre++[t]).length:Int):=by rw [wrap_i64 (by omega) (by omega)];simp
  have cp:∀ S,wP Try.prog 33 33 (by_ 2 []) (by_ t.k t.b) S=some (by_ 2 t.b,S):=fun S=>aaj ht.okl (by have:=ht.le;omega)
  obtain ⟨m,e,hR,c1⟩:=zy.v ht.okl ht.ne (by have:=ht.le;omega)
  obtain ⟨S1,n1,n2,n3,n4⟩:=abx m S
  have am:yG Try.prog 48 S=some (.pointer (some ⟨S.next,0,none⟩),S.push (.cells (fM m0) (.own []) 0)):=Xe S
  obtain ⟨m2,e2,S2,hR2,c2,hD2,o2⟩:=zH.v (k:=1) (data:=t.b) (hD.ext n3) Okl.read (by decide) (by have:=ht.le;omega)
  have he2:=(XY hR2 hR).2
  subst he2
  rw [Yz hin] at c2 hD2
  obtain ⟨m3,e3,S3,hR3,c3,hD3,o3⟩:=zH.v (k:=1) (data:=t.b) hD2 Okl.read (by decide) (by have:=ht.le;omega)
  have he3:=(XY hR3 hR).2
  subst he3
  rw [Yz hin] at c3 hD3
  have q1:=nq (decide (e3=0))
  conv at hr =>
   rhs
   rw [hTe]
   simp only [zi.kP,zi.code,zi.rs,zSs,reduceIte,Nat.reduceEqDiff,Int.reduceEq,Int.reduceLT,Int.reduceLE,d1,e1,l1,if_neg ne,c1,am,n1,bb0,cp,c2,c3,q1,wi]
  obtain ⟨T',S',q1,q2,q3,q4,q5,q6,q7⟩:=ih (pre++[t]) ((wY hr).symm.trans hL) rfl rfl rfl rfl rfl (by simp [hpre]) hD3
  exact ⟨T',S',q1,q2,q3,q4,q5,q6,((vG.ext n3).trans o2).trans (o3.trans q7)⟩
theorem aj8 (hk:Okl k l) (k2:k≠2) (hl:l.length≤40) (hg:∀ t ∈ l,t.Ok) {x:List UInt8} {S:zn}:∀ (suf pre:List Tb) {T:List Value} {r:St},qw (zG Try.prog O false zi.Xh) T S=r→T.length=120 →
  T.getD 14 zh=by_ 2 x→T.getD 16 zh=.bool (pre.any fun t=>decide (t.b=x))→T.getD 83 zh=vs fB 1 k l→T.getD 84 zh=.int .i64 l.length→T.getD 85 zh=.int .i64 pre.length→l=pre++suf →
  ∃ T',r=some (.exit 4,T',S)∧T'.length=120∧T'.getD 5 zh=T.getD 5 zh∧T'.getD 7 zh=T.getD 7 zh∧T'.getD 14 zh=by_ 2 x∧T'.getD 16 zh=.bool (l.any fun t=>decide (t.b=x)):=by
 intro suf
 induction suf with
 | nil =>
  intro pre T r hL hT h14 h16 h34 h35 h36 hpre
  have hTe:=zi.eta hT
  rw [h14,h16,h34,h35,h36] at hTe
  have hr:zG Try.prog O false zi.Xh T S=zG Try.prog O false zi.Xh T S:=rfl
  have d1:¬ (pre.length:Int) < (l.length:Int):=by rw [hpre];simp
  conv at hr =>
   rhs
   rw [hTe]
   simp only [zi.Xh,zi.code,zi.rs,zSs,reduceIte,Nat.reduceEqDiff,Int.reduceEq,Int.reduceLT,Int.reduceLE,d1]
  exact ⟨_,hL.symm.trans (jZ hr (by simp)),rfl,rfl,rfl,rfl,by rw [hpre,List.append_nil];rfl⟩
 | cons t suf ih =>
  intro pre T r hL hT h14 h16 h34 h35 h36 hpre
  have hTe:=zi.eta hT
  rw [h14,h16,h34,h35,h36] at hTe
  have hr:zG Try.prog O false zi.Xh T S=zG Try.prog O false zi.Xh T S:=rfl
  have d1:(pre.length:Int) < (l.length:Int):=by rw [hpre];simp;omega
  have ht:=hg t (by rw [hpre];simp)
  have ne:¬ t.k=2:=ht.ne
  have e1:∀ S,jo Try.prog 29 (vs fB 1 k l) (.int .i64 pre.length) S=some (EP [by_ t.k t.b],S):=fun S=>by
   rw [adV ZM Yp acH hk (by omega) d1,Qr hpre];rfl
  have l1:∀ S,jf Try.prog false 33 (EP [by_ t.k t.b]) S=some (by_ t.k t.b,S):=fun S=>Jr YO
  have wi:IntKind.i64.wrap ((pre.length:Int)+1)=((pre++[t]).length:Int):=by rw [wrap_i64 (by omega) (by omega)];simp
  have s1:∀ S,ZO Try.prog 33 9 (by_ t.k t.b) S=some (.string ⟨t.b.toArray⟩,S):=fun S=>Yu ht.okl
  have s2:∀ S,qA Try.prog false false 33 9 (by_ t.k t.b) S=some (.string ⟨t.b.toArray⟩,S):=fun S=>by rw [Jp];exact s1 S
  have s3:∀ S,ZO Try.prog 33 9 (by_ 1 x) S=some (.string ⟨x.toArray⟩,S):=fun S=>Yu Okl.read
  have s4:∀ S,qA Try.prog false false 33 9 (by_ 1 x) S=some (.string ⟨x.toArray⟩,S):=fun S=>by rw [Jp];exact s3 S
  have cq:∀ S,wB Try.prog .eql 9 (.string ⟨t.b.toArray⟩) (.string ⟨x.toArray⟩) S=some (.bool (decide (t.b=x)),S):=fun S=>acN (t:=9)
  have ha:((pre++[t]).any fun t=>decide (t.b=x))=((pre.any fun t=>decide (t.b=x)) || decide (t.b=x)):=by rw [List.any_append];simp
  generalize (pre.any fun t=>decide (t.b=x))=w at hTe ha hr h16
  cases w
  ·
   conv at hr =>
    rhs
    rw [hTe]
    simp only [zi.Xh,zi.code,zi.rs,zSs,reduceIte,Nat.reduceEqDiff,Int.reduceEq,Int.reduceLT,Int.reduceLE,d1,e1,l1,if_neg ne,s1,s2,s3,s4,cq,wi]
   obtain ⟨T',q1,q2,q3,q4,q5,q6⟩:=ih (pre++[t]) ((wY hr).symm.trans hL) rfl rfl (by rw [ha];rfl) rfl rfl rfl (by simp [hpre])
   exact ⟨T',q1,q2,q3,q4,q5,q6⟩
  ·
   conv at hr =>
    rhs
    rw [hTe]
    simp only [zi.Xh,zi.code,zi.rs,zSs,reduceIte,Nat.reduceEqDiff,Int.reduceEq,Int.reduceLT,Int.reduceLE,d1,e1,l1,if_neg ne,s1,s2,s3,s4,cq,wi]
   obtain ⟨T',q1,q2,q3,q4,q5,q6⟩:=ih (pre++[t]) ((wY hr).symm.trans hL) rfl rfl (by rw [ha];rfl) rfl rfl rfl (by simp [hpre])
   exact ⟨T',q1,q2,q3,q4,q5,q6⟩
end
theorem run {k j:Nat} {l:List Tb} {bad:List Int} {m:wU} (hj:Okl j bad) (j2:j≠2) (hbl:bad.length≤17592186043904) (hk:Okl k l) (k2:k≠2) (hll:l.length * 24≤140737488351232) (hg:∀ t ∈ l,t.Ok) (ok:m.Ok):∃ S',zW Try.prog O 6 [iz j bad,vs fB 1 k l,mv m] zn.empty=some (.bool true,S'):=by
 obtain ⟨T,hTe⟩:∃ T,T=(iz j bad::vs fB 1 k l::mv m::zh::zh::zh::zh::zh::zh::zh::zh::zh::zh::zh::zh::zh::zh::zh::zh::zh::zh::zh::zh::zh::zh::zh::zh::zh::zh::zh::zh::zh::zh::zh::zh::zh::zh::zh::zh::zh::zh::zh::zh::zh::zh::zh::zh::zh::zh::zh::zh::zh::zh::zh::zh::zh::zh::zh::zh::zh::zh::zh::zh::zh::zh::zh::zh::zh::zh::zh::zh::zh::zh::zh::zh::zh::zh::zh::zh::zh::zh::zh::zh::zh::zh::zh::zh::zh::zh::zh::zh::zh::zh::zh::zh::zh::zh::zh::zh::zh::zh::zh::zh::zh::zh::zh::zh::zh::zh::zh::zh::zh::zh::zh::zh::zh::zh::zh::zh::zh::[]):=⟨_,rfl⟩
 have hr:zG Try.prog O false zi.code T zn.empty=zG Try.prog O false zi.code T zn.empty:=rfl
 have c0:=fun S=>zY.v S
 have g0:=kR m
 have hn0:0 < (Yk m).next:=Nat.zero_lt_one
 have ln:∀ S,Zz Try.prog 29 (vs fB 1 k l) S=some (.int .i64 l.length,S):=fun S=>acs ZM hk
 have lj:∀ S,Zz Try.prog 24 (iz j bad) S=some (.int .i64 bad.length,S):=fun S=>XL hj
 by_cases h1:(40:Int) < (l.length:Int)
 ·
  have dq:=decide_eq_true h1
  conv at hr =>
   rhs
   rw [hTe]
   simp only [zi.code,zi.rs,zSs,reduceIte,Nat.reduceEqDiff,Int.reduceEq,Int.reduceLT,Int.reduceLE,xZ,c0,if_neg k2,if_neg j2,ln,lj,dq]
  rw [hTe] at hr
  exact ⟨_,zi.runs hr (.inr rfl)⟩
 have dq:=decide_eq_false h1
 by_cases h2:(20:Int) < (bad.length:Int)
 ·
  have dq2:=decide_eq_true h2
  conv at hr =>
   rhs
   rw [hTe]
   simp only [zi.code,zi.rs,zSs,reduceIte,Nat.reduceEqDiff,Int.reduceEq,Int.reduceLT,Int.reduceLE,xZ,c0,if_neg k2,if_neg j2,ln,lj,dq,dq2]
  rw [hTe] at hr
  exact ⟨_,zi.runs hr (.inr rfl)⟩
 have dq2:=decide_eq_false h2
 have iz0:∀ S,jH Try.prog 24 0 [] S=some (iz 2 [],S):=fun S=>by rw [Y2];rfl
 have cpi:∀ S,wP Try.prog 24 24 (iz 2 []) (iz j bad) S=some (iz 2 bad,S):=fun S=>by
  rw [YJ Okl.own (by decide) hj (by simp;omega),if_neg (fun h=>by have:=h.1;omega),List.nil_append]
 obtain ⟨q,S1,c1,G1,E1,hq1⟩:=qH.v (k:=1) (l:=bad) Okl.read (by decide) (by omega) (Yk m)
 conv at hr =>
  rhs
  rw [hTe]
  simp only [zi.code,zi.rs,zSs,reduceIte,Nat.reduceEqDiff,Int.reduceEq,Int.reduceLT,Int.reduceLE,xZ,c0,if_neg k2,if_neg j2,ln,lj,dq,dq2,iz0,cpi,c1]
 generalize hL:qw (zG Try.prog O false zi.jL) _ _=r at hr
 obtain ⟨T1,S2,sd,kn,rfl,f1,f2,f3,f4,G2,hS,o2⟩:=round hk k2 (by omega) hg l [] hL rfl rfl rfl rfl rfl rfl G1 (fun s=>by simp)
 have f2:T1.getD 1 zh=vs fB 1 k l:=f2
 have f3:T1.getD 5 zh=.pointer (some ⟨0,0,none⟩):=f3
 have hT1:=zi.eta f1
 rw [f2,f3,f4] at hT1
 conv at hr =>
  rhs
  rw [hT1]
  simp only [zi.code,zi.rs,zSs,reduceIte,Nat.reduceEqDiff,Int.reduceEq,Int.reduceLT,Int.reduceLE,if_neg k2,ln]
 generalize hL2:qw (zG Try.prog O false zi.kP) _ _=r at hr
 obtain ⟨T2,S3,rfl,u1,u2,u3,u4,G3,o3⟩:=akr hk k2 (by omega) hg hS l [] hL2 rfl rfl rfl rfl rfl rfl G2
 have u2:T2.getD 1 zh=vs fB 1 k l:=u2
 have u3:T2.getD 5 zh=.pointer (some ⟨0,0,none⟩):=u3
 have hT2:=zi.eta u1
 rw [u2,u3,u4] at hT2
 have g3:S3.get 0=some (.cells (fM m) (.own []) 0):=((((vG.ext E1).trans o2).trans o3).2 0 _ _ _ hn0 g0).trans g0
 have n3:0 < S3.next:=Nat.lt_of_lt_of_le hn0 (((vG.ext E1).trans o2).trans o3).1
 have c3:=fun S=>zM.v ok S
 unfold aa5 at c3
 cases hR:y7 m
 ·
  rw [hR] at c3
  conv at hr =>
   rhs
   rw [hT2]
   simp only [zi.code,zi.rs,zSs,reduceIte,Nat.reduceEqDiff,Int.reduceEq,Int.reduceLT,Int.reduceLE,kT g3 ok.b.ne,c3]
  rw [hTe] at hr
  exact ⟨_,zi.runs hr (.inr rfl)⟩
 rw [hR] at c3
 conv at hr =>
  rhs
  rw [hT2]
  simp only [zi.code,zi.rs,zSs,reduceIte,Nat.reduceEqDiff,Int.reduceEq,Int.reduceLT,Int.reduceLE,kT g3 ok.b.ne,c3,if_neg k2,ln]
 generalize hL3:qw (zG Try.prog O false zi.Xh) _ _=r at hr
 obtain ⟨T3,rfl,w1,w2,w3,w4,w5⟩:=aj8 hk k2 (by omega) hg (x:=Jj m) l [] hL3 rfl rfl rfl rfl rfl rfl rfl
 have w2:T3.getD 5 zh=.pointer (some ⟨0,0,none⟩):=w2
 have w3:T3.getD 7 zh=.pointer (some ⟨q,0,none⟩):=w3
 have hT3:=zi.eta w1
 rw [← akj hS] at w5
 rw [w2,w3,w4,w5] at hT3
 have cp:∀ S,wP Try.prog 33 33 (by_ 2 []) (by_ 1 (Jj m)) S=some (by_ 2 (Jj m),S):=fun S=>aaj Okl.read (by have:=aag hR;omega)
 obtain ⟨S4,c4,G4,o4⟩:=Wv G3 hR
 have g4:S4.get 0=some (.cells (fM m) (.own []) 0):=(o4.2 0 _ _ _ n3 g3).trans g3
 have d0:=wK g4
 have d1:=yC g4
 by_cases hkd:m.kind=1
 ·
  have dk:=decide_eq_true hkd
  by_cases hx:Jj m ∈ sd
  ·
   rw [Yz hx] at c4
   have dx:=decide_eq_true hx
   conv at hr =>
    rhs
    rw [hT3]
    simp only [zi.code,zi.rs,zSs,reduceIte,Nat.reduceEqDiff,Int.reduceEq,Int.reduceLT,Int.reduceLE,bb0,cp,c4,zJ,d0,dk,dx]
   rw [hTe] at hr
   exact ⟨_,zi.runs hr (.inr rfl)⟩
  ·
   have dx:=decide_eq_false hx
   conv at hr =>
    rhs
    rw [hT3]
    simp only [zi.code,zi.rs,zSs,reduceIte,Nat.reduceEqDiff,Int.reduceEq,Int.reduceLT,Int.reduceLE,bb0,cp,c4,zJ,d0,dk,dx]
   rw [hTe] at hr
   exact ⟨_,zi.runs hr (.inr rfl)⟩
 ·
  have dk:=decide_eq_false hkd
  have eq2:∀ (a:Bool) S,wB Try.prog .eql 4 (.bool a) (.bool a) S=some (.bool true,S):=fun a S=>by cases a <;> rfl
  by_cases hx:Jj m ∈ sd
  ·
   rw [Yz hx] at c4
   have dx:=decide_eq_true hx
   have q1:=eq2 true
   conv at hr =>
    rhs
    rw [hT3]
    simp only [zi.code,zi.rs,zSs,reduceIte,Nat.reduceEqDiff,Int.reduceEq,Int.reduceLT,Int.reduceLE,bb0,cp,c4,zJ,d0,dk,dx,q1]
   rw [hTe] at hr
   exact ⟨_,zi.runs hr (.inr rfl)⟩
  ·
   have dx:=decide_eq_false hx
   have hp:vN bad sd kn (Jj m) m 0=(isBad bad m.frm,kn):=by
    unfold vN
    rw [if_pos rfl,if_neg hx,if_neg hkd]
    cases isBad bad m.frm <;> rfl
   rw [hp] at c4 G4
   have c5:zW Try.prog O wH.id [.pointer (some ⟨q,0,none⟩),.int .i64 m.frm] S4=some (.bool (isBad bad m.frm),S4):=wH.v G4 m.frm
   have q1:=eq2 (isBad bad m.frm)
   conv at hr =>
    rhs
    rw [hT3]
    simp only [zi.code,zi.rs,zSs,reduceIte,Nat.reduceEqDiff,Int.reduceEq,Int.reduceLT,Int.reduceLE,bb0,cp,c4,zJ,zV,d0,d1,dk,dx,c5,q1]
   rw [hTe] at hr
   exact ⟨_,zi.runs hr (.inr rfl)⟩
theorem law (x:Args codes) (h:Args.Good codes x):∃ k,(Jo Try.prog k 6 (Args.place codes x zn.empty).1 (Args.place codes x zn.empty).2).map (·.1)=some (.bool true):=by
 obtain ⟨a,b,c,u⟩:=x
 obtain ⟨h1,h2,h3,_⟩:=h
 obtain ⟨j,bad,a1,a2,a3,a4,_⟩:=ai8 a h1
 obtain ⟨k,l,p1,p2,p3,p4,p5⟩:=akg b h2
 obtain ⟨m,t1,ht⟩:=ak1 c h3
 obtain ⟨S',e⟩:=run a1 a2 a4 p1 p2 p4 p5 ht
 refine abH ajV (S':=S') ?_
 have e2:Args.WO codes (a,b,c,u)=[iz j bad,vs fB 1 k l,mv m]:=by
  show [JL false ((Ty.slc 8 (.int .i64)).WO a),JL false ((Ty.slc 24 (.slc 1 (.int .u8))).WO b),JL true (tM.WO c)]=_
  rw [a3,p3,t1];rfl
 rw [e2]
 exact e
end gateSays
end Go.Proofs.Ytfjogganfjkckaa
namespace Go.Proofs.Ytfjogganfjkckaa.gateSays
open Go.ChangeShapes Go.WideShapes Go.ChangeAt Go.RowKit Go.Abs
theorem own:ownKnob Try.prog.godebug=none:=by kernel_rfl
theorem laidOut:laidOutB Try.prog=true:=by kernel_rfl
theorem mixes:Try.prog.follows .mixedOrders=true:=by kernel_rfl
set_option maxRecDepth 100000 in
theorem lifted (os:Os) (started:os.Started) (H:Type) (enc:TypeId×Value→H) :
  ReturnsInHanded {} Try.checked os 6 .any (Rows.gateSaysSpec.pre6 enc Try.prog Try.f6 Rows.gateSaysRow.domain false) (Rows.gateSaysSpec.post enc Try.prog Try.f6 false true false false):=by
 refine returnsInHanded_of_change_sized (C:=Try.checked) own started (by kernel_rfl) Try.func6
  (ChangeSpec.witness6 (enc:=enc) (C:=Try.checked) false ⟨#[],#[.slice none 0 0,.slice none 0 0,.agg #[.int .i64 0,.int .i64 0,.int .i64 0,.int .i64 0,.int .i64 0,.int .i64 0,.int .i64 0,.int .i64 0,.int .i64 0,.int .i64 0,.int .i64 0,.int .i64 0,.slice none 0 0]],[]⟩ 8 (by kernel_rfl) (by kernel_rfl) (by kernel_rfl) (by kernel_rfl)) ?_
 intro W base args ds gs before hval0 hW hcnd hsz0 _
 have hW':=hW
 obtain ⟨p,q,hA0,hV,rfl,hfz,hnd⟩:=hW
 obtain ⟨rfl,rfl⟩:=trodVars_none hV
 have hsz1:(DataW.weightsEach Try.prog (Try.f6.params.toList++Rows.gateSaysSpec.plain.varTypes Try.prog) (ds++[])).all (·≤reachBytes)=true:=hsz0
 have hval:∀ (j:Nat) t v,Try.f6.params[j]?=some t→args[j]?=some v→Value.okWide Try.prog W .any base t v:=hval0
 have hA1:DataW.TrodAll enc Try.prog W 0 (fun _=>true) true Try.f6.params.toList args.toList ds p:=hA0
 rw [Try.params6] at hA1 hsz1 hval
 have hA:DataW.TrodAll enc Try.prog W 0 (fun _=>true) true [24,29,48] args.toList ds p:=hA1
 have hsz:(DataW.weightsEach Try.prog [24,29,48] ds).all (·≤reachBytes)=true:=by rw [List.append_nil ds] at hsz1;exact hsz1
 clear hA0 hA1 hval0 hsz0 hsz1
 have r:=hA
 obtain ⟨v0,vs0,d0,ds0,p0,q0,hargs0,rfl,hp0,h0,r0⟩:=trodAll_cons r
 obtain ⟨v1,vs1,d1,ds1,p1,q1,hargs1,rfl,hp1,h1,r1⟩:=trodAll_cons r0
 obtain ⟨v2,vs2,d2,ds2,p2,q2,hargs2,rfl,hp2,h2,r2⟩:=trodAll_cons r1
 obtain ⟨_,rfl,_⟩:=trodAll_nil r2
 refine (afR mixes coded law hA (fun j t v h1 h2=>hval j t v (by rw [List.getElem?_toArray];exact h1) h2) hsz).mono fun e W' ⟨he,bel⟩=>?_
 subst he
 exact ⟨_,rfl,_,_,_,[],_,[],hW',trodAll_mk1 (shut_bool (by kernel_rfl) _),agT laidOut bel _ _ _ _ (by kernel_rfl) hA,rfl,bel.frame _,fun h=>by cases h⟩
theorem over:Rows.gateSaysRow.holds Try.pinned (OpenSpec.ofChange Rows.gateSaysSpec) :=
 OpenClaim.holds_of_wide 6 Try.f6 rfl rfl rfl rfl rfl rfl rfl ⟨rfl,rfl,rfl,rfl,rfl⟩ rfl rfl rfl rfl rfl (by kernel_rfl) Try.func6 (by kernel_rfl)
  (of_decide_eq_true (by kernel_rfl)) (by unfold Func.isWrapper;first | (rw [if_pos (by decide +kernel)];kernel_rfl) | (rw [if_neg (by decide +kernel)];exact ⟨rfl,rfl⟩))
  (fun os started H enc _=>lifted os started H enc)
theorem proved:Rows.GateSaysSaid:=over
end Go.Proofs.Ytfjogganfjkckaa.gateSays
namespace Go.Proofs.Ytfjogganfjkckaa
theorem gateSays_holds:Rows.GateSaysSaid:=gateSays.proved
#print axioms gateSays_holds
end Go.Proofs.Ytfjogganfjkckaa
