/-
The law JournalRuns returns true for every input, and leaves it as it was; no condition. Part 5 of 5 of the texts (put together by a program: own names are short, what isn't needed is left out).
-/
import Derived.Test.YtblpnklfimkfoaaZJournalRuns4
import Derived.Test.YtblpnklfimkfoaaChecked
import Derived.KernelRfl
import Derived.Test.YtblpnklfimkfoaaRows
import Derived.WalkKit
import Derived.ProofKit
import Derived.OpenShut
import Derived.ShutString
import Derived.ChangeOld
import Derived.Below
import Derived.SizedLaws
import Derived.Carry
set_option linter.unusedVariables false
set_option linter.unusedSimpArgs false
set_option maxRecDepth 100000
open Go renaming undef → zh
open Go.Proofs.Try renaming prog → zi
open Nat renaming reduceEqDiff → zk
open Int renaming reduceEq → zn
open Int renaming reduceLT → zo
open Int renaming reduceLE → zq
namespace Go.Proofs.Ytblpnklfimkfoaa
open Go.Abs
section
variable {S:zx} {q:Nat} {data:List UInt8} {sy room:Int}
theorem wG.v {r:Int} (S:zx):∃ S1,jm zi O wG.id [.int .i64 r] S=some (.pointer (some ⟨S.next,0,none⟩),S1)∧Dk S1 S.next [] 0 (max 0 (min r 65536))∧Old S.next S S1:=by
 obtain ⟨T,hTe⟩:∃ T,T=(.int .i64 r::zh::zh::zh::zh::zh::zh::zh::zh::zh::[]):=⟨_,rfl⟩
 have hr:zI zi O false wG.code T S=zI zi O false wG.code T S:=rfl
 have h0:Dk (S.push (.cells [.slice none 0 0,.int .i64 0,.int .i64 0] (.own []) 0)) S.next [] 0 0 :=
  ⟨by simp,by simp,by omega,by simp,by omega,by omega,none,by rw [zx.jJ,if_pos rfl];rfl,.inl ⟨rfl,rfl⟩⟩
 obtain ⟨v,S1,e1,d1,o1⟩:=jP.v (r:=r) h0
 have bx:JV (.agg [.slice none 0 0,.int .i64 0,.int .i64 0].toArray) S=some (.pointer (some ⟨S.next,0,none⟩),S.push (.cells [.slice none 0 0,.int .i64 0,.int .i64 0] (.own []) 0)):=rfl
 conv at hr =>
  rhs
  rw [hTe]
  simp only [wG.code,wG.rs,zSs,reduceIte,zk,zn,zo,zq,XD,bx,e1]
 rw [hTe] at hr
 exact ⟨_,wG.runs hr (.inr rfl),d1,fun k hk=>(o1 k hk).trans (by rw [zx.jJ,if_neg (by omega)])⟩
theorem kX (l:List UInt8):(l.flatMap cb).length=l.length:=by rw [Ze XM,Nat.mul_one]
theorem adL (l:List UInt8):(l.flatMap cb).all (·.oneCell')=true:=by rw [List.all_flatMap,List.all_eq_true];exact fun x _=>rfl
theorem ahO (l:List UInt8):(l.flatMap cb).all sg=true:=by rw [List.all_flatMap,List.all_eq_true];exact fun x _=>rfl
def Nin (S:zx) (a:Option Addr) (p:Nat):Prop:=∀ r cs anc e,a=some ⟨r,0,none⟩→S.get r=some (.cells cs (.own anc) e)→p≠r∧p ∉ anc
theorem Nin.none {S:zx} {p:Nat}:Nin S none p:=fun _ _ _ _ h=>by cases h
theorem Nin.new {S:zx} {p r e:Nat} {cs:List Value} {anc:List Nat} (hg:S.get r=some (.cells cs (.own anc) e)) (h:p≠r) (h2:p ∉ anc):Nin S (some ⟨r,0,Option.none⟩) p:=fun r' cs' anc' e' h3 h4=>by
 simp only [Option.some.injEq,Addr.mk.injEq,and_true] at h3
 subst h3
 rw [hg] at h4
 cases h4
 exact ⟨h,h2⟩
theorem Z5.aaB {a:Option Addr} {x:Value} {b:List UInt8} (hd:Z5 S q a data) (hq:q < S.next) (hsrc:YU zi 26 1 x S=some (b.length,b.flatMap cb)) (hl:data.length+b.length≤65536) :
  ∃ a' S1,qF zi true 26 26 (.slice a data.length data.length) x S=some (.slice a' (data++b).length (data++b).length,S1)∧Z5 S1 q a' (data++b)∧S1.get q=S.get q∧q < S1.next∧Old q S S1∧(∀ p,p < S.next→(∀ r,a=some ⟨r,0,none⟩→r < p)→S1.get p=S.get p)∧(a'=none∨a'=some ⟨S.next,0,none⟩)∧S.next≤S1.next∧∀ p,p < S.next→Nin S a p→S1.get p=S.get p∧Nin S1 a' p:=by
 rcases hd with ⟨rfl,rfl⟩ | ⟨r,anc,rest,rfl,k2,k3,k4,k5⟩
 ·
  have e1:=aaQ (t:=26) (tx:=26) (S:=S) wF xG YO rfl YT (by decide) hsrc (by simp at hl;omega) (by simp at hl;omega)
  by_cases h0:b.length=0
  ·
   have hb:b=[]:=List.length_eq_zero_iff.1 h0
   subst hb
   exact ⟨none,S,e1,.inl ⟨rfl,rfl⟩,rfl,hq,Old.refl _ _,fun _ _ _=>rfl,.inl rfl,Nat.le_refl _,fun _ _ _=>⟨rfl,Nin.none⟩⟩
  ·
   rw [if_neg h0,if_neg h0] at e1
   refine ⟨some ⟨S.next,0,none⟩,_,e1,.inr ⟨S.next,[],[],rfl,?_,by omega,by simp,by simp⟩,?_,by simp;omega,fun k hk=>by rw [zx.jJ,if_neg (by omega)],fun p hp _=>by rw [zx.jJ,if_neg (by omega)],.inr rfl,by simp,fun p hp _=>⟨by rw [zx.jJ,if_neg (by omega)],Nin.new (by rw [zx.jJ,if_pos rfl]) (by omega) (by simp)⟩⟩
   ·
    rw [zx.jJ,if_pos rfl,List.append_nil,List.nil_append]
   ·
    rw [zx.jJ,if_neg (by omega)]
 ·
  have hlen:(data.flatMap cb).length=data.length:=kX data
  have htk:((data.flatMap cb++rest).drop 0).take (data.length * 1)=data.flatMap cb:=by
   rw [List.drop_zero,Nat.mul_one,← hlen,List.take_left]
  have e1:=aaZ (hp:=true) (t:=26) (tx:=26) (o:=0) (n:=data.length) (c:=data.length) wF xG YO rfl YT (by decide) hsrc k2 (by rw [List.length_append,hlen];omega) (by omega) (by omega) (by rw [htk];exact adL data)
  rw [htk,← List.length_append] at e1
  by_cases h0:0+data.length * 1=(data.flatMap cb++rest).length
  ·
   rw [if_pos h0] at e1
   refine ⟨some ⟨S.next,0,none⟩,_,e1,.inr ⟨S.next,_,[],rfl,by rw [zx.jJ,zx.qK,if_pos rfl,List.append_nil,List.flatMap_append],by omega,by simp,?_⟩,?_,by simp;omega,fun k hk=>by rw [zx.jJ,zx.qK,if_neg (by omega),zx.jS,if_neg (by omega)],fun p hp hr=>by have:=hr r rfl;rw [zx.jJ,zx.qK,if_neg (by omega),zx.jS,if_neg (by omega)],.inr rfl,by simp,fun p hp hn=>by
    obtain ⟨h1,h2⟩:=hn r _ _ _ rfl k2
    refine ⟨by rw [zx.jJ,zx.qK,if_neg (by omega),zx.jS,if_neg h1],Nin.new (by rw [zx.jJ,zx.qK,if_pos rfl]) (by omega) ?_⟩
    split
    ·
     simp
    ·
     intro h;rcases List.mem_cons.1 h with h | h
     ·
      exact h1 h
     ·
      exact h2 h⟩
   ·
    split
    ·
     simp
    ·
     intro x h;rcases List.mem_cons.1 h with h | h
     ·
      omega
     ·
      have:=k5 x h;omega
   ·
    rw [zx.jJ,zx.qK,if_neg (by omega),zx.jS,if_neg (by omega)]
  ·
   rw [if_neg h0] at e1
   refine ⟨some ⟨S.next,0,none⟩,_,e1,.inr ⟨S.next,[],[],rfl,by rw [zx.jJ,zx.qK,zx.xW,if_pos rfl,List.append_nil,List.flatMap_append],by omega,by simp,by simp⟩,?_,by simp;omega,fun k hk=>by rw [zx.jJ,zx.qK,zx.xW,if_neg (by omega),zx.jS,if_neg (by omega),zx.kG,if_neg (fun h=>by have:=k5 k h;omega)],fun p hp hr=>by have:=hr r rfl;rw [zx.jJ,zx.qK,zx.xW,if_neg (by omega),zx.jS,if_neg (by omega),zx.kG,if_neg (fun h=>by have:=k5 p h;omega)],.inr rfl,by simp,fun p hp hn=>by
    obtain ⟨h1,h2⟩:=hn r _ _ _ rfl k2
    exact ⟨by rw [zx.jJ,zx.qK,zx.xW,if_neg (by omega),zx.jS,if_neg h1,zx.kG,if_neg h2],Nin.new (by rw [zx.jJ,zx.qK,zx.xW,if_pos rfl]) (by omega) (by simp)⟩⟩
   rw [zx.jJ,zx.qK,zx.xW,if_neg (by omega),zx.jS,if_neg (by omega),zx.kG,if_neg (fun h=>by have:=k5 q h;omega)]
theorem Z5.append {a:Option Addr} {k:Nat} {b:List UInt8} (hd:Z5 S q a data) (hq:q < S.next) (hk:Okl k b) (hl:data.length+b.length≤65536) :
  ∃ a' S1,qF zi true 26 26 (.slice a data.length data.length) (by_ k b) S=some (.slice a' (data++b).length (data++b).length,S1)∧Z5 S1 q a' (data++b)∧S1.get q=S.get q∧q < S1.next∧Old q S S1∧∀ p,p < S.next→(∀ r,a=some ⟨r,0,none⟩→r < p)→S1.get p=S.get p:=by
 obtain ⟨a',S1,h1,h2,h3,h4,h5,h6,_⟩:=hd.aaB hq (aae wF hk.okv (by rw [kX,Nat.mul_one]) (adL b)) hl
 exact ⟨a',S1,h1,h2,h3,h4,h5,h6⟩
theorem Z5.slice {a:Option Addr} {dr:Bool} (hd:Z5 S q a data) {hi:Int} (h0:0≤hi) (h1:hi≤data.length) (hdr:dr=false) :
  ∃ a',yc zi dr 26 (.slice a data.length data.length) none (some (.int .i64 hi)) S=some (.slice a' (data.take hi.toNat).length (data.take hi.toNat).length,S)∧Z5 S q a' (data.take hi.toNat)∧a'=a:=by
 have hd0:=hd
 rcases hd with ⟨rfl,rfl⟩ | ⟨r,anc,rest,rfl,k2,k3,k4,k5⟩
 ·
  have h1:hi≤0:=h1
  refine ⟨none,?_,hd0.take _,rfl⟩
  rw [List.take_nil]
  exact acC wF xG (l:=0) (h:=hi) rfl rfl (by omega) h0 h1
 ·
  refine ⟨some ⟨r,0,none⟩,?_,hd0.take _,rfl⟩
  have:=abW (P:=zi) (t:=26) (o:=0) (n:=data.length) (c:=data.length) (lo:=none) (hi:=some (.int .i64 hi)) (l:=0) (h:=hi) hdr k2 wF xG rfl rfl (by omega) h0 h1
  rw [this]
  have e:hi.toNat - Int.toNat 0=(data.take hi.toNat).length:=by rw [List.length_take];omega
  rw [e]
  rfl
theorem jg.v (h:Dk S q data sy room):jm zi O 25 [.pointer (some ⟨q,0,none⟩)] S=some (by_ 2 data,S):=by
 rw [afa (q:=Y9) rfl]
 obtain ⟨a,h1,h2⟩:=h.cell
 have hlt:=h.lt
 have hb:=h.len
 rcases h2 with ⟨rfl,rfl⟩ | ⟨r,anc,rest,rfl,k2,k3,k4,k5⟩
 ·
  simp only [Y9,h1,if_pos hlt]
  rfl
 ·
  have hlen:(data.flatMap cb).length=data.length:=kX data
  have htk:(data.flatMap cb++rest).take data.length=data.flatMap cb:=by rw [← hlen,List.take_left]
  simp only [Y9,h1,if_pos hlt,k2,htk,ahO,if_true,if_pos k4]
  rw [if_pos (by rw [List.length_append,hlen];omega),if_pos (by omega)]
  rfl
end
end Go.Proofs.Ytblpnklfimkfoaa
namespace Go.Proofs.Ytblpnklfimkfoaa
open Go.Abs
theorem ahk {t:TypeId} {a b:List UInt8} {S:zx}:Zj zi .eql t (.string ⟨a.toArray⟩) (.string ⟨b.toArray⟩) S=some (.bool (decide (a=b)),S):=by rw [aaW]
theorem afd {t:TypeId} {a b:List UInt8} {S:zx}:Zj zi .neq t (.string ⟨a.toArray⟩) (.string ⟨b.toArray⟩) S=some (.bool (!decide (a=b)),S):=by rw [aa2]
end Go.Proofs.Ytblpnklfimkfoaa
namespace Go.Proofs.Ytblpnklfimkfoaa
open Go.Abs
theorem aan (q:Nat) (S:zx):wu zi .eql 37 (.pointer (some ⟨q,0,none⟩)) (.pointer none) S=some (.bool false,S):=by kernel_rfl
theorem aac (q:Nat) (S:zx):wu zi .neq 37 (.pointer (some ⟨q,0,none⟩)) (.pointer none) S=some (.bool true,S):=by kernel_rfl
end Go.Proofs.Ytblpnklfimkfoaa
namespace Go.Proofs.Ytblpnklfimkfoaa
open Go.Abs
theorem jB.v {a b:yZ} (ha:a.Ok) (hb:b.Ok) (S:zx):jm zi O jB.id [rv a,rv b] S=some (.bool ((((decide (a.kind=b.kind) && decide (a.index=b.index)) && decide (a.view=b.view)) && decide (a.value=b.value)) && decide (a.txt=b.txt)),S):=by
 obtain ⟨T,hTe⟩:∃ T,T=(rv a::rv b::zh::zh::zh::zh::zh::zh::zh::zh::zh::zh::zh::zh::zh::zh::zh::zh::zh::zh::zh::zh::zh::zh::zh::zh::zh::zh::zh::zh::zh::zh::zh::zh::zh::zh::zh::zh::zh::zh::[]):=⟨_,rfl⟩
 have hr:zI zi O false jB.code T zx.empty=zI zi O false jB.code T zx.empty:=rfl
 have g0:=Vg a b
 have g1:=Vt a b
 have hc:[rv a,rv b].all (jD 16)=true:=all2 (vF ha.okl.le) (vF hb.okl.le)
 have s1:∀ S,vW zi 26 9 (by_ a.k a.txt) S=some (.string ⟨a.txt.toArray⟩,S):=fun S=>Qp ha.okl
 have s2:∀ S,vW zi 26 9 (by_ b.k b.txt) S=some (.string ⟨b.txt.toArray⟩,S):=fun S=>Qp hb.okl
 have s3:∀ S,wP zi false false 26 9 (by_ a.k a.txt) S=some (.string ⟨a.txt.toArray⟩,S):=fun S=>by rw [vY];exact s1 S
 have s4:∀ S,wP zi false false 26 9 (by_ b.k b.txt) S=some (.string ⟨b.txt.toArray⟩,S):=fun S=>by rw [vY];exact s2 S
 have cq:∀ S,wu zi .eql 9 (.string ⟨a.txt.toArray⟩) (.string ⟨b.txt.toArray⟩) S=some (.bool (decide (a.txt=b.txt)),S):=fun S=>ahk (t:=9)
 conv at hr =>
  rhs
  rw [hTe]
  simp only [jB.code,jB.rs,zSs,reduceIte,zk,zn,zo,zq,agO,ahS,kZ,aaS g0,aaS g1,wB (qE _ _ _),wB (qy _ _ _),wB (qw _ _ _),wB (qx _ _ _),wB (Xc g0),wB (Xc g1),wB (Xf g0),wB (Xf g1),wB (XU g0),wB (XU g1),wB (KX g0 ha.ne),wB (KX g1 hb.ne),wB (s1 _),wB (s2 _),wB (s3 _),wB (s4 _),wB (cq _),gvw]
 rw [hTe] at hr
 exact jB.runs hr (.inr rfl) hc rfl
theorem adA {a b:yZ} (ha:a.Ok) (hb:b.Ok) (h:Zo a b) (S:zx):jm zi O 38 [rv a,rv b] S=some (.bool true,S):=by
 obtain ⟨h1,h2,h3,h4,h5⟩:=h
 have:=jB.v ha hb S
 simp only [h1,h2,h3,h4,h5,decide_true,Bool.and_self] at this
 exact this
theorem ZC.len {a b:List yZ} (h:ZC a b):a.length=b.length:=by
 induction h with
 | nil=>rfl
 | cons _ _ ih=>simp [ih]
theorem ZC.refl:∀ l:List yZ,ZC l l
 | []=>.nil
 | x::l=>.cons (Zo.refl x) (ZC.refl l)
theorem ag7 {k:Nat} {l pre suf:List yZ} {x:yZ} (hk:Okl k l) (hl:l=pre++x::suf) (S:zx):jI zi 22 (rl k l) (.int .i64 pre.length) S=some (EP [.int .i64 x.kind,.int .i64 x.index,.int .i64 x.view,.int .i64 x.value,by_ x.k x.txt],S):=by
 rw [ae0 Zc vg afw hk (by omega) (by rw [hl];simp;omega),aam hl];rfl
theorem afA {k:Nat} {l:List yZ} (hk:Okl k l) (S:zx):ku zi 22 (rl k l) S=some (.int .i64 l.length,S):=aaq Zc hk
theorem zD.round {k j:Nat} {a b:List yZ} (hk:Okl k a) (hj:Okl j b) (k2:k≠2) (j2:j≠2) (ha:∀ r ∈ a,r.Ok) (hb:∀ r ∈ b,r.Ok) (hl:a.length≤2000000000000) {S:zx}:∀ (sa sb pa pb:List yZ) {T:List Value} {r:St},ZC sa sb→yQ (zI zi O false zD.jG) T S=r→T.length=27 →
  T.getD 0 zh=rl k a→T.getD 1 zh=rl j b→T.getD 12 zh=.int .i64 a.length→T.getD 13 zh=.int .i64 pa.length→a=pa++sa→b=pb++sb→pa.length=pb.length →
  ∃ T',r=some (.exit 0,T',S)∧T'.length=27:=by
 intro sa
 induction sa with
 | nil =>
  intro sb pa pb T r hs hL hT h0 h1 h12 h13 hpa hpb hp
  have hTe:=zD.eta hT
  rw [h0,h1,h12,h13] at hTe
  have hr:zI zi O false zD.jG T S=zI zi O false zD.jG T S:=rfl
  have d1:¬ (pa.length:Int) < (a.length:Int):=by rw [hpa];simp
  conv at hr =>
   rhs
   rw [hTe]
   simp only [zD.jG,zD.code,zD.rs,zSs,reduceIte,zk,zn,zo,zq,d1]
  exact ⟨_,hL.symm.trans (jM hr (by simp)),rfl⟩
 | cons x sa ih =>
  intro sb pa pb T r hs hL hT h0 h1 h12 h13 hpa hpb hp
  cases hs with
  | @cons _ y _ sb hxy hs =>
  have hTe:=zD.eta hT
  rw [h0,h1,h12,h13] at hTe
  have hr:zI zi O false zD.jG T S=zI zi O false zD.jG T S:=rfl
  have hal:a.length=pa.length+sa.length+1:=by rw [hpa];simp;omega
  have d1:(pa.length:Int) < (a.length:Int):=by omega
  have e1:=fun S=>ag7 hk hpa S
  have e2:=fun S=>ag7 hj hpb S
  rw [← hp] at e2
  have c1:=fun S=>adA (ha x (by rw [hpa];simp)) (hb y (by rw [hpb];simp)) hxy S
  have wi:IntKind.i64.wrap ((pa.length:Int)+1)=((pa++[x]).length:Int):=by rw [wrap_i64 (by omega) (by omega)];simp
  conv at hr =>
   rhs
   rw [hTe]
   simp only [zD.jG,zD.code,zD.rs,zSs,reduceIte,zk,zn,zo,zq,if_neg k2,if_neg j2,d1,e1,e2,aa6,c1,wi]
  exact ih sb (pa++[x]) (pb++[y]) hs ((wL hr).symm.trans hL) rfl rfl rfl rfl rfl (by simp [hpa]) (by simp [hpb]) (by simp [hp])
theorem zD.v {k j:Nat} {a b:List yZ} (hk:Okl k a) (hj:Okl j b) (k2:k≠2) (j2:j≠2) (ha:∀ r ∈ a,r.Ok) (hb:∀ r ∈ b,r.Ok) (hl:a.length≤2000000000000) (hs:ZC a b) (S:zx):jm zi O zD.id [rl k a,rl j b] S=some (.bool true,S):=by
 obtain ⟨T,hTe⟩:∃ T,T=(rl k a::rl j b::zh::zh::zh::zh::zh::zh::zh::zh::zh::zh::zh::zh::zh::zh::zh::zh::zh::zh::zh::zh::zh::zh::zh::zh::zh::[]):=⟨_,rfl⟩
 have hr:zI zi O false zD.code T S=zI zi O false zD.code T S:=rfl
 have el:(b.length:Int)=(a.length:Int):=by rw [hs.len]
 conv at hr =>
  rhs
  rw [hTe]
  simp only [zD.code,zD.rs,zSs,reduceIte,zk,zn,zo,zq,if_neg k2,if_neg j2,afA hk,afA hj,el,decide_true,Bool.not_true]
 generalize hL:yQ (zI zi O false zD.jG) _ _=r at hr
 obtain ⟨T',rfl,g1⟩:=zD.round hk hj k2 j2 ha hb hl a b [] [] hs hL rfl rfl rfl rfl rfl rfl rfl rfl
 have hT':=zD.eta g1
 conv at hr =>
  rhs
  rw [hT']
  simp only [zD.code,zD.rs,zSs,reduceIte,zk,zn,zo,zq]
 rw [hTe] at hr
 exact zD.runs hr (.inr rfl)
def aaO (room:Int) (data:List UInt8) (r:yZ):Int:=if wM r then (if roomOf room data.length < (yC r).length then 41 else 0) else 51
theorem jQ.v {S:zx} {q:Nat} {data:List UInt8} {sy room:Int} (h:Dk S q data sy room):∃ rs m,Yb data rs m∧jm zi O jQ.id [.pointer (some ⟨q,0,none⟩)] S=some (rl (if rs=[] then 0 else 2) rs,S):=by
 obtain ⟨T,hTe⟩:∃ T,T=(.pointer (some ⟨q,0,none⟩)::zh::zh::zh::zh::zh::zh::zh::zh::zh::zh::zh::[]):=⟨_,rfl⟩
 have hr:zI zi O false jQ.code T S=zI zi O false jQ.code T S:=rfl
 have c1:=jg.v h
 obtain ⟨rs,m,hs,c2⟩:=zK.v (k:=1) (l:=data) Okl.read (by decide) (by have:=h.len;omega)
 refine ⟨rs,m,hs,?_⟩
 conv at hr =>
  rhs
  rw [hTe]
  simp only [jQ.code,jQ.rs,zSs,reduceIte,zk,zn,zo,zq,c1,c2]
 rw [hTe] at hr
 exact jQ.runs hr (.inr rfl)
abbrev ag0:Ty:=.pair (.int .i64) (.pair (.int .i64) (.pair (.int .i64) (.pair (.int .i64) (.pair (.slc 1 (.int .u8)) .unit))))
theorem ahp (x:ag0.Val) (hg:ag0.Good x):∃ r:yZ,ag0.J9 x=fR r∧r.Ok:=by
 obtain ⟨a,b,c,d,t,u⟩:=x
 obtain ⟨h1,h2,h3,h4,h5,_⟩:=hg
 obtain ⟨k,l,p1,p2,p3,p4⟩:=aaE t h5
 refine ⟨⟨a,b,c,d,k,l⟩,?_,⟨p1,p2,p4,Xm h1,Xm h2,Xm h3,Xm h4⟩⟩
 show [Value.int .i64 a]++([Value.int .i64 b]++([Value.int .i64 c]++([Value.int .i64 d]++((Ty.slc 1 (.int .u8)).J9 t++[]))))=_
 rw [p3];rfl
end Go.Proofs.Ytblpnklfimkfoaa
namespace Go.Proofs.Ytblpnklfimkfoaa
open Go.Abs
section
variable {S:zx} {q:Nat} {data:List UInt8} {sy room:Int}
def WQ (S:zx) (q p:Nat):Prop:=∃ a n c rest own e,S.get q=some (.cells (.slice a n c::rest) own e)∧Nin S a p
theorem WQ.empty {p:Nat} (h:Dk S q [] sy room) (hn:∀ a,S.get q=some (.cells [.slice a 0 0,.int .i64 sy,.int .i64 room] (.own []) 0)→a=none):WQ S q p:=by
 obtain ⟨a,h1,_⟩:=h.cell
 have:=hn a h1
 subst this
 exact ⟨_,_,_,_,_,_,h1,Nin.none⟩
theorem Z5.at {a:Option Addr} {r:Nat} (h:Z5 S q a data) (ha:a=some ⟨r,0,none⟩):q < r∧r < S.next∧∃ cs anc,S.get r=some (.cells cs (.own anc) 1)∧∀ x ∈ anc,x < r:=by
 rcases h with ⟨d1,_⟩ | ⟨r',anc,_,j1,j2,j3,j4,j5⟩
 ·
  rw [d1] at ha;cases ha
 ·
  rw [j1] at ha
  simp only [Option.some.injEq,Addr.mk.injEq,and_true] at ha
  subst ha
  exact ⟨j3,j4,_,_,j2,fun x hx=>(j5 x hx).2⟩
theorem WQ.ext {p:Nat} {S1:zx} (h:WQ S q p) (hD:Dk S q data sy room) (k:Ext S S1):WQ S1 q p:=by
 obtain ⟨a0,h1,h2⟩:=hD.cell
 obtain ⟨a,n,c,rest,own,e,g,m⟩:=h
 rw [h1] at g
 cases g
 refine ⟨_,_,_,_,_,_,by rw [k.2 q hD.lt];exact h1,fun r cs anc e hr hg=>?_⟩
 rw [k.2 r (h2.at hr).2.1] at hg
 exact m r cs anc e hr hg
theorem WQ.fresh {p:Nat} {S1:zx} (hD:Dk S q data sy room) (k:Ext S S1) (hp:S.next≤p):WQ S1 q p:=by
 obtain ⟨a0,h1,h2⟩:=hD.cell
 refine ⟨_,_,_,_,_,_,by rw [k.2 q hD.lt];exact h1,fun r cs anc e hr hg=>?_⟩
 obtain ⟨k1,k2,cs',anc',k3,k4⟩:=h2.at hr
 rw [k.2 r k2,k3] at hg
 cases hg
 exact ⟨by omega,fun hx=>by have:=k4 _ hx;omega⟩
theorem Dk.off {p:Nat} (h:Dk S q data sy room) (hn:WQ S q p) (hp:p≠q) (o:qp):Dk (S.set p o) q data sy room:=by
 obtain ⟨a,h1,h2⟩:=h.cell
 obtain ⟨a0,n,c,rest,own,e,g,m⟩:=hn
 rw [h1] at g
 cases g
 refine ⟨by simpa using h.lt,h.len,h.sy0,h.syl,h.rm0,h.rml,a,by rw [zx.jS,if_neg (fun e=>hp e.symm)];exact h1,?_⟩
 rcases h2 with h2 | ⟨r,anc,rest,h3,h4,h5,h6,h7⟩
 ·
  exact .inl h2
 ·
  subst h3
  exact .inr ⟨r,anc,rest,rfl,by rw [zx.jS,if_neg (fun e=>(m r _ _ _ rfl h4).1 e.symm)];exact h4,h5,by simpa using h6,h7⟩
theorem WQ.off {p j:Nat} (h:WQ S q j) (hD:Dk S q data sy room) (hn:WQ S q p) (hp:p≠q) (o:qp):WQ (S.set p o) q j:=by
 obtain ⟨a1,h1,h2⟩:=hD.cell
 obtain ⟨a0,_,_,_,_,_,g0,m0⟩:=hn
 obtain ⟨a,n,c,rest,own,e,g,m⟩:=h
 rw [h1] at g g0
 cases g
 cases g0
 refine ⟨_,_,_,_,_,_,by rw [zx.jS,if_neg (fun e=>hp e.symm)];exact h1,fun r cs anc e hr hg=>?_⟩
 obtain ⟨k1,k2,cs',anc',k3,k4⟩:=h2.at hr
 rw [zx.jS,if_neg (fun e=>(m0 r _ _ _ hr k3).1 e.symm)] at hg
 exact m r cs anc e hr hg
theorem jo.w {k:Nat} {b:List UInt8} (h:Dk S q data sy room) (hk:Okl k b) (kn:k≠2) (hb:b.length≤140737488355328):∃ S1,jm zi O jo.id [.pointer (some ⟨q,0,none⟩),by_ k b] S=some (.int .i64 (if roomOf room data.length < b.length then 41 else 0),S1) ∧
  Dk S1 q (if roomOf room data.length < b.length then data else data++b) sy room∧Old q S S1∧S.next≤S1.next∧∀ j,j < S.next→j≠q→WQ S q j→S1.get j=S.get j∧WQ S1 q j:=by
 obtain ⟨T,hTe⟩:∃ T,T=(.pointer (some ⟨q,0,none⟩)::by_ k b::zh::zh::zh::zh::zh::zh::zh::zh::zh::zh::zh::zh::zh::zh::zh::zh::zh::[]):=⟨_,rfl⟩
 have hr:zI zi O true jo.code T S=zI zi O true jo.code T S:=rfl
 have c1:=jC.v h
 have ln:=fun S=>yX (S:=S) hk
 by_cases h1:roomOf room data.length < b.length
 ·
  conv at hr =>
   rhs
   rw [hTe]
   simp only [jo.code,jo.rs,zSs,reduceIte,zk,zn,zo,zq,if_neg kn,ln,goInt,c1,h1]
  rw [hTe] at hr
  have hrun:=jo.runs hr (.inr rfl)
  rw [if_pos h1,if_pos h1]
  exact ⟨_,hrun,h,Old.refl _ _,Nat.le_refl _,fun _ _ _ hn=>⟨rfl,hn⟩⟩
 ·
  obtain ⟨a,h3,h4⟩:=h.cell
  have l2:=Zw (t:=26) (o:=0+0) h3 qg rfl
  have hle:data.length+b.length≤65536:=by
   have b1:=h.rml;have b2:=h.len
   unfold roomOf at h1
   split at h1 <;> omega
  have src:YU zi 26 1 (by_ k b) S=some (b.length,b.flatMap cb):=aae wF hk.okv (by rw [kX,Nat.mul_one]) (adL b)
  obtain ⟨a',S1,e1,d1,g1,n1,o1,w1,na,nx,nn⟩:=h4.aaB h.lt src hle
  have h5:=g1.trans h3
  have s1:=xg (P:=zi) (t:=26) (o:=0+0) (x:=.slice a' (data++b).length (data++b).length) h5 YN rfl rfl (by simp)
  conv at hr =>
   rhs
   rw [hTe]
   simp only [jo.code,jo.rs,zSs,reduceIte,zk,zn,zo,zq,if_neg kn,ln,goInt,c1,h1,y7,yR,l2,e1,s1]
  rw [hTe] at hr
  have hrun:=jo.runs hr (.inr rfl)
  rw [if_neg h1,if_neg h1]
  refine ⟨_,hrun,⟨n1,by simpa using hle,h.sy0,?_,h.rm0,h.rml,a',by rw [zx.jS,if_pos rfl];rfl,?_⟩,o1.set (Nat.le_refl _) _,by simpa using nx,fun j hj hjq hnj=>?_⟩
  ·
   have:=h.syl;rw [List.length_append];omega
  ·
   rcases d1 with d1 | ⟨r,anc,rest,j1,j2,j3,j4,j5⟩
   ·
    exact .inl d1
   ·
    exact .inr ⟨r,anc,rest,j1,by show ((S1.kills []).set q _).get r=_;rw [zx.jS,if_neg (by omega)];exact j2,j3,by simpa using j4,j5⟩
  ·
   obtain ⟨a0,_,_,_,_,_,g0,m0⟩:=hnj
   rw [h3] at g0
   cases g0
   obtain ⟨k1,k2⟩:=nn j hj m0
   refine ⟨by rw [zx.jS,if_neg hjq];exact k1,a',_,_,_,_,_,by rw [zx.jS,if_pos rfl];rfl,fun r cs anc e hr hg=>?_⟩
   have hrq:r≠q:=by
    rcases d1 with ⟨d1,_⟩ | ⟨r',_,_,j1,_,j3,_,_⟩
    ·
     rw [d1] at hr;cases hr
    ·
     rw [j1] at hr
     simp only [Option.some.injEq,Addr.mk.injEq,and_true] at hr
     omega
   rw [zx.jS,if_neg hrq] at hg
   exact k2 r cs anc e hr hg
end
end Go.Proofs.Ytblpnklfimkfoaa
namespace Go.Proofs.Ytblpnklfimkfoaa
open Go.Abs
def Only (q:Nat) (S S1:zx):Prop:=S1.next=S.next∧(∀ k,k≠q→S1.get k=S.get k)∧∀ a n c rest own e,S1.get q=some (.cells (.slice a n c::rest) own e)→∃ n' c' rest' own' e',S.get q=some (.cells (.slice a n' c'::rest') own' e')
theorem Only.of {q n c e n2 c2 e2:Nat} {a:Option Addr} {rest rest2:List Value} {own own2:Own} {S:zx} (h:S.get q=some (.cells (.slice a n c::rest) own e)):Only q S (S.set q (.cells (.slice a n2 c2::rest2) own2 e2)):=by
 refine ⟨rfl,fun k hk=>by rw [zx.jS,if_neg hk],fun a' n' c' rest' own' e' hg=>?_⟩
 rw [zx.jS,if_pos rfl] at hg
 cases hg
 exact ⟨_,_,_,_,_,h⟩
theorem Only.trans {q:Nat} {S S1 S2:zx} (h:Only q S S1) (k:Only q S1 S2):Only q S S2:=⟨k.1.trans h.1,fun i hi=>(k.2.1 i hi).trans (h.2.1 i hi),fun a n c rest own e hg=>by
 obtain ⟨_,_,_,_,_,h2⟩:=k.2.2 a n c rest own e hg
 exact h.2.2 _ _ _ _ _ _ h2⟩
theorem WQ.only {S S1:zx} {q p:Nat} {data data1:List UInt8} {sy room sy1 room1:Int} (h:WQ S q p) (o:Only q S S1) (hD:Dk S q data sy room) (hD1:Dk S1 q data1 sy1 room1):WQ S1 q p:=by
 obtain ⟨a1,g1,dd1⟩:=hD1.cell
 obtain ⟨_,_,_,_,_,g0⟩:=o.2.2 _ _ _ _ _ _ g1
 obtain ⟨a,n,c,rest,own,e,g,m⟩:=h
 rw [g0] at g
 cases g
 refine ⟨_,_,_,_,_,_,g1,fun r cs anc e hr hg=>?_⟩
 have hrq:=(dd1.at hr).1
 rw [o.2.1 r (by omega)] at hg
 exact m r cs anc e hr hg
section
variable {S:zx} {q:Nat} {data:List UInt8} {sy room:Int}
theorem jR.o (h:Dk S q data sy room):∃ v S1,jm zi O jR.id [.pointer (some ⟨q,0,none⟩)] S=some (v,S1)∧Dk S1 q data data.length room∧Only q S S1:=by
 obtain ⟨T,hTe⟩:∃ T,T=(.pointer (some ⟨q,0,none⟩)::zh::zh::zh::zh::zh::zh::zh::zh::zh::[]):=⟨_,rfl⟩
 have hr:zI zi O false jR.code T S=zI zi O false jR.code T S:=rfl
 obtain ⟨a,h1,h2⟩:=h.cell
 have l2:=Zw (t:=26) (o:=0+0) h1 qg rfl
 have ln:=fun S=>Yu wF a data.length data.length S
 have s1:=xg (P:=zi) (t:=3) (o:=0+1) (x:=.int .i64 data.length) h1 abz rfl rfl (by simp)
 conv at hr =>
  rhs
  rw [hTe]
  simp only [jR.code,jR.rs,zSs,reduceIte,zk,zn,zo,zq,y7,yR,Z7,l2,ln,goInt,s1]
 rw [hTe] at hr
 have hrun:=jR.runs hr (.inl rfl)
 exact ⟨_,_,hrun,h.put h2 h.len (by omega) (by omega) h.rm0 h.rml rfl,Only.of h1⟩
theorem jw.o {keep:Int} (h:Dk S q data sy room) (hk:-9223372036854775808≤keep∧keep < 9223372036854775808):∃ v S1,jm zi O jw.id [.pointer (some ⟨q,0,none⟩),.int .i64 keep] S=some (v,S1) ∧
  Dk S1 q (data.take (sy+max 0 (min keep (data.length - sy))).toNat) (data.take (sy+max 0 (min keep (data.length - sy))).toNat).length room∧Only q S S1:=by
 obtain ⟨T,hTe⟩:∃ T,T=(.pointer (some ⟨q,0,none⟩)::.int .i64 keep::zh::zh::zh::zh::zh::zh::zh::zh::zh::zh::zh::zh::zh::zh::zh::zh::zh::zh::zh::zh::zh::zh::zh::zh::zh::zh::zh::zh::zh::zh::[]):=⟨_,rfl⟩
 have hr:zI zi O false jw.code T S=zI zi O false jw.code T S:=rfl
 obtain ⟨a,h1,h2⟩:=h.cell
 have b1:=h.sy0;have b2:=h.syl;have b3:=h.len
 have l1:=qU (t:=3) (o:=0+1) h1 JW rfl
 have l2:=Zw (t:=26) (o:=0+0) h1 qg rfl
 have ln:=fun S=>Yu wF a data.length data.length S
 have w1:IntKind.i64.wrap (data.length - sy)=data.length - sy:=wrap_i64 (by omega) (by omega)
 have e1:(if (data.length:Int) - sy < keep then (data.length:Int) - sy else keep)=min keep (data.length - sy):=by split <;> omega
 have e2:(if min keep (data.length - sy) > 0 then min keep (data.length - sy) else 0)=max 0 (min keep (data.length - sy)):=by split <;> omega
 have w2:IntKind.i64.wrap (sy+max 0 (min keep (data.length - sy)))=sy+max 0 (min keep (data.length - sy)):=wrap_i64 (by omega) (by omega)
 obtain ⟨a',s1,d1,ea⟩:=h2.slice (dr:=false) (hi:=sy+max 0 (min keep (data.length - sy))) (by omega) (by omega) rfl
 generalize hm:sy+max 0 (min keep (data.length - sy))=m at *
 have s2:=xg (P:=zi) (t:=26) (o:=0+0) (x:=.slice a' (data.take m.toNat).length (data.take m.toNat).length) h1 YN rfl rfl (by simp)
 have hle:(data.take m.toNat).length≤65536:=by rw [List.length_take];omega
 have d2:=h.put d1 (sy':=0) (room':=room) hle (by omega) (by omega) h.rm0 h.rml rfl
 have hsl:sy≤((data.take m.toNat).length:Int):=by rw [List.length_take];omega
 have d3:=h.put d1 (sy':=sy) (room':=room) hle h.sy0 hsl h.rm0 h.rml rfl
 obtain ⟨v,S1,e3,d4,o4⟩:=jR.o d3
 have e3:jm zi O 19 [Value.pointer (some ⟨q,0,none⟩)] ((S.kills []).set q (.cells (splice [.slice a data.length data.length,.int .i64 sy,.int .i64 room] (0+0) (Value.slice a' (data.take m.toNat).length (data.take m.toNat).length).cells.toList) (.own []) 0))=some (v,S1):=e3
 conv at hr =>
  rhs
  rw [hTe]
  simp only [jw.code,jw.rs,zSs,reduceIte,zk,zn,zo,zq,y7,yR,Z7,l1,l2,ln,goInt,w1,ahZ,ahT,e1,e2,w2,hm,s1,s2,e3]
 rw [hTe] at hr
 have hrun:=jw.runs hr (.inl rfl)
 exact ⟨_,_,hrun,d4,by subst ea;exact (Only.of (S:=S) (n2:=(data.take m.toNat).length) (c2:=(data.take m.toNat).length) h1).trans o4⟩
end
end Go.Proofs.Ytblpnklfimkfoaa
namespace Go.Proofs.Ytblpnklfimkfoaa
open Go.Abs
abbrev zO.id:FuncId:=16
noncomputable def zO.code:Code:=(.seq (.region 0 (reg Try.f16 0) false) (.seq (.region 1 (reg Try.f16 1) false) (.seq (.seq (.region 2 (reg Try.f16 2) false) (.cond (.tmp 8) (.region 3 (reg Try.f16 3) false) Code.skip)) (.seq (.seq (.region 4 (reg Try.f16 4) false) (.cond (.tmp 11) (.region 5 (reg Try.f16 5) false) Code.skip)) (.seq (.region 6 (reg Try.f16 6) false) Code.ret)))))
theorem zO.body:Try.f16.body=some zO.code:=by kernel_rfl
variable (i b k l m n o p q r c d f g:Value) (S:zx)
theorem zO.r0 :jF zi ⟨false,false,false⟩ (jm zi O) (reg Try.f16 0) (reg Try.f16 0).toList ([i,b,k,l,m,n,o,p,q,r,c,d,f,g]) S =
  (zU (JV (dem i) S) (fun t j=>zU (yS zi 40 j) (fun s u=>some ([i,b,t,l,s,n,o,p,q,r,c,d,f,g],u)) ()) ()):=by
 kernel_rfl
theorem zO.r1 :jF zi ⟨false,false,false⟩ (jm zi O) (reg Try.f16 1) (reg Try.f16 1).toList ([i,b,k,l,m,n,o,p,q,r,c,d,f,g]) S =
  (zU (zS zi 40 k 2 S) (fun s j=>zU (wz zi 3 s (dem (dem b)) j) (fun v u=>some ([i,b,k,l,m,dem b,s,p,q,r,c,d,f,g],u)) ()) ()):=by
 kernel_rfl
theorem zO.r2 :jF zi ⟨false,false,false⟩ (jm zi O) (reg Try.f16 2) (reg Try.f16 2).toList ([i,b,k,l,m,n,o,p,q,r,c,d,f,g]) S =
  (zU (wu zi BinOp.lss 3 (dem b) (.int .i64 0) S) (fun s j=>some ([i,b,k,l,m,n,o,dem b,s,r,c,d,f,g],j)) ()):=by
 kernel_rfl
theorem zO.r3 :jF zi ⟨false,false,false⟩ (jm zi O) (reg Try.f16 3) (reg Try.f16 3).toList ([i,b,k,l,m,n,o,p,q,r,c,d,f,g]) S =
  (zU (zS zi 40 k 2 S) (fun t j=>zU (wz zi 3 t (.int .i64 0) j) (fun s u=>some ([i,b,k,l,m,n,o,p,q,t,c,d,f,g],u)) ()) ()):=by
 kernel_rfl
theorem zO.r4 :jF zi ⟨false,false,false⟩ (jm zi O) (reg Try.f16 4) (reg Try.f16 4).toList ([i,b,k,l,m,n,o,p,q,r,c,d,f,g]) S =
  (zU (wu zi BinOp.gtr 3 (dem b) (.int .i64 65536) S) (fun s j=>some ([i,b,k,l,m,n,o,p,q,r,dem b,s,f,g],j)) ()):=by
 kernel_rfl
theorem zO.r5 :jF zi ⟨false,false,false⟩ (jm zi O) (reg Try.f16 5) (reg Try.f16 5).toList ([i,b,k,l,m,n,o,p,q,r,c,d,f,g]) S =
  (zU (zS zi 40 k 2 S) (fun t j=>zU (wz zi 3 t (.int .i64 65536) j) (fun s u=>some ([i,b,k,l,m,n,o,p,q,r,c,d,t,g],u)) ()) ()):=by
 kernel_rfl
theorem zO.r6 :jF zi ⟨false,false,false⟩ (jm zi O) (reg Try.f16 6) (reg Try.f16 6).toList ([i,b,k,l,m,n,o,p,q,r,c,d,f,g]) S =
  (zU (jE zi false 40 k S) (fun t j=>zU (wz zi 40 m (dem t) j) (fun s u=>some ([i,b,k,l,m,n,o,p,q,r,c,d,f,t],u)) ()) ()):=by
 kernel_rfl
theorem zO.rs:type_of% (aij @zO.r0 (aij @zO.r1 (aij @zO.r2 (aij @zO.r3 (aij @zO.r4 (aij @zO.r5 (@zO.r6))))))):=aij @zO.r0 (aij @zO.r1 (aij @zO.r2 (aij @zO.r3 (aij @zO.r4 (aij @zO.r5 (@zO.r6))))))
theorem zO.runs {i b:Value} {S j:zx} {e:AEx} {T:List Value} (h:zI zi O false zO.code ([i,b,zh,zh,zh,zh,zh,zh,zh,zh,zh,zh,zh,zh]) zx.empty=some (e,T,j)) (he:e=.normal∨e=.ret) {w0:Value} (c0:jE zi false 40 (T.getD 4 zh) j=some (w0,j)) (hca:[i,b].all (jD 16)=true) (hcv:jD 16 (w0)=true):jm zi O 16 [i,b] S=some (w0,S) :=
 yL rfl rfl Try.func16 (by decide) zO.body (by exact h) he (yD (a:=w0) ((show zX zi T j Try.f16.results.toList=zX zi T j [(ResultVar.cell 4 40)] from by kernel_rfl).trans (by simp only [zX,c0])) (by kernel_rfl)) hca hcv
end Go.Proofs.Ytblpnklfimkfoaa
namespace Go.Proofs.Ytblpnklfimkfoaa
open Go.Abs
abbrev zQ.id:FuncId:=24
noncomputable def zQ.code:Code:=(.seq (.region 0 (reg Try.f24 0) false) (.seq (.seq (.region 1 (reg Try.f24 1) false) (.cond (.tmp 11) (.seq (.region 2 (reg Try.f24 2) false) Code.ret) Code.skip)) (.seq (.region 3 (reg Try.f24 3) false) (.seq (.region 4 (reg Try.f24 4) false) (.seq (.region 5 (reg Try.f24 5) false) Code.ret)))))
theorem zQ.body:Try.f24.body=some zQ.code:=by kernel_rfl
variable (b a r u s A t v w x c d f g i j k l m n o p:Value) (S:zx)
theorem zQ.r0 :jF zi ⟨false,false,false⟩ (jm zi O) (reg Try.f24 0) (reg Try.f24 0).toList ([b,a,r,u,s,A,t,v,w,x,c,d,f,g,i,j,k,l,m,n,o,p]) S =
  (zU (JV (dem b) S) (fun z q=>zU (yS zi 40 q) (fun B y=>some ([b,a,z,u,B,.int .i64 0,t,v,w,x,c,d,f,g,i,j,k,l,m,n,o,p],y)) ()) ()):=by
 kernel_rfl
theorem zQ.r1 :jF zi ⟨false,false,false⟩ (jm zi O) (reg Try.f24 1) (reg Try.f24 1).toList ([b,a,r,u,s,A,t,v,w,x,c,d,f,g,i,j,k,l,m,n,o,p]) S =
  (zU (ku zi 26 (dem a) S) (fun B q=>zU (jE zi false 40 r q) (fun C y=>zU ((jm zi O) 41 [(dem C)] y) (fun D E=>zU (wu zi BinOp.gtr 3 B D E) (fun G F=>some ([b,a,r,u,s,A,t,dem a,B,C,D,G,f,g,i,j,k,l,m,n,o,p],F)) ()) ()) ()) ()):=by
 kernel_rfl
theorem zQ.r2 :jF zi ⟨false,false,false⟩ (jm zi O) (reg Try.f24 2) (reg Try.f24 2).toList ([b,a,r,u,s,A,t,v,w,x,c,d,f,g,i,j,k,l,m,n,o,p]) S =
  (zU (jE zi false 40 r S) (fun z q=>zU (wz zi 40 s (dem z) q) (fun B y=>some ([b,a,r,u,s,.int .i64 41,t,v,w,x,c,d,z,g,i,j,k,l,m,n,o,p],y)) ()) ()):=by
 kernel_rfl
theorem zQ.r3 :jF zi ⟨false,false,false⟩ (jm zi O) (reg Try.f24 3) (reg Try.f24 3).toList ([b,a,r,u,s,A,t,v,w,x,c,d,f,g,i,j,k,l,m,n,o,p]) S =
  (zU (jH zi 26 0 [] S) (fun z q=>zU (zS zi 40 r 0 q) (fun B y=>zU (jE zi false 26 B y) (fun C E=>zU (jV zi 26 26 z C E) (fun D F=>some ([b,a,r,u,s,A,D,v,w,x,c,d,f,dem z,B,C,dem D,l,m,n,o,p],F)) ()) ()) ()) ()):=by
 kernel_rfl
theorem zQ.r4 :jF zi ⟨false,false,false⟩ (jm zi O) (reg Try.f24 4) (reg Try.f24 4).toList ([b,a,r,u,s,A,t,v,w,x,c,d,f,g,i,j,k,l,m,n,o,p]) S =
  (zU (jV zi 26 26 t (dem a) S) (fun C q=>zU (zS zi 40 r 0 q) (fun D y=>zU (wz zi 26 D (dem C) y) (fun G E=>some ([b,a,r,u,s,A,dem t,v,w,x,c,d,f,g,i,j,k,dem t,dem a,C,D,p],E)) ()) ()) ()):=by
 kernel_rfl
theorem zQ.r5 :jF zi ⟨false,false,false⟩ (jm zi O) (reg Try.f24 5) (reg Try.f24 5).toList ([b,a,r,u,s,A,t,v,w,x,c,d,f,g,i,j,k,l,m,n,o,p]) S =
  (zU (jE zi false 40 r S) (fun z q=>zU (wz zi 40 s (dem z) q) (fun B y=>some ([b,a,r,u,s,.int .i64 0,t,v,w,x,c,d,f,g,i,j,k,l,m,n,o,z],y)) ()) ()):=by
 kernel_rfl
theorem zQ.rs:type_of% (aij @zQ.r0 (aij @zQ.r1 (aij @zQ.r2 (aij @zQ.r3 (aij @zQ.r4 (@zQ.r5)))))):=aij @zQ.r0 (aij @zQ.r1 (aij @zQ.r2 (aij @zQ.r3 (aij @zQ.r4 (@zQ.r5)))))
theorem zQ.runs {b a:Value} {S q:zx} {e:AEx} {T:List Value} (h:zI zi O false zQ.code ([b,a,zh,zh,zh,zh,zh,zh,zh,zh,zh,zh,zh,zh,zh,zh,zh,zh,zh,zh,zh,zh]) zx.empty=some (e,T,q)) (he:e=.normal∨e=.ret) {w0:Value} (c0:jE zi false 40 (T.getD 4 zh) q=some (w0,q)) (h0:jK (w0)=true) (h1:jK (T.getD 5 zh)=true) (hca:[b,a].all (jD 16)=true) (hcv:jD 16 (Value.tuple #[w0,T.getD 5 zh])=true):jm zi O 24 [b,a] S=some (Value.tuple #[w0,T.getD 5 zh],S) :=
 yL rfl rfl Try.func24 (by decide) zQ.body (by exact h) he ((wR ((show zX zi T q Try.f24.results.toList=zX zi T q [(ResultVar.cell 4 40),(ResultVar.tmp 5)] from by kernel_rfl).trans (by simp only [zX,c0])) (by kernel_rfl) (by simp only [List.all_cons,List.all_nil,h0,h1,Bool.and_true])).trans rfl) hca hcv
end Go.Proofs.Ytblpnklfimkfoaa
namespace Go.Proofs.Ytblpnklfimkfoaa
open Go.Abs
abbrev jr.id:FuncId:=20
noncomputable def jr.code:Code:=(.seq (.region 0 (reg Try.f20 0) false) (.seq (.region 1 (reg Try.f20 1) false) (.seq (.region 2 (reg Try.f20 2) false) Code.ret)))
theorem jr.body:Try.f20.body=some jr.code:=by kernel_rfl
variable (b d g i j k l m:Value) (S:zx)
theorem jr.r0 :jF zi ⟨false,false,false⟩ (jm zi O) (reg Try.f20 0) (reg Try.f20 0).toList ([b,d,g,i,j,k,l,m]) S =
  (zU (JV (dem b) S) (fun f c=>zU (yS zi 40 c) (fun n o=>some ([b,f,n,i,j,k,l,m],o)) ()) ()):=by
 kernel_rfl
theorem jr.r1 :jF zi ⟨false,false,false⟩ (jm zi O) (reg Try.f20 1) (reg Try.f20 1).toList ([b,d,g,i,j,k,l,m]) S =
  (zU (zS zi 40 d 0 S) (fun f c=>zU (jE zi false 26 f c) (fun n o=>zU (ku zi 26 n o) (fun p r=>zU (zS zi 40 d 1 r) (fun q s=>zU (wz zi 3 q (dem p) s) (fun u t=>some ([b,d,g,f,n,p,q,m],t)) ()) ()) ()) ()) ()):=by
 kernel_rfl
theorem jr.r2 :jF zi ⟨false,false,false⟩ (jm zi O) (reg Try.f20 2) (reg Try.f20 2).toList ([b,d,g,i,j,k,l,m]) S =
  (zU (jE zi false 40 d S) (fun f c=>zU (wz zi 40 g (dem f) c) (fun n o=>some ([b,d,g,i,j,k,l,f],o)) ()) ()):=by
 kernel_rfl
theorem jr.rs:type_of% (aij @jr.r0 (aij @jr.r1 (@jr.r2))):=aij @jr.r0 (aij @jr.r1 (@jr.r2))
theorem jr.runs {b:Value} {S c:zx} {e:AEx} {T:List Value} (h:zI zi O false jr.code ([b,zh,zh,zh,zh,zh,zh,zh]) zx.empty=some (e,T,c)) (he:e=.normal∨e=.ret) {w0:Value} (c0:jE zi false 40 (T.getD 2 zh) c=some (w0,c)) (hca:[b].all (jD 16)=true) (hcv:jD 16 (w0)=true):jm zi O 20 [b] S=some (w0,S) :=
 yL rfl rfl Try.func20 (by decide) jr.body (by exact h) he (yD (a:=w0) ((show zX zi T c Try.f20.results.toList=zX zi T c [(ResultVar.cell 2 40)] from by kernel_rfl).trans (by simp only [zX,c0])) (by kernel_rfl)) hca hcv
end Go.Proofs.Ytblpnklfimkfoaa
namespace Go.Proofs.Ytblpnklfimkfoaa
open Go.Abs
abbrev zG.id:FuncId:=22
noncomputable def zG.jG:Code:=(.seq (.seq (.region 3 (reg Try.f22 3) false) (.cond (.tmp 28) Code.skip (.exit 0))) (.seq (.block 1 (.region 5 (reg Try.f22 5) false)) (.region 4 (reg Try.f22 4) false)))
noncomputable def zG.code:Code:=(.seq (.region 0 (reg Try.f22 0) false) (.seq (.region 1 (reg Try.f22 1) false) (.seq (.seq (.region 2 (reg Try.f22 2) false) (.block 0 (.loop zG.jG))) (.seq (.region 6 (reg Try.f22 6) false) Code.ret))))
theorem zG.body:Try.f22.body=some zG.code:=by kernel_rfl
theorem zG.eta {T:List Value} (h:T.length=44):T=[T.getD 0 zh,T.getD 1 zh,T.getD 2 zh,T.getD 3 zh,T.getD 4 zh,T.getD 5 zh,T.getD 6 zh,T.getD 7 zh,T.getD 8 zh,T.getD 9 zh,T.getD 10 zh,T.getD 11 zh,T.getD 12 zh,T.getD 13 zh,T.getD 14 zh,T.getD 15 zh,T.getD 16 zh,T.getD 17 zh,T.getD 18 zh,T.getD 19 zh,T.getD 20 zh,T.getD 21 zh,T.getD 22 zh,T.getD 23 zh,T.getD 24 zh,T.getD 25 zh,T.getD 26 zh,T.getD 27 zh,T.getD 28 zh,T.getD 29 zh,T.getD 30 zh,T.getD 31 zh,T.getD 32 zh,T.getD 33 zh,T.getD 34 zh,T.getD 35 zh,T.getD 36 zh,T.getD 37 zh,T.getD 38 zh,T.getD 39 zh,T.getD 40 zh,T.getD 41 zh,T.getD 42 zh,T.getD 43 zh]:=(yJ T 44 h).trans (by kernel_rfl)
variable (V W b Y Z X c x7 x8 x9 d f g i k l m n o p q r s t u w x y z A B C D E F G H I J K L M N P:Value) (S:zx)
theorem zG.r0 :jF zi ⟨false,false,false⟩ (jm zi O) (reg Try.f22 0) (reg Try.f22 0).toList ([V,W,b,Y,Z,X,c,x7,x8,x9,d,f,g,i,k,l,m,n,o,p,q,r,s,t,u,w,x,y,z,A,B,C,D,E,F,G,H,I,J,K,L,M,N,P]) S =
  (zU (JV (dem V) S) (fun v0 Q=>zU (yS zi 40 Q) (fun R S2=>some ([V,W,v0,Y,R,X,c,x7,x8,x9,d,f,g,i,k,l,m,n,o,p,q,r,s,t,u,w,x,y,z,A,B,C,D,E,F,G,H,I,J,K,L,M,N,P],S2)) ()) ()):=by
 kernel_rfl
theorem zG.r1 :jF zi ⟨false,false,false⟩ (jm zi O) (reg Try.f22 1) (reg Try.f22 1).toList ([V,W,b,Y,Z,X,c,x7,x8,x9,d,f,g,i,k,l,m,n,o,p,q,r,s,t,u,w,x,y,z,A,B,C,D,E,F,G,H,I,J,K,L,M,N,P]) S =
  (zU (jH zi 26 0 [] S) (fun v0 Q=>zU (zS zi 40 b 0 Q) (fun R S2=>zU (jE zi false 26 R S2) (fun v2 S3=>zU (zS zi 40 b 1 S3) (fun v3 S4=>zU (jE zi false 3 v3 S4) (fun U S5=>zU (yc zi false 26 v2 none (some U) S5) (fun v5 S6=>zU (jV zi 26 26 v0 v5 S6) (fun v6 S7=>some ([V,W,b,Y,Z,v6,c,dem v0,R,v2,v3,U,v5,dem v6,k,l,m,n,o,p,q,r,s,t,u,w,x,y,z,A,B,C,D,E,F,G,H,I,J,K,L,M,N,P],S7)) ()) ()) ()) ()) ()) ()) ()):=by
 kernel_rfl
theorem zG.r2 :jF zi ⟨false,false,false⟩ (jm zi O) (reg Try.f22 2) (reg Try.f22 2).toList ([V,W,b,Y,Z,X,c,x7,x8,x9,d,f,g,i,k,l,m,n,o,p,q,r,s,t,u,w,x,y,z,A,B,C,D,E,F,G,H,I,J,K,L,M,N,P]) S =
  (zU (zS zi 40 b 1 S) (fun v0 Q=>zU (jE zi false 3 v0 Q) (fun R S2=>some ([V,W,b,Y,Z,X,R,x7,x8,x9,d,f,g,i,v0,dem R,m,n,o,p,q,r,s,t,u,w,x,y,z,A,B,C,D,E,F,G,H,I,J,K,L,M,N,P],S2)) ()) ()):=by
 kernel_rfl
theorem zG.r3 :jF zi ⟨false,false,false⟩ (jm zi O) (reg Try.f22 3) (reg Try.f22 3).toList ([V,W,b,Y,Z,X,c,x7,x8,x9,d,f,g,i,k,l,m,n,o,p,q,r,s,t,u,w,x,y,z,A,B,C,D,E,F,G,H,I,J,K,L,M,N,P]) S =
  (zU (zS zi 40 b 0 S) (fun R Q=>zU (jE zi false 26 R Q) (fun v2 S2=>zU (ku zi 26 v2 S2) (fun v3 S3=>zU (wu zi BinOp.lss 3 (dem c) v3 S3) (fun U S4=>gdK (dem U) true (ret c) S4 (fun v6 S5=>gdK (dem U) true (zS zi 40 b 1) S5 (fun v7 S6=>gdK (dem U) true (jE zi false 3 v7) S6 (fun v8 S7=>gdK (dem U) true (wu zi BinOp.sub 3 (dem v6) v8) S7 (fun v9 S8=>gdK (dem U) true (ret W) S8 (fun a0 S9=>gdK (dem U) true (wu zi BinOp.lss 3 v9 (dem a0)) S9 (fun a1 a2=>zU (ql (dem U) a1 (Value.bool false) a2) (fun a3 a4=>some ([V,W,b,Y,Z,X,c,x7,x8,x9,d,f,g,i,k,l,dem c,R,v2,v3,U,dem U,dem v6,v7,v8,v9,dem a0,a1,a3,A,B,C,D,E,F,G,H,I,J,K,L,M,N,P],a4)) ()) ()) ()) ()) ()) ()) ()) ()) ()) ()) ()):=by
 refine sP Try.f22 3 0 (v:=c) ?_
 refine sD Try.f22 3 1 (fun R Q=>?_)
 refine sD Try.f22 3 2 (fun v2 S2=>?_)
 refine sD Try.f22 3 3 (fun v3 S3=>?_)
 refine sD Try.f22 3 4 (fun U S4=>?_)
 refine sP Try.f22 3 5 (v:=U) ?_
 refine sG Try.f22 3 6 (j:=5) (fun v6 S5=>?_)
 refine sG Try.f22 3 7 (j:=5) (fun v7 S6=>?_)
 refine sG Try.f22 3 8 (j:=5) (fun v8 S7=>?_)
 refine sG Try.f22 3 9 (j:=5) (fun v9 S8=>?_)
 refine sG Try.f22 3 10 (j:=5) (fun a0 S9=>?_)
 refine sG Try.f22 3 11 (j:=5) (fun a1 a2=>?_)
 refine sD Try.f22 3 12 (fun a3 a4=>?_)
 kernel_rfl
theorem zG.r5 :jF zi ⟨false,false,false⟩ (jm zi O) (reg Try.f22 5) (reg Try.f22 5).toList ([V,W,b,Y,Z,X,c,x7,x8,x9,d,f,g,i,k,l,m,n,o,p,q,r,s,t,u,w,x,y,z,A,B,C,D,E,F,G,H,I,J,K,L,M,N,P]) S =
  (zU (zS zi 40 b 0 S) (fun R Q=>zU (jE zi false 26 R Q) (fun v2 S2=>zU (jI zi 26 v2 (dem c) S2) (fun U S3=>zU (jE zi false 5 U S3) (fun v5 S4=>zU (jH zi 26 1 [(0,v5)] S4) (fun v6 S5=>zU (jV zi 26 26 X v6 S5) (fun v7 S6=>some ([V,W,b,Y,Z,v7,c,x7,x8,x9,d,f,g,i,k,l,m,n,o,p,q,r,s,t,u,w,x,y,z,A,B,dem X,R,v2,dem c,U,v5,v6,dem v7,K,L,M,N,P],S6)) ()) ()) ()) ()) ()) ()):=by
 kernel_rfl
theorem zG.r4 :jF zi ⟨false,false,false⟩ (jm zi O) (reg Try.f22 4) (reg Try.f22 4).toList ([V,W,b,Y,Z,X,c,x7,x8,x9,d,f,g,i,k,l,m,n,o,p,q,r,s,t,u,w,x,y,z,A,B,C,D,E,F,G,H,I,J,K,L,M,N,P]) S =
  (zU (wu zi BinOp.add 3 (dem c) (.int .i64 1) S) (fun R Q=>some ([V,W,b,Y,Z,X,R,x7,x8,x9,d,f,g,i,k,l,m,n,o,p,q,r,s,t,u,w,x,y,z,dem c,dem R,C,D,E,F,G,H,I,J,K,L,M,N,P],Q)) ()):=by
 kernel_rfl
theorem zG.r6 :jF zi ⟨false,false,false⟩ (jm zi O) (reg Try.f22 6) (reg Try.f22 6).toList ([V,W,b,Y,Z,X,c,x7,x8,x9,d,f,g,i,k,l,m,n,o,p,q,r,s,t,u,w,x,y,z,A,B,C,D,E,F,G,H,I,J,K,L,M,N,P]) S =
  (zU (zS zi 40 b 2 S) (fun R Q=>zU (jE zi false 3 R Q) (fun v2 S2=>zU (yu zi 40 [(0,(dem (dem X))),(2,(dem v2))] S2) (fun v3 S3=>zU ((jm zi O) 20 [(dem v3)] S3) (fun U S4=>zU (wz zi 40 Z (dem U) S4) (fun v5 S5=>some ([V,W,b,Y,Z,X,c,x7,x8,x9,d,f,g,i,k,l,m,n,o,p,q,r,s,t,u,w,x,y,z,A,B,C,D,E,F,G,H,I,J,dem X,R,v2,v3,U],S5)) ()) ()) ()) ()) ()):=by
 kernel_rfl
theorem zG.rs:type_of% (aij @zG.r0 (aij @zG.r1 (aij @zG.r2 (aij @zG.r3 (aij @zG.r5 (aij @zG.r4 (@zG.r6))))))):=aij @zG.r0 (aij @zG.r1 (aij @zG.r2 (aij @zG.r3 (aij @zG.r5 (aij @zG.r4 (@zG.r6))))))
theorem zG.runs {V W:Value} {S Q:zx} {e:AEx} {T:List Value} (h:zI zi O false zG.code ([V,W,zh,zh,zh,zh,zh,zh,zh,zh,zh,zh,zh,zh,zh,zh,zh,zh,zh,zh,zh,zh,zh,zh,zh,zh,zh,zh,zh,zh,zh,zh,zh,zh,zh,zh,zh,zh,zh,zh,zh,zh,zh,zh]) zx.empty=some (e,T,Q)) (he:e=.normal∨e=.ret) {w0:Value} (c0:jE zi false 40 (T.getD 4 zh) Q=some (w0,Q)) (hca:[V,W].all (jD 16)=true) (hcv:jD 16 (w0)=true):jm zi O 22 [V,W] S=some (w0,S) :=
 yL rfl rfl Try.func22 (by decide) zG.body (by exact h) he (yD (a:=w0) ((show zX zi T Q Try.f22.results.toList=zX zi T Q [(ResultVar.cell 4 40)] from by kernel_rfl).trans (by simp only [zX,c0])) (by kernel_rfl)) hca hcv
end Go.Proofs.Ytblpnklfimkfoaa
namespace Go.Proofs.Ytblpnklfimkfoaa
open Go.Abs
abbrev jl.id:FuncId:=41
noncomputable def jl.code:Code:=(.seq (.region 0 (reg Try.f41 0) false) (.seq (.seq (.region 1 (reg Try.f41 1) false) (.cond (.tmp 8) (.seq (.region 2 (reg Try.f41 2) false) Code.ret) Code.skip)) (.seq (.region 3 (reg Try.f41 3) false) Code.ret)))
theorem jl.body:Try.f41.body=some jl.code:=by kernel_rfl
variable (b c t l m n o p q r d f g i j:Value) (S:zx)
theorem jl.r0 :jF zi ⟨false,false,false⟩ (jm zi O) (reg Try.f41 0) (reg Try.f41 0).toList ([b,c,t,l,m,n,o,p,q,r,d,f,g,i,j]) S =
  (zU (JV (dem b) S) (fun s k=>some ([b,s,.int .i64 0,l,m,n,o,p,q,r,d,f,g,i,j],k)) ()):=by
 kernel_rfl
theorem jl.r1 :jF zi ⟨false,false,false⟩ (jm zi O) (reg Try.f41 1) (reg Try.f41 1).toList ([b,c,t,l,m,n,o,p,q,r,d,f,g,i,j]) S =
  (zU (zS zi 40 c 0 S) (fun s k=>zU (jE zi false 26 s k) (fun u z=>zU (ku zi 26 u z) (fun v A=>zU (zS zi 40 c 2 A) (fun w B=>zU (jE zi false 3 w B) (fun x C=>zU (wu zi BinOp.gtr 3 v x C) (fun y D=>some ([b,c,t,s,u,v,w,x,y,r,d,f,g,i,j],D)) ()) ()) ()) ()) ()) ()):=by
 kernel_rfl
theorem jl.r2 :jF zi ⟨false,false,false⟩ (jm zi O) (reg Try.f41 2) (reg Try.f41 2).toList ([b,c,t,l,m,n,o,p,q,r,d,f,g,i,j]) S =
  ( some ([b,c,.int .i64 0,l,m,n,o,p,q,r,d,f,g,i,j],S)):=by
 kernel_rfl
theorem jl.r3 :jF zi ⟨false,false,false⟩ (jm zi O) (reg Try.f41 3) (reg Try.f41 3).toList ([b,c,t,l,m,n,o,p,q,r,d,f,g,i,j]) S =
  (zU (zS zi 40 c 2 S) (fun s k=>zU (jE zi false 3 s k) (fun u z=>zU (zS zi 40 c 0 z) (fun v A=>zU (jE zi false 26 v A) (fun w B=>zU (ku zi 26 w B) (fun x C=>zU (wu zi BinOp.sub 3 u x C) (fun y D=>some ([b,c,y,l,m,n,o,p,q,s,u,v,w,x,dem y],D)) ()) ()) ()) ()) ()) ()):=by
 kernel_rfl
theorem jl.rs:type_of% (aij @jl.r0 (aij @jl.r1 (aij @jl.r2 (@jl.r3)))):=aij @jl.r0 (aij @jl.r1 (aij @jl.r2 (@jl.r3)))
theorem jl.runs {b:Value} {S k:zx} {e:AEx} {T:List Value} (h:zI zi O false jl.code ([b,zh,zh,zh,zh,zh,zh,zh,zh,zh,zh,zh,zh,zh,zh]) zx.empty=some (e,T,k)) (he:e=.normal∨e=.ret) (hca:[b].all (jD 16)=true) (hcv:jD 16 (T.getD 2 zh)=true):jm zi O 41 [b] S=some (T.getD 2 zh,S) :=
 yL rfl rfl Try.func41 (by decide) jl.body (by exact h) he (yD (a:=T.getD 2 zh) ((show zX zi T k Try.f41.results.toList=zX zi T k [(ResultVar.tmp 2)] from by kernel_rfl).trans (by simp only [zX])) (by kernel_rfl)) hca hcv
end Go.Proofs.Ytblpnklfimkfoaa
namespace Go.Proofs.Ytblpnklfimkfoaa
open Go.Abs
structure DV where
 k:Nat
 data:List UInt8
 sy:Int
 room:Int
structure DV.Ok (d:DV):Prop where
 okl:Okl d.k d.data
 ne:d.k≠2
 len:d.data.length≤65536
 sy0:0≤d.sy
 syl:d.sy≤d.data.length
 rm0:0≤d.room
 rml:d.room≤65536
def fDV (d:DV):List Value:=[by_ d.k d.data,.int .i64 d.sy,.int .i64 d.room]
abbrev dvv (d:DV):Value:=.agg [by_ d.k d.data,Value.int .i64 d.sy,.int .i64 d.room].toArray
abbrev dv0:DV:=⟨0,[],0,0⟩
theorem aho:dv0.Ok:=⟨Okl.none,by decide,by decide,by decide,by decide,by decide,by decide⟩
theorem xK {d:DV} {n:Nat} (h:d.k≤2):jD (n+6) (dvv d)=true:=by
 show [by_ d.k d.data,Value.int .i64 d.sy,.int .i64 d.room].all (jD (n+5))=true
 have h2:jD (n+5) (by_ d.k d.data)=true:=vH (d:=n) h
 simp only [List.all_cons,List.all_nil,h2,Bool.true_and];rfl
theorem abV (d:DV):(fDV d).all (·.oneCell')=true:=by
 simp only [fDV,List.all_cons,List.all_nil,aaI,Bool.true_and];rfl
structure Two (H:zx) (d u:DV):Prop where
 g0:H.get 0=some (.cells (fDV d) (.own []) 0)
 g1:H.get 1=some (.cells (fDV u) (.own []) 0)
 ext:Ext zx.empty H
theorem QS (d:DV):∃ H1 H2,JV (dvv d) zx.empty=some (.pointer (some ⟨0,0,none⟩),H1)∧yS zi 40 H1=some (.pointer (some ⟨1,0,none⟩),H2)∧Two H2 d dv0:=by
 refine ⟨_,_,rfl,by kernel_rfl,⟨?_,?_,((Ext.push _ (.cells (fDV d) (.own []) 0)).trans (Ext.push _ (.cells (fDV dv0) (.own []) 0)))⟩⟩
 ·
  kernel_rfl
 ·
  kernel_rfl
section
variable {H:zx} {d u:DV}
theorem Two.l0 (h:Two H d u) (hk:d.k≠2):jE zi false 26 (.pointer (some ⟨0,0+0,none⟩)) H=some (by_ d.k d.data,H):=by
 rw [ZR (o:=0+0) (v:=by_ d.k d.data) h.g0 qg rfl (fun l h=>by have h:sv _ 1 _ _=Value.agg l:=h;unfold sv at h;split at h <;> cases h),Qm,if_neg hk]
theorem Two.l1 (h:Two H d u):jE zi false 3 (.pointer (some ⟨0,0+1,none⟩)) H=some (.int .i64 d.sy,H):=qU (o:=0+1) h.g0 JW rfl
theorem Two.l2 (h:Two H d u):jE zi false 3 (.pointer (some ⟨0,0+2,none⟩)) H=some (.int .i64 d.room,H):=qU (o:=0+2) h.g0 JW rfl
theorem vU {q:Nat} {own:Own} {e:Nat} (h:H.get q=some (.cells (fDV d) own e)) (hk:d.k≠2):jE zi false 40 (.pointer (some ⟨q,0,none⟩)) H=some (dvv d,H):=by
 rw [Zr h,WS,WS,Vz,if_neg hk]
theorem Two.s0 (h:Two H d u) (j:Nat) (x:List UInt8):∃ H1,wz zi 26 (.pointer (some ⟨0,0+0,none⟩)) (by_ j x) H=some (zh,H1)∧Two H1 { d with k:=j,data:=x } u:=by
 obtain ⟨H1,a1,a2,a3,a4,a5⟩:=JG (P:=zi) (t:=26) (x:=by_ j x) (o:=0+0) (n:=1) h.g0 YN (by rw [ZY];rfl) (by rw [ZY];simp [aaI]) (by simp [fDV]) h.ext (Nat.le_refl _)
 refine ⟨H1,a1,⟨?_,(a5 1 (by decide)).trans h.g1,a3⟩⟩
 rw [a2,ZY];rfl
theorem Two.s1 (h:Two H d u) (n:Int):∃ H1,wz zi 3 (.pointer (some ⟨0,0+1,none⟩)) (.int .i64 n) H=some (zh,H1)∧Two H1 { d with sy:=n } u:=by
 obtain ⟨H1,a1,a2,a3,a4,a5⟩:=JG (P:=zi) (t:=3) (x:=.int .i64 n) (o:=0+1) (n:=1) h.g0 abz rfl rfl (by simp [fDV]) h.ext (Nat.le_refl _)
 exact ⟨H1,a1,⟨a2,(a5 1 (by decide)).trans h.g1,a3⟩⟩
theorem Two.s2 (h:Two H d u) (n:Int):∃ H1,wz zi 3 (.pointer (some ⟨0,0+2,none⟩)) (.int .i64 n) H=some (zh,H1)∧Two H1 { d with room:=n } u:=by
 obtain ⟨H1,a1,a2,a3,a4,a5⟩:=JG (P:=zi) (t:=3) (x:=.int .i64 n) (o:=0+2) (n:=1) h.g0 abz rfl rfl (by simp [fDV]) h.ext (Nat.le_refl _)
 exact ⟨H1,a1,⟨a2,(a5 1 (by decide)).trans h.g1,a3⟩⟩
theorem Two.out (h:Two H d u) (w:DV):∃ H1,wz zi 40 (.pointer (some ⟨1,0,none⟩)) (dvv w) H=some (zh,H1)∧Two H1 d w:=by
 obtain ⟨H1,a1,a2,a3,a4,a5⟩:=JG (P:=zi) (t:=40) (x:=dvv w) (o:=0) (n:=3) h.g1 yT (by rw [yH];rfl) (by rw [yH,List.toList_toArray];exact abV w) (by simp [fDV]) h.ext (Nat.zero_le _)
 refine ⟨H1,a1,⟨(a5 0 (by decide)).trans h.g0,?_,a3⟩⟩
 rw [a2,yH,List.toList_toArray,ZT (by rfl)];rfl
end
theorem Zz {d:DV} (h:d.k≤2) {l:List Value} (hl:l.all (jD 16)=true):(dvv d::l).all (jD 16)=true:=by
 rw [List.all_cons,xK (n:=10) h,hl];rfl
theorem jl.v {d:DV} (hd:d.Ok) (S:zx):jm zi O jl.id [dvv d] S=some (.int .i64 (roomOf d.room d.data.length),S):=by
 obtain ⟨H1,b1,b2,b3,b4⟩:=abP (dvv d) zx.empty
 have b2:H1.get 0=some (.cells (fDV d) (.own []) 0):=b2
 have b1:JV (dvv d) zx.empty=some (.pointer (some ⟨0,0,none⟩),H1):=b1
 have l0:jE zi false 26 (.pointer (some ⟨0,0+0,none⟩)) H1=some (by_ d.k d.data,H1):=by
  rw [ZR (o:=0+0) (v:=by_ d.k d.data) b2 qg rfl (fun l h=>by have h:sv _ 1 _ _=Value.agg l:=h;unfold sv at h;split at h <;> cases h),Qm,if_neg hd.ne]
 have l2:jE zi false 3 (.pointer (some ⟨0,0+2,none⟩)) H1=some (.int .i64 d.room,H1):=qU (o:=0+2) b2 JW rfl
 have ln:=fun S=>yX (S:=S) hd.okl
 obtain ⟨T,hTe⟩:∃ T,T=(dvv d::zh::zh::zh::zh::zh::zh::zh::zh::zh::zh::zh::zh::zh::zh::[]):=⟨_,rfl⟩
 have hr:zI zi O false jl.code T zx.empty=zI zi O false jl.code T zx.empty:=rfl
 have k2:=hd.okl.le
 have c1:=hd.len;have c2:=hd.rm0;have c3:=hd.rml
 by_cases h:(d.data.length:Int) > d.room
 ·
  have e:roomOf d.room d.data.length=0:=by unfold roomOf;rw [if_neg (by omega)]
  rw [e]
  conv at hr =>
   rhs
   rw [hTe]
   simp only [jl.code,jl.rs,zSs,reduceIte,zk,zn,zo,zq,b1,jW,wH,l0,l2,ln,goInt,h]
  rw [hTe] at hr
  exact jl.runs hr (.inr rfl) (Zz k2 rfl) rfl
 ·
  have e:roomOf d.room d.data.length=d.room - d.data.length:=by unfold roomOf;split <;> omega
  have w:IntKind.i64.wrap (d.room - d.data.length)=d.room - d.data.length:=wrap_i64 (by omega) (by omega)
  rw [e]
  conv at hr =>
   rhs
   rw [hTe]
   simp only [jl.code,jl.rs,zSs,reduceIte,zk,zn,zo,zq,b1,jW,wH,l0,l2,ln,goInt,h,w]
  rw [hTe] at hr
  exact jl.runs hr (.inr rfl) (Zz k2 rfl) rfl
theorem zO.v {d:DV} (hd:d.Ok) (n:Int) (S:zx):jm zi O zO.id [dvv d,.int .i64 n] S=some (dvv { d with room:=max 0 (min n 65536) },S):=by
 obtain ⟨H1,H2,b1,b2,t2⟩:=QS d
 obtain ⟨H3,b3,t3⟩:=t2.s2 n
 obtain ⟨T,hTe⟩:∃ T,T=(dvv d::.int .i64 n::zh::zh::zh::zh::zh::zh::zh::zh::zh::zh::zh::zh::[]):=⟨_,rfl⟩
 have hr:zI zi O false zO.code T zx.empty=zI zi O false zO.code T zx.empty:=rfl
 have k2:=hd.okl.le
 by_cases h0:n < 0
 ·
  have e:max 0 (min n 65536)=0:=by omega
  have h6:¬ n > 65536:=by omega
  rw [e]
  obtain ⟨H4,b4,t4⟩:=t3.s2 0
  have l4:=vU t4.g0 hd.ne
  obtain ⟨H5,b5,t5⟩:=t4.out { d with room:=0 }
  conv at hr =>
   rhs
   rw [hTe]
   simp only [zO.code,zO.rs,zSs,reduceIte,zk,zn,zo,zq,b1,b2,wH,b3,h0,h6,b4,l4,b5,if_neg hd.ne]
  rw [hTe] at hr
  exact zO.runs hr (.inr rfl) (vU t5.g1 hd.ne) (Zz k2 rfl) (xK (n:=10) k2)
 by_cases h6:n > 65536
 ·
  have e:max 0 (min n 65536)=65536:=by omega
  rw [e]
  obtain ⟨H4,b4,t4⟩:=t3.s2 65536
  have l4:=vU t4.g0 hd.ne
  obtain ⟨H5,b5,t5⟩:=t4.out { d with room:=65536 }
  conv at hr =>
   rhs
   rw [hTe]
   simp only [zO.code,zO.rs,zSs,reduceIte,zk,zn,zo,zq,b1,b2,wH,b3,h0,h6,b4,l4,b5,if_neg hd.ne]
  rw [hTe] at hr
  exact zO.runs hr (.inr rfl) (vU t5.g1 hd.ne) (Zz k2 rfl) (xK (n:=10) k2)
 ·
  have e:max 0 (min n 65536)=n:=by omega
  rw [e]
  have l4:=vU t3.g0 hd.ne
  obtain ⟨H5,b5,t5⟩:=t3.out { d with room:=n }
  conv at hr =>
   rhs
   rw [hTe]
   simp only [zO.code,zO.rs,zSs,reduceIte,zk,zn,zo,zq,b1,b2,wH,b3,h0,h6,l4,b5,if_neg hd.ne]
  rw [hTe] at hr
  exact zO.runs hr (.inr rfl) (vU t5.g1 hd.ne) (Zz k2 rfl) (xK (n:=10) k2)
theorem jr.v {d:DV} (hd:d.Ok) (S:zx):jm zi O jr.id [dvv d] S=some (dvv { d with sy:=d.data.length },S):=by
 obtain ⟨H1,H2,b1,b2,t2⟩:=QS d
 obtain ⟨H3,b3,t3⟩:=t2.s1 d.data.length
 have l0:=t2.l0 hd.ne
 have ln:=fun S=>yX (S:=S) hd.okl
 have l4:=vU t3.g0 hd.ne
 obtain ⟨H5,b5,t5⟩:=t3.out { d with sy:=d.data.length }
 obtain ⟨T,hTe⟩:∃ T,T=(dvv d::zh::zh::zh::zh::zh::zh::zh::[]):=⟨_,rfl⟩
 have hr:zI zi O false jr.code T zx.empty=zI zi O false jr.code T zx.empty:=rfl
 have k2:=hd.okl.le
 conv at hr =>
  rhs
  rw [hTe]
  simp only [jr.code,jr.rs,zSs,reduceIte,zk,zn,zo,zq,b1,b2,jW,yA,l0,ln,goInt,b3,l4,b5,if_neg hd.ne]
 rw [hTe] at hr
 exact jr.runs hr (.inr rfl) (vU t5.g1 hd.ne) (Zz k2 rfl) (xK (n:=10) k2)
theorem zQ.v {d:DV} (hd:d.Ok) {k:Nat} {b:List UInt8} (hk:Okl k b) (k2:k≠2) (hb:b.length≤140737488351232) (S:zx):∃ j,(Okl j (if roomOf d.room d.data.length < b.length then d.data else d.data++b)∧j≠2)∧jm zi O zQ.id [dvv d,by_ k b] S=some (.tuple #[dvv ⟨j,if roomOf d.room d.data.length < b.length then d.data else d.data++b,d.sy,d.room⟩,.int .i64 (if roomOf d.room d.data.length < b.length then 41 else 0)],S):=by
 obtain ⟨H1,H2,b1,b2,t2⟩:=QS d
 have ld:=vU t2.g0 hd.ne
 have l0:=t2.l0 hd.ne
 have c1:=fun S=>jl.v hd S
 have ln:=fun S=>yX (S:=S) hk
 obtain ⟨T,hTe⟩:∃ T,T=(dvv d::by_ k b::zh::zh::zh::zh::zh::zh::zh::zh::zh::zh::zh::zh::zh::zh::zh::zh::zh::zh::zh::zh::[]):=⟨_,rfl⟩
 have hr:zI zi O false zQ.code T zx.empty=zI zi O false zQ.code T zx.empty:=rfl
 have q2:=hd.okl.le
 have ck:[by_ k b].all (jD 16)=true:=all1 (vH (k:=k) hk.le)
 by_cases h:roomOf d.room d.data.length < (b.length:Int)
 ·
  rw [if_pos h,if_pos h]
  have h':(b.length:Int) > roomOf d.room d.data.length:=h
  obtain ⟨H5,b5,t5⟩:=t2.out d
  refine ⟨d.k,⟨hd.okl,hd.ne⟩,?_⟩
  conv at hr =>
   rhs
   rw [hTe]
   simp only [zQ.code,zQ.rs,zSs,reduceIte,zk,zn,zo,zq,b1,b2,ld,if_neg hd.ne,if_neg k2,ln,goInt,c1,h',b5]
  rw [hTe] at hr
  exact zQ.runs hr (.inr rfl) (vU t5.g1 hd.ne) rfl rfl (Zz q2 ck) (by
   show [dvv d,Value.int .i64 41].all (jD 15)=true
   rw [List.all_cons,xK (n:=9) q2];rfl)
 ·
  rw [if_neg h,if_neg h]
  have h':¬ (b.length:Int) > roomOf d.room d.data.length:=h
  have hle:d.data.length+b.length≤65536:=by
   have c2:=hd.rml;have c3:=hd.len
   unfold roomOf at h
   split at h <;> omega
  have a1:∀ S,jV zi 26 26 (by_ 2 []) (by_ d.k d.data) S=some (by_ 2 d.data,S):=fun S=>QV hd.okl (by omega)
  have a2:∀ S,jV zi 26 26 (by_ 2 d.data) (by_ k b) S=some (by_ 2 (d.data++b),S):=fun S=>by
   rw [y9 Okl.own (by decide) hk (by omega),if_neg (fun h=>by omega)]
  obtain ⟨H3,b3,t3⟩:=t2.s0 1 (d.data++b)
  have l4:=vU t3.g0 (by show (1:Nat)≠2;decide)
  obtain ⟨H5,b5,t5⟩:=t3.out { d with k:=1,data:=d.data++b }
  refine ⟨1,⟨Okl.read,by decide⟩,?_⟩
  conv at hr =>
   rhs
   rw [hTe]
   simp only [zQ.code,zQ.rs,zSs,reduceIte,zk,zn,zo,zq,b1,b2,ld,if_neg hd.ne,if_neg k2,ln,goInt,c1,h',bb0,jW,l0,a1,a2,aeN,b3,l4,b5]
  rw [hTe] at hr
  exact zQ.runs hr (.inr rfl) (vU t5.g1 (by show (1:Nat)≠2;decide)) rfl rfl (Zz q2 ck) (by
   show [dvv { d with k:=1,data:=d.data++b },Value.int .i64 0].all (jD 15)=true
   rw [List.all_cons,xK (n:=9) (by show (1:Nat)≤2;decide)];rfl)
end Go.Proofs.Ytblpnklfimkfoaa
namespace Go.Proofs.Ytblpnklfimkfoaa
open Go.Abs
theorem agD {q o e:Nat} {cs:List Value} {own:Own} {k:Nat} {l:List UInt8} {S:zx} (h:S.get q=some (.cells cs own e)) (hv:cs[o]?=some (by_ k l)) (hk:k≠2):jE zi false 26 (.pointer (some ⟨q,o,none⟩)) S=some (by_ k l,S):=by
 rw [ZR h qg hv (fun l h=>by unfold by_ vs sv at h;split at h <;> cases h),Qm,if_neg hk]
theorem aei (S:zx):yS zi 40 S=some (.pointer (some ⟨S.next,0,none⟩),S.push (.cells (fDV dv0) (.own []) 0)):=by kernel_rfl
theorem abX (w:DV) (S:zx):∃ S2,wz zi 40 (.pointer (some ⟨S.next,0,none⟩)) (dvv w) (S.push (.cells (fDV dv0) (.own []) 0))=some (zh,S2)∧S2.get S.next=some (.cells (fDV w) (.own []) 0)∧Ext S S2∧S.next < S2.next :=
 Yg S (by rw [yH,List.toList_toArray];rfl) yT rfl (abV w)
theorem aai {S:zx} {p:Nat} {u:DV} (h:S.get p=some (.cells (fDV u) (.own []) 0)) (w:DV):wz zi 40 (.pointer (some ⟨p,0,none⟩)) (dvv w) S=some (zh,S.set p (.cells (fDV w) (.own []) 0)):=by
 rw [xg (x:=dvv w) (n:=3) h yT (by rw [yH];rfl) (by rw [yH,List.toList_toArray];exact abV w) (by simp [fDV]),yH,List.toList_toArray];rfl
theorem jL.w {S:zx} {q:Nat} {data:List UInt8} {sy room:Int} (h:Dk S q data sy room) {r:yZ} (ro:r.Ok):∃ S1,jm zi O jL.id [.pointer (some ⟨q,0,none⟩),rv r] S=some (.int .i64 (aaO room data r),S1)∧Dk S1 q (if aaO room data r=0 then data++yC r else data) sy room∧S.next≤S1.next∧∀ j,j < S.next→j≠q→WQ S q j→S1.get j=S.get j∧WQ S1 q j:=by
 obtain ⟨T,hTe⟩:∃ T,T=(.pointer (some ⟨q,0,none⟩)::rv r::zh::zh::zh::zh::zh::zh::zh::zh::zh::zh::zh::zh::zh::zh::zh::zh::[]):=⟨_,rfl⟩
 have hr:zI zi O false jL.code T S=zI zi O false jL.code T S:=rfl
 obtain ⟨S2,b1,b2,b3,b4⟩:=ac4 r S
 have h2:=h.ext b3
 have c1:=fun S=>ji.v ro S
 unfold VN at c1
 unfold aaO
 cases hR:wM r
 ·
  rw [hR] at c1
  conv at hr =>
   rhs
   rw [hTe]
   simp only [jL.code,jL.rs,zSs,reduceIte,zk,zn,zo,zq,b1,WU b2 ro.ne,c1]
  rw [hTe] at hr
  refine ⟨_,jL.runs hr (.inr rfl),?_,b3.next,fun j hj hq hn=>⟨b3.2 j hj,hn.ext h b3⟩⟩
  exact h2
 ·
  rw [hR] at c1
  obtain ⟨S3,c2,h3,_,nx,w3⟩:=jo.w (k:=1) (b:=yC r) h2 Okl.read (by decide) (by have:=aak hR;omega)
  conv at hr =>
   rhs
   rw [hTe]
   simp only [jL.code,jL.rs,zSs,reduceIte,zk,zn,zo,zq,b1,WU b2 ro.ne,c1,c2]
  rw [hTe] at hr
  refine ⟨_,jL.runs hr (.inr rfl),?_,Nat.le_trans b3.next nx,fun j hj hq hn=>?_⟩
  ·
   by_cases hq:roomOf room data.length < (yC r).length
   ·
    simp only [if_pos hq] at h3 ⊢
    exact h3
   ·
    simp only [if_neg hq] at h3 ⊢
    exact h3
  ·
   obtain ⟨k1,k2⟩:=w3 j (Nat.lt_of_lt_of_le hj b3.next) hq (hn.ext h b3)
   exact ⟨k1.trans (b3.2 j hj),k2⟩
theorem jk.v {d:DV} (hd:d.Ok) {r:yZ} (ro:r.Ok) (S:zx):∃ j,(Okl j (if aaO d.room d.data r=0 then d.data++yC r else d.data)∧j≠2)∧jm zi O jk.id [dvv d,rv r] S=some (.tuple #[dvv ⟨j,if aaO d.room d.data r=0 then d.data++yC r else d.data,d.sy,d.room⟩,.int .i64 (aaO d.room d.data r)],S):=by
 obtain ⟨H1,b1,b2,b3,b4⟩:=abP (dvv d) zx.empty
 have b2:H1.get zx.empty.next=some (.cells (fDV d) (.own []) 0):=b2
 obtain ⟨H2,d1,d2,d3,d4⟩:=ac4 r H1
 have x3:Ext H2 (H2.push (.cells (fDV dv0) (.own []) 0)):=Ext.push _ _
 have g0:(H2.push (.cells (fDV dv0) (.own []) 0)).get zx.empty.next=some (.cells (fDV d) (.own []) 0):=(x3.get _ (Nat.lt_of_lt_of_le b4 d3.next)).trans ((d3.get _ b4).trans b2)
 have g1:(H2.push (.cells (fDV dv0) (.own []) 0)).get H1.next=some (.cells (fR r) (.own []) 0):=(x3.get _ d4).trans d2
 have ld:=vU g0 hd.ne
 have lr:=WU g1 ro.ne
 have c1:=fun S=>zN.v ro S
 unfold VN at c1
 obtain ⟨T,hTe⟩:∃ T,T=(dvv d::rv r::zh::zh::zh::zh::zh::zh::zh::zh::zh::zh::zh::zh::zh::zh::zh::zh::zh::zh::zh::zh::[]):=⟨_,rfl⟩
 have hr:zI zi O false jk.code T zx.empty=zI zi O false jk.code T zx.empty:=rfl
 have q2:=hd.okl.le
 have ck:[rv r].all (jD 16)=true:=by rw [List.all_cons,vF (d:=10) ro.okl.le];rfl
 have cl2:∀ (j:Nat) (D:List UInt8) (e:Int),j≤2→jD 16 (.tuple #[dvv ⟨j,D,d.sy,d.room⟩,.int .i64 e])=true:=fun j D e hj=>by
  show [dvv ⟨j,D,d.sy,d.room⟩,Value.int .i64 e].all (jD 15)=true
  rw [List.all_cons,xK (n:=9) hj];rfl
 cases hR:wM r
 ·
  rw [hR] at c1
  have ea:aaO d.room d.data r=51:=by unfold aaO;rw [hR];rfl
  rw [ea]
  obtain ⟨H4,p1,p2,p3,p4⟩:=abX d H2
  refine ⟨d.k,⟨hd.okl,hd.ne⟩,?_⟩
  conv at hr =>
   rhs
   rw [hTe]
   simp only [jk.code,jk.rs,zSs,reduceIte,zk,zn,zo,zq,b1,d1,aei,lr,c1,ld,if_neg hd.ne,p1]
  rw [hTe] at hr
  exact jk.runs hr (.inr rfl) (vU p2 hd.ne) rfl rfl (Zz q2 ck) (cl2 d.k d.data 51 q2)
 ·
  rw [hR] at c1
  have hlr:=aak hR
  obtain ⟨j,⟨j1,j2⟩,_⟩:=zQ.v hd (k:=1) (b:=yC r) Okl.read (by decide) (by omega) zx.empty
  have c2:=zQ.v hd (k:=1) (b:=yC r) Okl.read (by decide) (by omega) (H2.push (.cells (fDV dv0) (.own []) 0))
  obtain ⟨j,⟨j1,j2⟩,c2⟩:=c2
  have ea:aaO d.room d.data r=if roomOf d.room d.data.length < (yC r).length then 41 else 0:=by unfold aaO;rw [hR];rfl
  have ed:(if aaO d.room d.data r=0 then d.data++yC r else d.data)=if roomOf d.room d.data.length < (yC r).length then d.data else d.data++yC r:=by
   rw [ea];split <;> rfl
  rw [ed]
  rw [ea]
  generalize (if roomOf d.room d.data.length < ((yC r).length:Int) then d.data else d.data++yC r)=D at j1 c2 ⊢
  generalize (if roomOf d.room d.data.length < ((yC r).length:Int) then (41:Int) else 0)=e at c2 ⊢
  obtain ⟨H4,p1,p2,p3,p4⟩:=abX ⟨j,D,d.sy,d.room⟩ H2
  refine ⟨j,⟨j1,j2⟩,?_⟩
  conv at hr =>
   rhs
   rw [hTe]
   simp only [jk.code,jk.rs,zSs,reduceIte,zk,zn,zo,zq,b1,d1,aei,lr,c1,ld,if_neg hd.ne,c2,p1,if_neg j2]
  rw [hTe] at hr
  exact jk.runs hr (.inr rfl) (vU p2 j2) rfl rfl (Zz q2 ck) (cl2 j D e j1.le)
end Go.Proofs.Ytblpnklfimkfoaa
namespace Go.Proofs.Ytblpnklfimkfoaa
open Go.Abs
theorem vC.v:∃ S1,jm zi O 10 [] zx.empty=some (.bool true,S1):=by
 have h:(xM zi O 40 10 [] zx.empty).map (·.1)=some (.bool true):=by kernel_rfl
 cases hc:xM zi O 40 10 [] zx.empty with
 | none=>rw [hc] at h;cases h
 | some r =>
  obtain ⟨v,S1⟩:=r
  rw [hc] at h
  cases h
  exact ⟨S1,aer hc⟩
end Go.Proofs.Ytblpnklfimkfoaa
namespace Go.Proofs.Ytblpnklfimkfoaa
open Go.Abs
abbrev zA.id:FuncId:=37
noncomputable def zA.code:Code:=(.seq (.region 0 (reg Try.f37 0) false) (.seq (.region 1 (reg Try.f37 1) false) (.seq (.seq (.region 2 (reg Try.f37 2) false) (.cond (.tmp 24) (.seq (.region 3 (reg Try.f37 3) false) Code.ret) Code.skip)) (.seq (.region 4 (reg Try.f37 4) false) (.seq (.seq (.region 5 (reg Try.f37 5) false) (.cond (.tmp 33) (.seq (.region 6 (reg Try.f37 6) false) Code.ret) Code.skip)) (.seq (.region 7 (reg Try.f37 7) false) (.seq (.seq (.region 8 (reg Try.f37 8) false) (.cond (.tmp 42) (.seq (.region 9 (reg Try.f37 9) false) Code.ret) Code.skip)) (.seq (.region 10 (reg Try.f37 10) true) (.seq (.region 11 (reg Try.f37 11) false) (.seq (.seq (.region 12 (reg Try.f37 12) true) (.cond (.tmp 81) (.seq (.region 13 (reg Try.f37 13) false) Code.ret) Code.skip)) (.seq (.region 14 (reg Try.f37 14) false) Code.ret)))))))))))
theorem zA.body:Try.f37.body=some zA.code:=by kernel_rfl
variable (x0 x1 x2 x3 x4 x5 x6 x7 k x9 f b l g i a d m n o p q r s t u w x y z A B C D E F G H I J K L M N P Q R U V W X Y Z a0 a1 a2 a3 a4 a5 a6 a7 a8 a9 b0 b1 b2 b3 b4 b5 b6 b7 b8 b9 c1 c2 c3 c4 c5 c6 c7 c8 c9 d0 d1 d2 d3:Value) (S:zx)
theorem zA.r0 :jF zi ⟨false,false,false⟩ (jm zi O) (reg Try.f37 0) (reg Try.f37 0).toList ([x0,x1,x2,x3,x4,x5,x6,x7,k,x9,f,b,l,g,i,a,d,m,n,o,p,q,r,s,t,u,w,x,y,z,A,B,C,D,E,F,G,H,I,J,K,L,M,N,P,Q,R,U,V,W,X,Y,Z,a0,a1,a2,a3,a4,a5,a6,a7,a8,a9,b0,b1,b2,b3,b4,b5,b6,b7,b8,b9,c1,c2,c3,c4,c5,c6,c7,c8,c9,d0,d1,d2,d3]) S =
  (zU (yS zi 28 S) (fun v0 S1=>some ([x0,x1,v0,.int .i64 0,Value.bool false,x5,x6,x7,k,x9,f,b,l,g,i,a,d,m,n,o,p,q,r,s,t,u,w,x,y,z,A,B,C,D,E,F,G,H,I,J,K,L,M,N,P,Q,R,U,V,W,X,Y,Z,a0,a1,a2,a3,a4,a5,a6,a7,a8,a9,b0,b1,b2,b3,b4,b5,b6,b7,b8,b9,c1,c2,c3,c4,c5,c6,c7,c8,c9,d0,d1,d2,d3],S1)) ()):=by
 kernel_rfl
theorem zA.r1 :jF zi ⟨false,false,false⟩ (jm zi O) (reg Try.f37 1) (reg Try.f37 1).toList ([x0,x1,x2,x3,x4,x5,x6,x7,k,x9,f,b,l,g,i,a,d,m,n,o,p,q,r,s,t,u,w,x,y,z,A,B,C,D,E,F,G,H,I,J,K,L,M,N,P,Q,R,U,V,W,X,Y,Z,a0,a1,a2,a3,a4,a5,a6,a7,a8,a9,b0,b1,b2,b3,b4,b5,b6,b7,b8,b9,c1,c2,c3,c4,c5,c6,c7,c8,c9,d0,d1,d2,d3]) S =
  (zU ((jm zi O) 47 [(dem (dem x0))] S) (fun c S1=>zU (zW c 0 S1) (fun v3 S2=>zU (zW (jd 0 c) 1 S2) (fun v4 S3=>zU (zW (jd 1 (jd 0 c)) 2 S3) (fun v5 S4=>some ([x0,x1,x2,x3,x4,v3,v4,v5,k,x9,f,b,l,g,i,a,d,jd 2 (jd 1 (jd 0 c)),dem x0,dem c,dem v3,dem v4,dem v5,s,t,u,w,x,y,z,A,B,C,D,E,F,G,H,I,J,K,L,M,N,P,Q,R,U,V,W,X,Y,Z,a0,a1,a2,a3,a4,a5,a6,a7,a8,a9,b0,b1,b2,b3,b4,b5,b6,b7,b8,b9,c1,c2,c3,c4,c5,c6,c7,c8,c9,d0,d1,d2,d3],S4)) ()) ()) ()) ()):=by
 kernel_rfl
theorem zA.r2 :jF zi ⟨false,false,false⟩ (jm zi O) (reg Try.f37 2) (reg Try.f37 2).toList ([x0,x1,x2,x3,x4,x5,x6,x7,k,x9,f,b,l,g,i,a,d,m,n,o,p,q,r,s,t,u,w,x,y,z,A,B,C,D,E,F,G,H,I,J,K,L,M,N,P,Q,R,U,V,W,X,Y,Z,a0,a1,a2,a3,a4,a5,a6,a7,a8,a9,b0,b1,b2,b3,b4,b5,b6,b7,b8,b9,c1,c2,c3,c4,c5,c6,c7,c8,c9,d0,d1,d2,d3]) S =
  (zU (wu zi BinOp.neq 3 (dem x7) (.int .i64 0) S) (fun c S1=>some ([x0,x1,x2,x3,x4,x5,x6,x7,k,x9,f,b,l,g,i,a,d,m,n,o,p,q,r,dem x7,c,u,w,x,y,z,A,B,C,D,E,F,G,H,I,J,K,L,M,N,P,Q,R,U,V,W,X,Y,Z,a0,a1,a2,a3,a4,a5,a6,a7,a8,a9,b0,b1,b2,b3,b4,b5,b6,b7,b8,b9,c1,c2,c3,c4,c5,c6,c7,c8,c9,d0,d1,d2,d3],S1)) ()):=by
 kernel_rfl
theorem zA.r3 :jF zi ⟨false,false,false⟩ (jm zi O) (reg Try.f37 3) (reg Try.f37 3).toList ([x0,x1,x2,x3,x4,x5,x6,x7,k,x9,f,b,l,g,i,a,d,m,n,o,p,q,r,s,t,u,w,x,y,z,A,B,C,D,E,F,G,H,I,J,K,L,M,N,P,Q,R,U,V,W,X,Y,Z,a0,a1,a2,a3,a4,a5,a6,a7,a8,a9,b0,b1,b2,b3,b4,b5,b6,b7,b8,b9,c1,c2,c3,c4,c5,c6,c7,c8,c9,d0,d1,d2,d3]) S =
  (zU (yu zi 28 [] S) (fun v0 S1=>zU (wz zi 28 x2 (dem v0) S1) (fun c S2=>some ([x0,x1,x2,.int .i64 0,Value.bool false,x5,x6,x7,k,x9,f,b,l,g,i,a,d,m,n,o,p,q,r,s,t,v0,w,x,y,z,A,B,C,D,E,F,G,H,I,J,K,L,M,N,P,Q,R,U,V,W,X,Y,Z,a0,a1,a2,a3,a4,a5,a6,a7,a8,a9,b0,b1,b2,b3,b4,b5,b6,b7,b8,b9,c1,c2,c3,c4,c5,c6,c7,c8,c9,d0,d1,d2,d3],S2)) ()) ()):=by
 kernel_rfl
theorem zA.r4 :jF zi ⟨false,false,false⟩ (jm zi O) (reg Try.f37 4) (reg Try.f37 4).toList ([x0,x1,x2,x3,x4,x5,x6,x7,k,x9,f,b,l,g,i,a,d,m,n,o,p,q,r,s,t,u,w,x,y,z,A,B,C,D,E,F,G,H,I,J,K,L,M,N,P,Q,R,U,V,W,X,Y,Z,a0,a1,a2,a3,a4,a5,a6,a7,a8,a9,b0,b1,b2,b3,b4,b5,b6,b7,b8,b9,c1,c2,c3,c4,c5,c6,c7,c8,c9,d0,d1,d2,d3]) S =
  (zU ((jm zi O) 48 [(dem (dem x5)),(.int .i64 4)] S) (fun c S1=>zU (zW c 0 S1) (fun v3 S2=>zU (zW (jd 0 c) 1 S2) (fun v4 S3=>zU (zW (jd 1 (jd 0 c)) 2 S3) (fun v5 S4=>some ([x0,x1,x2,x3,x4,x5,x6,x7,v3,v4,v5,b,l,g,i,a,d,m,n,o,p,q,r,s,t,u,jd 2 (jd 1 (jd 0 c)),dem x5,dem c,dem v3,dem v4,dem v5,C,D,E,F,G,H,I,J,K,L,M,N,P,Q,R,U,V,W,X,Y,Z,a0,a1,a2,a3,a4,a5,a6,a7,a8,a9,b0,b1,b2,b3,b4,b5,b6,b7,b8,b9,c1,c2,c3,c4,c5,c6,c7,c8,c9,d0,d1,d2,d3],S4)) ()) ()) ()) ()):=by
 kernel_rfl
theorem zA.r5 :jF zi ⟨false,false,false⟩ (jm zi O) (reg Try.f37 5) (reg Try.f37 5).toList ([x0,x1,x2,x3,x4,x5,x6,x7,k,x9,f,b,l,g,i,a,d,m,n,o,p,q,r,s,t,u,w,x,y,z,A,B,C,D,E,F,G,H,I,J,K,L,M,N,P,Q,R,U,V,W,X,Y,Z,a0,a1,a2,a3,a4,a5,a6,a7,a8,a9,b0,b1,b2,b3,b4,b5,b6,b7,b8,b9,c1,c2,c3,c4,c5,c6,c7,c8,c9,d0,d1,d2,d3]) S =
  (zU (wu zi BinOp.neq 3 (dem f) (.int .i64 0) S) (fun c S1=>some ([x0,x1,x2,x3,x4,x5,x6,x7,k,x9,f,b,l,g,i,a,d,m,n,o,p,q,r,s,t,u,w,x,y,z,A,B,dem f,c,E,F,G,H,I,J,K,L,M,N,P,Q,R,U,V,W,X,Y,Z,a0,a1,a2,a3,a4,a5,a6,a7,a8,a9,b0,b1,b2,b3,b4,b5,b6,b7,b8,b9,c1,c2,c3,c4,c5,c6,c7,c8,c9,d0,d1,d2,d3],S1)) ()):=by
 kernel_rfl
theorem zA.r6 :jF zi ⟨false,false,false⟩ (jm zi O) (reg Try.f37 6) (reg Try.f37 6).toList ([x0,x1,x2,x3,x4,x5,x6,x7,k,x9,f,b,l,g,i,a,d,m,n,o,p,q,r,s,t,u,w,x,y,z,A,B,C,D,E,F,G,H,I,J,K,L,M,N,P,Q,R,U,V,W,X,Y,Z,a0,a1,a2,a3,a4,a5,a6,a7,a8,a9,b0,b1,b2,b3,b4,b5,b6,b7,b8,b9,c1,c2,c3,c4,c5,c6,c7,c8,c9,d0,d1,d2,d3]) S =
  (zU (yu zi 28 [] S) (fun v0 S1=>zU (wz zi 28 x2 (dem v0) S1) (fun c S2=>some ([x0,x1,x2,.int .i64 0,Value.bool false,x5,x6,x7,k,x9,f,b,l,g,i,a,d,m,n,o,p,q,r,s,t,u,w,x,y,z,A,B,C,D,v0,F,G,H,I,J,K,L,M,N,P,Q,R,U,V,W,X,Y,Z,a0,a1,a2,a3,a4,a5,a6,a7,a8,a9,b0,b1,b2,b3,b4,b5,b6,b7,b8,b9,c1,c2,c3,c4,c5,c6,c7,c8,c9,d0,d1,d2,d3],S2)) ()) ()):=by
 kernel_rfl
theorem zA.r7 :jF zi ⟨false,false,false⟩ (jm zi O) (reg Try.f37 7) (reg Try.f37 7).toList ([x0,x1,x2,x3,x4,x5,x6,x7,k,x9,f,b,l,g,i,a,d,m,n,o,p,q,r,s,t,u,w,x,y,z,A,B,C,D,E,F,G,H,I,J,K,L,M,N,P,Q,R,U,V,W,X,Y,Z,a0,a1,a2,a3,a4,a5,a6,a7,a8,a9,b0,b1,b2,b3,b4,b5,b6,b7,b8,b9,c1,c2,c3,c4,c5,c6,c7,c8,c9,d0,d1,d2,d3]) S =
  (zU ((jm zi O) 47 [(dem (dem x9))] S) (fun c S1=>zU (zW c 0 S1) (fun v3 S2=>zU (zW (jd 0 c) 1 S2) (fun v4 S3=>zU (zW (jd 1 (jd 0 c)) 2 S3) (fun v5 S4=>some ([x0,x1,x2,x3,x4,x5,x6,x7,k,x9,f,v3,v4,v5,i,a,d,m,n,o,p,q,r,s,t,u,w,x,y,z,A,B,C,D,E,jd 2 (jd 1 (jd 0 c)),dem x9,dem c,dem v3,dem v4,dem v5,L,M,N,P,Q,R,U,V,W,X,Y,Z,a0,a1,a2,a3,a4,a5,a6,a7,a8,a9,b0,b1,b2,b3,b4,b5,b6,b7,b8,b9,c1,c2,c3,c4,c5,c6,c7,c8,c9,d0,d1,d2,d3],S4)) ()) ()) ()) ()):=by
 kernel_rfl
theorem zA.r8 :jF zi ⟨false,false,false⟩ (jm zi O) (reg Try.f37 8) (reg Try.f37 8).toList ([x0,x1,x2,x3,x4,x5,x6,x7,k,x9,f,b,l,g,i,a,d,m,n,o,p,q,r,s,t,u,w,x,y,z,A,B,C,D,E,F,G,H,I,J,K,L,M,N,P,Q,R,U,V,W,X,Y,Z,a0,a1,a2,a3,a4,a5,a6,a7,a8,a9,b0,b1,b2,b3,b4,b5,b6,b7,b8,b9,c1,c2,c3,c4,c5,c6,c7,c8,c9,d0,d1,d2,d3]) S =
  (zU (wu zi BinOp.neq 3 (dem g) (.int .i64 0) S) (fun c S1=>some ([x0,x1,x2,x3,x4,x5,x6,x7,k,x9,f,b,l,g,i,a,d,m,n,o,p,q,r,s,t,u,w,x,y,z,A,B,C,D,E,F,G,H,I,J,K,dem g,c,N,P,Q,R,U,V,W,X,Y,Z,a0,a1,a2,a3,a4,a5,a6,a7,a8,a9,b0,b1,b2,b3,b4,b5,b6,b7,b8,b9,c1,c2,c3,c4,c5,c6,c7,c8,c9,d0,d1,d2,d3],S1)) ()):=by
 kernel_rfl
theorem zA.r9 :jF zi ⟨false,false,false⟩ (jm zi O) (reg Try.f37 9) (reg Try.f37 9).toList ([x0,x1,x2,x3,x4,x5,x6,x7,k,x9,f,b,l,g,i,a,d,m,n,o,p,q,r,s,t,u,w,x,y,z,A,B,C,D,E,F,G,H,I,J,K,L,M,N,P,Q,R,U,V,W,X,Y,Z,a0,a1,a2,a3,a4,a5,a6,a7,a8,a9,b0,b1,b2,b3,b4,b5,b6,b7,b8,b9,c1,c2,c3,c4,c5,c6,c7,c8,c9,d0,d1,d2,d3]) S =
  (zU (yu zi 28 [] S) (fun v0 S1=>zU (wz zi 28 x2 (dem v0) S1) (fun c S2=>some ([x0,x1,x2,.int .i64 0,Value.bool false,x5,x6,x7,k,x9,f,b,l,g,i,a,d,m,n,o,p,q,r,s,t,u,w,x,y,z,A,B,C,D,E,F,G,H,I,J,K,L,M,v0,P,Q,R,U,V,W,X,Y,Z,a0,a1,a2,a3,a4,a5,a6,a7,a8,a9,b0,b1,b2,b3,b4,b5,b6,b7,b8,b9,c1,c2,c3,c4,c5,c6,c7,c8,c9,d0,d1,d2,d3],S2)) ()) ()):=by
 kernel_rfl
theorem zA.d10:qO zi (reg Try.f37 10)=true:=by kernel_rfl
theorem zA.aib:fixed zi (reg Try.f37 10)=false:=by kernel_rfl
theorem zA.k10:checked zi (reg Try.f37 10)=[0,1,2,3,4,5,6,7,8,9,10,11,12,13]:=by kernel_rfl
theorem zA.g10:again zi (reg Try.f37 10)=[(2,14),(5,14),(8,14),(11,14)]:=by kernel_rfl
theorem zA.r10 :zI zi O false (.region 10 (reg Try.f37 10) true) ([x0,x1,x2,x3,x4,x5,x6,x7,k,x9,f,b,l,g,i,a,d,m,n,o,p,q,r,s,t,u,w,x,y,z,A,B,C,D,E,F,G,H,I,J,K,L,M,N,P,Q,R,U,V,W,X,Y,Z,a0,a1,a2,a3,a4,a5,a6,a7,a8,a9,b0,b1,b2,b3,b4,b5,b6,b7,b8,b9,c1,c2,c3,c4,c5,c6,c7,c8,c9,d0,d1,d2,d3]) S =
  J4 (okK k ( zU (jI zi 56 (dem k) (.int .i64 0) S) (fun c S1=>okK c ( zU (jE zi false 3 c S1) (fun v2 S2=>okK v2 ( okK k ( zU (jI zi 56 (dem k) (.int .i64 1) S2) (fun v4 S3=>okK v4 ( zU (jE zi false 3 v4 S3) (fun v5 S4=>okK v5 ( okK k ( zU (jI zi 56 (dem k) (.int .i64 2) S4) (fun v7 S5=>okK v7 ( zU (jE zi false 3 v7 S5) (fun v8 S6=>okK v8 ( okK k ( zU (jI zi 56 (dem k) (.int .i64 3) S6) (fun d4 S7=>okK d4 ( zU (jE zi false 3 d4 S7) (fun d6 S8=>okK d6 ( okK b ( zU (yu zi 28 [(0,(dem v2)),(1,(dem v5)),(2,(dem v8)),(3,(dem d6)),(4,(dem (dem b)))] S8) (fun d7 S9=>okK d7 ( zU (yS zi 28 S9) (fun d8 d5=>zU (wz zi 28 d8 (dem d7) d5) (fun d9 f0=>ckK (qM c S1 d5 && (qM v4 S3 d5 && (qM v7 S5 d5 && (qM d4 S7 d5 && (true))))) (some ([x0,x1,x2,x3,x4,x5,x6,x7,k,x9,f,b,l,g,d8,a,d,m,n,o,p,q,r,s,t,u,w,x,y,z,A,B,C,D,E,F,G,H,I,J,K,L,M,N,dem k,c,v2,dem k,v4,v5,dem k,v7,v8,dem k,d4,d6,dem b,d7,a5,a6,a7,a8,a9,b0,b1,b2,b3,b4,b5,b6,b7,b8,b9,c1,c2,c3,c4,c5,c6,c7,c8,c9,d0,d1,d2,d3],f0)) ()) ()) ()) ()) ()) ()) ()) ()) ()) ()) ()) ()) ()) ()) ()) ()) ()) ()) ()) ()) ()) ()) ()) ()) ()) ()):=by
 rw [yO zA.d10 zA.aib zA.k10 zA.g10]
 refine congrArg J4 ?_
 refine uPC Try.f37 10 0 (v:=k) (pe:=zh) ?_
 refine uDC Try.f37 10 1 (pe:=zh) (fun c S1=>?_)
 refine uDC Try.f37 10 2 (pe:=c) (fun v2 S2=>?_)
 refine uPC Try.f37 10 3 (v:=k) (pe:=zh) ?_
 refine uDC Try.f37 10 4 (pe:=zh) (fun v4 S3=>?_)
 refine uDC Try.f37 10 5 (pe:=v4) (fun v5 S4=>?_)
 refine uPC Try.f37 10 6 (v:=k) (pe:=zh) ?_
 refine uDC Try.f37 10 7 (pe:=zh) (fun v7 S5=>?_)
 refine uDC Try.f37 10 8 (pe:=v7) (fun v8 S6=>?_)
 refine uPC Try.f37 10 9 (v:=k) (pe:=zh) ?_
 refine uDC Try.f37 10 10 (pe:=zh) (fun d4 S7=>?_)
 refine uDC Try.f37 10 11 (pe:=d4) (fun d6 S8=>?_)
 refine uPC Try.f37 10 12 (v:=b) (pe:=zh) ?_
 refine uDC Try.f37 10 13 (pe:=zh) (fun d7 S9=>?_)
 refine uD Try.f37 10 14 (pe:=zh) (fun d8 d5=>?_)
 refine uD Try.f37 10 15 (pe:=zh) (fun d9 f0=>?_)
 kernel_rfl
theorem zA.r11 :jF zi ⟨false,false,false⟩ (jm zi O) (reg Try.f37 11) (reg Try.f37 11).toList ([x0,x1,x2,x3,x4,x5,x6,x7,k,x9,f,b,l,g,i,a,d,m,n,o,p,q,r,s,t,u,w,x,y,z,A,B,C,D,E,F,G,H,I,J,K,L,M,N,P,Q,R,U,V,W,X,Y,Z,a0,a1,a2,a3,a4,a5,a6,a7,a8,a9,b0,b1,b2,b3,b4,b5,b6,b7,b8,b9,c1,c2,c3,c4,c5,c6,c7,c8,c9,d0,d1,d2,d3]) S =
  (zU (jE zi false 28 i S) (fun v0 S1=>zU ((jm zi O) 12 [(dem v0)] S1) (fun c S2=>zU (zW c 0 S2) (fun v3 S3=>zU (zW (jd 0 c) 1 S3) (fun v4 S4=>some ([x0,x1,x2,x3,x4,x5,x6,x7,k,x9,f,b,l,g,i,v3,v4,m,n,o,p,q,r,s,t,u,w,x,y,z,A,B,C,D,E,F,G,H,I,J,K,L,M,N,P,Q,R,U,V,W,X,Y,Z,a0,a1,a2,a3,a4,jd 1 (jd 0 c),v0,dem c,dem v3,dem v4,b0,b1,b2,b3,b4,b5,b6,b7,b8,b9,c1,c2,c3,c4,c5,c6,c7,c8,c9,d0,d1,d2,d3],S4)) ()) ()) ()) ()):=by
 kernel_rfl
theorem zA.d12:qO zi (reg Try.f37 12)=true:=by kernel_rfl
theorem zA.aif:fixed zi (reg Try.f37 12)=false:=by kernel_rfl
theorem zA.k12:checked zi (reg Try.f37 12)=[]:=by kernel_rfl
theorem zA.g12:again zi (reg Try.f37 12)=[]:=by kernel_rfl
theorem zA.r12 :zI zi O false (.region 12 (reg Try.f37 12) true) ([x0,x1,x2,x3,x4,x5,x6,x7,k,x9,f,b,l,g,i,a,d,m,n,o,p,q,r,s,t,u,w,x,y,z,A,B,C,D,E,F,G,H,I,J,K,L,M,N,P,Q,R,U,V,W,X,Y,Z,a0,a1,a2,a3,a4,a5,a6,a7,a8,a9,b0,b1,b2,b3,b4,b5,b6,b7,b8,b9,c1,c2,c3,c4,c5,c6,c7,c8,c9,d0,d1,d2,d3]) S =
  J4 (zU (wu zi BinOp.neq 3 (dem d) (.int .i64 0) S) (fun c S1=>gdK (dem c) false (ret a) S1 (fun v3 S2=>gdK (dem c) false (ku zi 26 (dem v3)) S2 (fun v4 S3=>gdK (dem c) false (ret x0) S3 (fun v5 S4=>gdK (dem c) false (ku zi 26 (dem v5)) S4 (fun v6 S5=>gdK (dem c) false (wu zi BinOp.gtr 3 v4 v6) S5 (fun v7 S6=>zU (ql (dem c) (Value.bool true) v7 S6) (fun v8 S7=>gdK (dem v8) false (ret a) S7 (fun d4 S8=>gdK (dem v8) false (wP zi false false 26 9 (dem d4)) S8 (fun d6 S9=>gdK (dem v8) false (ret x0) S9 (fun f1 d5=>gdK (dem v8) false (ret a) d5 (fun d7 f0=>gdK (dem v8) false (ku zi 26 (dem d7)) f0 (fun d8 f4=>gdK (dem v8) false (yc zi false 26 (dem f1) none (some d8)) f4 (fun d9 f5=>gdK (dem v8) false (wP zi false false 26 9 d9) f5 (fun f2 f6=>gdK (dem v8) false (wu zi BinOp.neq 9 d6 f2) f6 (fun f3 f7=>zU (ql (dem v8) (Value.bool true) f3 f7) (fun f8 f9=>some ([x0,x1,x2,x3,x4,x5,x6,x7,k,x9,f,b,l,g,i,a,d,m,n,o,p,q,r,s,t,u,w,x,y,z,A,B,C,D,E,F,G,H,I,J,K,L,M,N,P,Q,R,U,V,W,X,Y,Z,a0,a1,a2,a3,a4,a5,a6,a7,a8,a9,dem d,c,dem c,dem v3,v4,dem v5,v6,v7,v8,dem v8,dem d4,d6,dem f1,dem d7,d8,d9,f2,f3,f8,d0,d1,d2,d3],f9)) ()) ()) ()) ()) ()) ()) ()) ()) ()) ()) ()) ()) ()) ()) ()) ()):=by
 rw [yO zA.d12 zA.aif zA.k12 zA.g12]
 refine congrArg J4 ?_
 refine tP Try.f37 12 0 (v:=d) ?_
 refine tD Try.f37 12 1 (fun c S1=>?_)
 refine tP Try.f37 12 2 (v:=c) ?_
 refine tG Try.f37 12 3 (j:=2) (fun v3 S2=>?_)
 refine tG Try.f37 12 4 (j:=2) (fun v4 S3=>?_)
 refine tG Try.f37 12 5 (j:=2) (fun v5 S4=>?_)
 refine tG Try.f37 12 6 (j:=2) (fun v6 S5=>?_)
 refine tG Try.f37 12 7 (j:=2) (fun v7 S6=>?_)
 refine tD Try.f37 12 8 (fun v8 S7=>?_)
 refine tP Try.f37 12 9 (v:=v8) ?_
 refine tG Try.f37 12 10 (j:=9) (fun d4 S8=>?_)
 refine tG Try.f37 12 11 (j:=9) (fun d6 S9=>?_)
 refine tG Try.f37 12 12 (j:=9) (fun f1 d5=>?_)
 refine tG Try.f37 12 13 (j:=9) (fun d7 f0=>?_)
 refine tG Try.f37 12 14 (j:=9) (fun d8 f4=>?_)
 refine tG Try.f37 12 15 (j:=9) (fun d9 f5=>?_)
 refine tG Try.f37 12 16 (j:=9) (fun f2 f6=>?_)
 refine tG Try.f37 12 17 (j:=9) (fun f3 f7=>?_)
 refine tD Try.f37 12 18 (fun f8 f9=>?_)
 kernel_rfl
theorem zA.r13 :jF zi ⟨false,false,false⟩ (jm zi O) (reg Try.f37 13) (reg Try.f37 13).toList ([x0,x1,x2,x3,x4,x5,x6,x7,k,x9,f,b,l,g,i,a,d,m,n,o,p,q,r,s,t,u,w,x,y,z,A,B,C,D,E,F,G,H,I,J,K,L,M,N,P,Q,R,U,V,W,X,Y,Z,a0,a1,a2,a3,a4,a5,a6,a7,a8,a9,b0,b1,b2,b3,b4,b5,b6,b7,b8,b9,c1,c2,c3,c4,c5,c6,c7,c8,c9,d0,d1,d2,d3]) S =
  (zU (yu zi 28 [] S) (fun v0 S1=>zU (wz zi 28 x2 (dem v0) S1) (fun c S2=>some ([x0,x1,x2,.int .i64 0,Value.bool false,x5,x6,x7,k,x9,f,b,l,g,i,a,d,m,n,o,p,q,r,s,t,u,w,x,y,z,A,B,C,D,E,F,G,H,I,J,K,L,M,N,P,Q,R,U,V,W,X,Y,Z,a0,a1,a2,a3,a4,a5,a6,a7,a8,a9,b0,b1,b2,b3,b4,b5,b6,b7,b8,b9,c1,c2,c3,c4,c5,c6,c7,c8,c9,v0,d1,d2,d3],S2)) ()) ()):=by
 kernel_rfl
theorem zA.r14 :jF zi ⟨false,false,false⟩ (jm zi O) (reg Try.f37 14) (reg Try.f37 14).toList ([x0,x1,x2,x3,x4,x5,x6,x7,k,x9,f,b,l,g,i,a,d,m,n,o,p,q,r,s,t,u,w,x,y,z,A,B,C,D,E,F,G,H,I,J,K,L,M,N,P,Q,R,U,V,W,X,Y,Z,a0,a1,a2,a3,a4,a5,a6,a7,a8,a9,b0,b1,b2,b3,b4,b5,b6,b7,b8,b9,c1,c2,c3,c4,c5,c6,c7,c8,c9,d0,d1,d2,d3]) S =
  (zU (jE zi false 28 i S) (fun v0 S1=>zU (ku zi 26 (dem a) S1) (fun v2 S2=>zU (wz zi 28 x2 (dem v0) S2) (fun v3 S3=>some ([x0,x1,x2,v2,Value.bool true,x5,x6,x7,k,x9,f,b,l,g,i,a,d,m,n,o,p,q,r,s,t,u,w,x,y,z,A,B,C,D,E,F,G,H,I,J,K,L,M,N,P,Q,R,U,V,W,X,Y,Z,a0,a1,a2,a3,a4,a5,a6,a7,a8,a9,b0,b1,b2,b3,b4,b5,b6,b7,b8,b9,c1,c2,c3,c4,c5,c6,c7,c8,c9,d0,v0,dem a,dem v2],S3)) ()) ()) ()):=by
 kernel_rfl
theorem zA.rs:type_of% (aij @zA.r0 (aij @zA.r1 (aij @zA.r2 (aij @zA.r3 (aij @zA.r4 (aij @zA.r5 (aij @zA.r6 (aij @zA.r7 (aij @zA.r8 (aij @zA.r9 (aij @zA.r10 (aij @zA.r11 (aij @zA.r12 (aij @zA.r13 (@zA.r14))))))))))))))):=aij @zA.r0 (aij @zA.r1 (aij @zA.r2 (aij @zA.r3 (aij @zA.r4 (aij @zA.r5 (aij @zA.r6 (aij @zA.r7 (aij @zA.r8 (aij @zA.r9 (aij @zA.r10 (aij @zA.r11 (aij @zA.r12 (aij @zA.r13 (@zA.r14))))))))))))))
theorem zA.runs {x0:Value} {S S1:zx} {e:AEx} {T:List Value} (h:zI zi O false zA.code ([x0,zh,zh,zh,zh,zh,zh,zh,zh,zh,zh,zh,zh,zh,zh,zh,zh,zh,zh,zh,zh,zh,zh,zh,zh,zh,zh,zh,zh,zh,zh,zh,zh,zh,zh,zh,zh,zh,zh,zh,zh,zh,zh,zh,zh,zh,zh,zh,zh,zh,zh,zh,zh,zh,zh,zh,zh,zh,zh,zh,zh,zh,zh,zh,zh,zh,zh,zh,zh,zh,zh,zh,zh,zh,zh,zh,zh,zh,zh,zh,zh,zh,zh,zh,zh,zh]) zx.empty=some (e,T,S1)) (he:e=.normal∨e=.ret) {w0:Value} (c0:jE zi false 28 (T.getD 2 zh) S1=some (w0,S1)) (h0:jK (w0)=true) (h1:jK (T.getD 3 zh)=true) (h2:jK (T.getD 4 zh)=true) (hca:[x0].all (jD 16)=true) (hcv:jD 16 (Value.tuple #[w0,T.getD 3 zh,T.getD 4 zh])=true):jm zi O 37 [x0] S=some (Value.tuple #[w0,T.getD 3 zh,T.getD 4 zh],S) :=
 yL rfl rfl Try.func37 (by decide) zA.body (by exact h) he ((wR ((show zX zi T S1 Try.f37.results.toList=zX zi T S1 [(ResultVar.cell 2 28),(ResultVar.tmp 3),(ResultVar.tmp 4)] from by kernel_rfl).trans (by simp only [zX,c0])) (by kernel_rfl) (by simp only [List.all_cons,List.all_nil,h0,h1,h2,Bool.and_true])).trans rfl) hca hcv
end Go.Proofs.Ytblpnklfimkfoaa
namespace Go.Proofs.Ytblpnklfimkfoaa
open Go.Abs
abbrev zF.id:FuncId:=13
noncomputable def zF.jG:Code:=(.block 1 (.seq (.region 3 (reg Try.f13 3) false) (.seq (.seq (.region 4 (reg Try.f13 4) false) (.cond (.tmp 19) (.seq (.region 5 (reg Try.f13 5) false) Code.ret) Code.skip)) (.seq (.region 6 (reg Try.f13 6) false) (.region 7 (reg Try.f13 7) false)))))
noncomputable def zF.code:Code:=(.seq (.region 0 (reg Try.f13 0) false) (.seq (.region 1 (reg Try.f13 1) false) (.seq (.region 2 (reg Try.f13 2) false) (.block 0 (.loop zF.jG)))))
theorem zF.body:Try.f13.body=some zF.code:=by kernel_rfl
theorem zF.eta {T:List Value} (h:T.length=29):T=[T.getD 0 zh,T.getD 1 zh,T.getD 2 zh,T.getD 3 zh,T.getD 4 zh,T.getD 5 zh,T.getD 6 zh,T.getD 7 zh,T.getD 8 zh,T.getD 9 zh,T.getD 10 zh,T.getD 11 zh,T.getD 12 zh,T.getD 13 zh,T.getD 14 zh,T.getD 15 zh,T.getD 16 zh,T.getD 17 zh,T.getD 18 zh,T.getD 19 zh,T.getD 20 zh,T.getD 21 zh,T.getD 22 zh,T.getD 23 zh,T.getD 24 zh,T.getD 25 zh,T.getD 26 zh,T.getD 27 zh,T.getD 28 zh]:=(yJ T 29 h).trans (by kernel_rfl)
variable (v A D E x w B y z C a b c d f g i j k l m n o p q r s t u:Value) (S:zx)
theorem zF.r0 :jF zi ⟨false,false,false⟩ (jm zi O) (reg Try.f13 0) (reg Try.f13 0).toList ([v,A,D,E,x,w,B,y,z,C,a,b,c,d,f,g,i,j,k,l,m,n,o,p,q,r,s,t,u]) S =
  ( some ([v,A,Value.slice none 0 0,.int .i64 0,x,w,B,y,z,C,a,b,c,d,f,g,i,j,k,l,m,n,o,p,q,r,s,t,u],S)):=by
 kernel_rfl
theorem zF.r1 :jF zi ⟨false,false,false⟩ (jm zi O) (reg Try.f13 1) (reg Try.f13 1).toList ([v,A,D,E,x,w,B,y,z,C,a,b,c,d,f,g,i,j,k,l,m,n,o,p,q,r,s,t,u]) S =
  (zU (jH zi 22 0 [] S) (fun L F=>some ([v,A,D,E,L,w,B,y,z,dem L,a,b,c,d,f,g,i,j,k,l,m,n,o,p,q,r,s,t,u],F)) ()):=by
 kernel_rfl
theorem zF.r2 :jF zi ⟨false,false,false⟩ (jm zi O) (reg Try.f13 2) (reg Try.f13 2).toList ([v,A,D,E,x,w,B,y,z,C,a,b,c,d,f,g,i,j,k,l,m,n,o,p,q,r,s,t,u]) S =
  ( some ([v,A,D,E,x,.int .i64 0,B,y,z,C,a,b,c,d,f,g,i,j,k,l,m,n,o,p,q,r,s,t,u],S)):=by
 kernel_rfl
theorem zF.r3 :jF zi ⟨false,false,false⟩ (jm zi O) (reg Try.f13 3) (reg Try.f13 3).toList ([v,A,D,E,x,w,B,y,z,C,a,b,c,d,f,g,i,j,k,l,m,n,o,p,q,r,s,t,u]) S =
  (zU (yc zi false 26 (dem v) (some (dem w)) none S) (fun G F=>zU ((jm zi O) 37 [(dem G)] F) (fun H J=>zU (zW H 0 J) (fun M K=>zU (zW (jd 0 H) 1 K) (fun N R=>zU (zW (jd 1 (jd 0 H)) 2 R) (fun P U=>zU (yS zi 28 U) (fun Q V=>zU (wz zi 28 Q (dem M) V) (fun X W=>some ([v,A,D,E,x,w,Q,N,P,C,jd 2 (jd 1 (jd 0 H)),dem v,dem w,G,dem H,M,dem N,dem P,k,l,m,n,o,p,q,r,s,t,u],W)) ()) ()) ()) ()) ()) ()) ()):=by
 kernel_rfl
theorem zF.r4 :jF zi ⟨false,false,false⟩ (jm zi O) (reg Try.f13 4) (reg Try.f13 4).toList ([v,A,D,E,x,w,B,y,z,C,a,b,c,d,f,g,i,j,k,l,m,n,o,p,q,r,s,t,u]) S =
  (zU (aUn zi UnOp.not (dem z) S) (fun I F=>some ([v,A,D,E,x,w,B,y,z,C,a,b,c,d,f,g,i,j,dem z,I,m,n,o,p,q,r,s,t,u],F)) ()):=by
 kernel_rfl
theorem zF.r5 :jF zi ⟨false,false,false⟩ (jm zi O) (reg Try.f13 5) (reg Try.f13 5).toList ([v,A,D,E,x,w,B,y,z,C,a,b,c,d,f,g,i,j,k,l,m,n,o,p,q,r,s,t,u]) S =
  ( some ([v,A,x,w,dem x,dem w,B,y,z,C,a,b,c,d,f,g,i,j,k,l,dem x,dem w,o,p,q,r,s,t,u],S)):=by
 kernel_rfl
theorem zF.r6 :jF zi ⟨false,false,false⟩ (jm zi O) (reg Try.f13 6) (reg Try.f13 6).toList ([v,A,D,E,x,w,B,y,z,C,a,b,c,d,f,g,i,j,k,l,m,n,o,p,q,r,s,t,u]) S =
  (zU (jE zi false 28 B S) (fun I F=>zU (jH zi 22 1 [(0,I)] F) (fun G J=>zU (jV zi 22 22 x G J) (fun H K=>some ([v,A,D,E,H,w,B,y,z,C,a,b,c,d,f,g,i,j,k,l,m,n,dem x,I,G,dem H,s,t,u],K)) ()) ()) ()):=by
 kernel_rfl
theorem zF.r7 :jF zi ⟨false,false,false⟩ (jm zi O) (reg Try.f13 7) (reg Try.f13 7).toList ([v,A,D,E,x,w,B,y,z,C,a,b,c,d,f,g,i,j,k,l,m,n,o,p,q,r,s,t,u]) S =
  (zU (wu zi BinOp.add 3 (dem w) (dem y) S) (fun G F=>some ([v,A,D,E,x,G,B,y,z,C,a,b,c,d,f,g,i,j,k,l,m,n,o,p,q,r,dem w,dem y,dem G],F)) ()):=by
 kernel_rfl
theorem zF.rs:type_of% (aij @zF.r0 (aij @zF.r1 (aij @zF.r2 (aij @zF.r3 (aij @zF.r4 (aij @zF.r5 (aij @zF.r6 (@zF.r7)))))))):=aij @zF.r0 (aij @zF.r1 (aij @zF.r2 (aij @zF.r3 (aij @zF.r4 (aij @zF.r5 (aij @zF.r6 (@zF.r7)))))))
theorem zF.runs {v:Value} {S F:zx} {e:AEx} {T:List Value} (h:zI zi O false zF.code ([v,zh,zh,zh,zh,zh,zh,zh,zh,zh,zh,zh,zh,zh,zh,zh,zh,zh,zh,zh,zh,zh,zh,zh,zh,zh,zh,zh,zh]) zx.empty=some (e,T,F)) (he:e=.normal∨e=.ret)  (h0:jK (T.getD 2 zh)=true) (h1:jK (T.getD 3 zh)=true) (hca:[v].all (jD 16)=true) (hcv:jD 16 (Value.tuple #[T.getD 2 zh,T.getD 3 zh])=true):jm zi O 13 [v] S=some (Value.tuple #[T.getD 2 zh,T.getD 3 zh],S) :=
 yL rfl rfl Try.func13 (by decide) zF.body (by exact h) he ((wR ((show zX zi T F Try.f13.results.toList=zX zi T F [(ResultVar.tmp 2),(ResultVar.tmp 3)] from by kernel_rfl).trans (by simp only [zX])) (by kernel_rfl) (by simp only [List.all_cons,List.all_nil,h0,h1,Bool.and_true])).trans rfl) hca hcv
end Go.Proofs.Ytblpnklfimkfoaa
namespace Go.Proofs.Ytblpnklfimkfoaa
open Go.Abs
theorem kN {x:yZ} (hx:wM x=true) (s:List UInt8):vP (yC x++s)=some (JD x,s)∧yV 4 (JD x)=some (vN x,YI x.txt)∧vP (YI x.txt)=some (x.txt,[]):=by
 have h1:=qj (l:=JD x) (r:=s) (by have:=ZH hx;omega)
 have h2:=ZK hx []
 have h3:=qj (l:=x.txt) (r:=[]) (by have:=(xP hx).2;omega)
 rw [List.append_nil] at h3
 rw [List.append_nil,List.append_nil] at h2
 exact ⟨h1,h2,h3⟩
def aaG (l:List UInt8) (r:yZ) (n:Nat) (ok:Bool):Prop:=r.Ok∧((ok=true∧wM r=true∧n=(yC r).length∧∃ s,l=yC r++s)∨(ok=false∧∀ x s,wM x=true→l≠yC x++s))
theorem acn {l:List UInt8} (h:vP l=none):aaG l rz 0 false:=⟨XV,.inr ⟨rfl,fun x s hx hl=>by
 rw [hl,(kN hx s).1] at h;cases h⟩⟩
theorem adI {l t u:List UInt8} (h:vP l=some (t,u)) (h2:yV 4 t=none):aaG l rz 0 false:=⟨XV,.inr ⟨rfl,fun x s hx hl=>by
 rw [hl,(kN hx s).1] at h
 simp only [Option.some.injEq,Prod.mk.injEq] at h
 rw [← h.1,(kN hx s).2.1] at h2;cases h2⟩⟩
theorem aci {l t u v:List UInt8} {a b c d:Int} (h:vP l=some (t,u)) (h2:yV 4 t=some ([a,b,c,d],v)) (h3:vP v=none):aaG l rz 0 false:=⟨XV,.inr ⟨rfl,fun x s hx hl=>by
 rw [hl,(kN hx s).1] at h
 simp only [Option.some.injEq,Prod.mk.injEq] at h
 rw [← h.1,(kN hx s).2.1] at h2
 simp only [Option.some.injEq,Prod.mk.injEq] at h2
 rw [← h2.2,(kN hx s).2.2] at h3;cases h3⟩⟩
theorem abv {l t u v y w s:List UInt8} {a b c d:Int} {x:yZ} (h:vP l=some (t,u)) (h2:yV 4 t=some ([a,b,c,d],v)) (h3:vP v=some (y,w)) (hx:wM x=true) (hl:l=yC x++s):Zo ⟨a,b,c,d,1,y⟩ x:=by
 rw [hl,(kN hx s).1] at h
 simp only [Option.some.injEq,Prod.mk.injEq] at h
 rw [← h.1,(kN hx s).2.1] at h2
 simp only [Option.some.injEq,Prod.mk.injEq,vN,List.cons.injEq,and_true] at h2
 rw [← h2.2,(kN hx s).2.2] at h3
 simp only [Option.some.injEq,Prod.mk.injEq] at h3
 obtain ⟨⟨i1,i2,i3,i4⟩,_⟩:=h2
 exact ⟨i1.symm,i2.symm,i3.symm,i4.symm,h3.1.symm⟩
theorem zA.v {k:Nat} {l:List UInt8} (hk:Okl k l) (k2:k≠2) (hl:l.length≤140737488351232):∃ r n ok,aaG l r n ok∧∀ S,jm zi O zA.id [by_ k l] S=some (.tuple #[rv r,.int .i64 (n:Nat),.bool ok],S):=by
 have a1:yS zi 28 zx.empty=some (.pointer (some ⟨0,0,none⟩),ad2 rz):=aeK zx.empty
 have g1:=JQ rz
 have ne0:(0:Nat)≠2:=by decide
 have cl:[by_ k l].all (jD 16)=true:=all1 (vH (k:=k) hk.le)
 obtain ⟨T,hTe⟩:∃ T,T=(by_ k l::zh::zh::zh::zh::zh::zh::zh::zh::zh::zh::zh::zh::zh::zh::zh::zh::zh::zh::zh::zh::zh::zh::zh::zh::zh::zh::zh::zh::zh::zh::zh::zh::zh::zh::zh::zh::zh::zh::zh::zh::zh::zh::zh::zh::zh::zh::zh::zh::zh::zh::zh::zh::zh::zh::zh::zh::zh::zh::zh::zh::zh::zh::zh::zh::zh::zh::zh::zh::zh::zh::zh::zh::zh::zh::zh::zh::zh::zh::zh::zh::zh::zh::zh::zh::zh::[]):=⟨_,rfl⟩
 have hr:zI zi O false zA.code T zx.empty=zI zi O false zA.code T zx.empty:=rfl
 have c1:=fun S=>zJ.v (k:=k) (l:=l) hk k2 (by omega) S
 unfold Wv at c1
 have z0:∀ S,yu zi 28 [] S=some (rv rz,S):=fun S=>Qw S
 have s1:=aeR g1 rz
 cases ht:vP l with
 | none =>
  rw [ht] at c1
  refine ⟨rz,0,false,acn ht,fun S=>?_⟩
  conv at hr =>
   rhs
   rw [hTe]
   simp only [zA.code,zA.rs,zSs,reduceIte,zk,zn,zo,zq,if_neg k2,a1,c1,z0,s1]
  rw [hTe] at hr
  exact zA.runs hr (.inr rfl) (WU (qG _ 0 rz) ne0) rfl rfl rfl cl rfl
 | some tu =>
  obtain ⟨t,u⟩:=tu
  rw [ht] at c1
  obtain ⟨f1,f2⟩:=ZX ht
  have c2:=fun S=>zy.v (many:=4) (k:=1) (l:=t) Okl.read (by decide) (by omega) S
  have r1:∀ k0 k1,Zy k0 k1 4 t=_:=fun k0 k1=>YM (m:=4) (by decide) (by decide)
  rw [r1] at c2
  rcases adC t with h | ⟨a,b,c,d,s,h,hlr⟩
  ·
   rw [h] at c2
   refine ⟨rz,0,false,adI ht h,fun S=>?_⟩
   conv at hr =>
    rhs
    rw [hTe]
    simp only [zA.code,zA.rs,zSs,reduceIte,zk,zn,zo,zq,if_neg k2,a1,c1,c2,z0,s1]
   rw [hTe] at hr
   exact zA.runs hr (.inr rfl) (WU (qG _ 0 rz) ne0) rfl rfl rfl cl rfl
  ·
   rw [h] at c2
   have c3:=fun S=>zJ.v (k:=1) (l:=s) Okl.read (by decide) (by omega) S
   unfold Wv at c3
   cases hy:vP s with
   | none =>
    rw [hy] at c3
    refine ⟨rz,0,false,aci ht h hy,fun S=>?_⟩
    conv at hr =>
     rhs
     rw [hTe]
     simp only [zA.code,zA.rs,zSs,reduceIte,zk,zn,zo,zq,if_neg k2,a1,c1,c2,c3,z0,s1]
    rw [hTe] at hr
    exact zA.runs hr (.inr rfl) (WU (qG _ 0 rz) ne0) rfl rfl rfl cl rfl
   | some yw =>
    obtain ⟨y,w⟩:=yw
    rw [hy] at c3
    obtain ⟨_,_,few⟩:=(ZN _ _ _ _).mp h
    obtain ⟨e1,e2⟩:=ZX hy
    have ro:yZ.Ok ⟨a,b,c,d,1,y⟩:=⟨Okl.read,by show (1:Nat)≠2;decide,by show y.length≤_;omega,ZB (few _ (by simp)),ZB (few _ (by simp)),ZB (few _ (by simp)),ZB (few _ (by simp))⟩
    have i0:=fun S=>WA (k:=1) (i:=0) (m:=0) (l:=[a,b,c,d]) Okl.read rfl rfl S
    have i1:=fun S=>WA (k:=1) (i:=1) (m:=1) (l:=[a,b,c,d]) Okl.read rfl rfl S
    have i2:=fun S=>WA (k:=1) (i:=2) (m:=2) (l:=[a,b,c,d]) Okl.read rfl rfl S
    have i3:=fun S=>WA (k:=1) (i:=3) (m:=3) (l:=[a,b,c,d]) Okl.read rfl rfl S
    have ne1:(1:Nat)≠2:=by decide
    have bd:=fun S=>xI (y0:=.int .i64 a) (y1:=.int .i64 b) (y2:=.int .i64 c) (y3:=.int .i64 d) (y4:=by_ 1 y) kL kL kL kL ZY S
    have a2:yS zi 28 (ad2 rz)=some (.pointer (some ⟨1,0,none⟩),JX rz rz):=aeK (ad2 rz)
    have s2:wz zi 28 (.pointer (some ⟨1,0,none⟩)) (.agg [Value.int .i64 a,.int .i64 b,.int .i64 c,.int .i64 d,by_ 1 y].toArray) (JX rz rz)=some (zh,acK (JX rz rz) 1 ⟨a,b,c,d,1,y⟩):=aeR (Vt rz rz) ⟨a,b,c,d,1,y⟩
    have q1:=qG (JX rz rz) 1 ⟨a,b,c,d,1,y⟩
    have q0:(acK (JX rz rz) 1 ⟨a,b,c,d,1,y⟩).get 0=some (.cells (fR rz) (.own []) 0):=(Vf (by decide)).trans (Vg rz rz)
    have ok1:okq 3 (.agg [Value.int .i64 a,.int .i64 b,.int .i64 c,.int .i64 d,by_ 1 y].toArray)=true:=adz ⟨a,b,c,d,1,y⟩
    have sn:∀ (x:yZ) (v:List UInt8),wM x=true→l=yC x++v→Zo ⟨a,b,c,d,1,y⟩ x:=fun x v h1 h2=>abv ht h hy h1 h2
    have hrx:(rv ⟨a,b,c,d,1,y⟩:Value)=.agg [Value.int .i64 a,.int .i64 b,.int .i64 c,.int .i64 d,by_ 1 y].toArray:=rfl
    generalize hrr:(⟨a,b,c,d,1,y⟩:yZ)=r at ro s2 q1 q0 sn hrx
    generalize acK (JX rz rz) 1 r=A3 at s2 q1 q0
    have s3:=aeR q0 rz
    have s4:=aeR q0 r
    have ll:∀ S,ku zi 26 (by_ k l) S=some (.int .i64 l.length,S):=fun S=>yX hk
    have lr:∀ S,ku zi 26 (by_ 1 (yC r)) S=some (.int .i64 (yC r).length,S):=fun S=>yX Okl.read
    have c4:=fun S=>zN.v ro S
    unfold VN at c4
    cases hR:wM r
    ·
     rw [hR] at c4
     refine ⟨rz,0,false,⟨XV,.inr ⟨rfl,fun x s hx hl=>?_⟩⟩,fun S=>?_⟩
     ·
      rw [(sn x s hx hl).like.1,hx] at hR;cases hR
     ·
      conv at hr =>
       rhs
       rw [hTe]
       simp only [zA.code,zA.rs,zSs,reduceIte,zk,zn,zo,zq,if_neg k2,a1,c1,c2,c3,z0,i0,i1,i2,i3,xH,bd,a2,s2,WU q1 ro.ne,Wx ok1,c4,s3]
      rw [hTe] at hr
      exact zA.runs hr (.inr rfl) (WU (qG _ 0 rz) ne0) rfl rfl rfl cl rfl
    ·
     rw [hR] at c4
     by_cases h7:(l.length:Int) < ((yC r).length:Int)
     ·
      have d7:=decide_eq_true h7
      refine ⟨rz,0,false,⟨XV,.inr ⟨rfl,fun x s hx hl=>?_⟩⟩,fun S=>?_⟩
      ·
       have:=congrArg List.length hl
       rw [List.length_append,← (sn x s hx hl).like.2.2] at this
       omega
      ·
       conv at hr =>
        rhs
        rw [hTe]
        simp only [zA.code,zA.rs,zSs,reduceIte,zk,zn,zo,zq,if_neg k2,a1,c1,c2,c3,z0,i0,i1,i2,i3,xH,bd,a2,s2,WU q1 ro.ne,Wx ok1,c4,s3,ll,lr,d7]
       rw [hTe] at hr
       exact zA.runs hr (.inr rfl) (WU (qG _ 0 rz) ne0) rfl rfl rfl cl rfl
     ·
      have d7:=decide_eq_false h7
      have sl:∀ S,qY zi 26 (by_ k l) none (some (.int .i64 (yC r).length)) S=some (by_ k (l.take (yC r).length),S):=fun S=>by
       rw [xO hk (i:=0) (j:=(yC r).length) rfl rfl (by omega) (by omega) (by omega),if_neg k2]
       simp
      have hk3:Okl k (l.take (yC r).length):=⟨hk.le,fun h0=>by rw [hk.nil h0,List.take_nil]⟩
      have t1:∀ S,vW zi 26 9 (by_ 1 (yC r)) S=some (.string ⟨(yC r).toArray⟩,S):=fun S=>Qp Okl.read
      have t2:∀ S,wP zi false false 26 9 (by_ 1 (yC r)) S=some (.string ⟨(yC r).toArray⟩,S):=fun S=>by rw [vY];exact t1 S
      have t3:∀ S,vW zi 26 9 (by_ k (l.take (yC r).length)) S=some (.string ⟨(l.take (yC r).length).toArray⟩,S):=fun S=>Qp hk3
      have t4:∀ S,wP zi false false 26 9 (by_ k (l.take (yC r).length)) S=some (.string ⟨(l.take (yC r).length).toArray⟩,S):=fun S=>by rw [vY];exact t3 S
      have cq:∀ S,wu zi .neq 9 (.string ⟨(yC r).toArray⟩) (.string ⟨(l.take (yC r).length).toArray⟩) S=some (.bool (!decide (yC r=l.take (yC r).length)),S):=fun S=>afd (t:=9)
      by_cases h8:yC r=l.take (yC r).length
      ·
       have d8:=decide_eq_true h8
       have d8:(!decide (yC r=l.take (yC r).length))=false:=by rw [d8];rfl
       rw [d8] at cq
       refine ⟨r,(yC r).length,true,⟨ro,.inl ⟨rfl,hR,rfl,l.drop (yC r).length,?_⟩⟩,fun S=>?_⟩
       ·
        conv=>lhs;rw [← List.take_append_drop (yC r).length l]
        rw [← h8]
       ·
        conv at hr =>
         rhs
         rw [hTe]
         simp only [zA.code,zA.rs,zSs,reduceIte,zk,zn,zo,zq,if_neg k2,a1,c1,c2,c3,z0,i0,i1,i2,i3,xH,bd,a2,s2,WU q1 ro.ne,Wx ok1,c4,s4,ll,lr,d7,sl,t1,t2,t3,t4,cq]
        rw [hTe] at hr
        exact zA.runs hr (.inr rfl) (WU (qG _ 0 r) ro.ne) rfl rfl rfl cl (kS (aie (vF ro.okl.le) rfl rfl))
      ·
       have d8:=decide_eq_false h8
       have d8:(!decide (yC r=l.take (yC r).length))=true:=by rw [d8];rfl
       rw [d8] at cq
       refine ⟨rz,0,false,⟨XV,.inr ⟨rfl,fun x s hx hl=>?_⟩⟩,fun S=>?_⟩
       ·
        refine h8 ?_
        rw [hl,(sn x s hx hl).like.2.2,List.take_left]
       ·
        conv at hr =>
         rhs
         rw [hTe]
         simp only [zA.code,zA.rs,zSs,reduceIte,zk,zn,zo,zq,if_neg k2,a1,c1,c2,c3,z0,i0,i1,i2,i3,xH,bd,a2,s2,WU q1 ro.ne,Wx ok1,c4,s3,ll,lr,d7,sl,t1,t2,t3,t4,cq]
        rw [hTe] at hr
        exact zA.runs hr (.inr rfl) (WU (qG _ 0 rz) ne0) rfl rfl rfl cl rfl
section
variable {k:Nat} {l:List UInt8}
theorem zF.round (hk:Okl k l) (k2:k≠2) (hl:l.length≤1000000000000):∀ (n:Nat) (suf:List UInt8) (out:List yZ) {T:List Value} {r:St} {S:zx},yQ (zI zi O false zF.jG) T S=r→T.length=29→suf.length≤n →
  T.getD 0 zh=by_ k l→T.getD 4 zh=rl 2 out→T.getD 5 zh=.int .i64 (out.flatMap yC).length→l=out.flatMap yC++suf→(∀ r ∈ out,r.Ok∧wM r=true) →
  ∃ T' S' rs m,r=some (.ret,T',S')∧T'.length=29∧T'.getD 2 zh=rl 2 rs∧T'.getD 3 zh=.int .i64 (m:Nat)∧Yb l rs m:=by
 intro n
 induction n with
 | zero =>
  intro suf out T r S hL hT hn h0 h4 h5 hpre hout
  have hs:suf=[]:=List.length_eq_zero_iff.1 (by omega)
  have hll:l.length=(out.flatMap yC).length+suf.length:=by rw [hpre,List.length_append]
  have hTe:=zF.eta hT
  rw [h0,h4,h5] at hTe
  have hr:zI zi O false zF.jG T S=zI zi O false zF.jG T S:=rfl
  have sl:=fun S=>Vr (S:=S) hk (m:=(out.flatMap yC).length) (by omega) (by omega)
  rw [Int.toNat_natCast,show l.drop (out.flatMap yC).length=suf by rw [hpre,List.drop_left],if_neg k2] at sl
  obtain ⟨r1,n1,ok,⟨ro,hP⟩,c1⟩:=zA.v (k:=k) (l:=suf) ⟨hk.le,fun h=>hs⟩ k2 (by omega)
  obtain ⟨S2,b1,b2,b3,b4⟩:=VU r1 S
  rcases hP with ⟨rfl,hR,_,s,hs2⟩ | ⟨rfl,hno⟩
  ·
   have:=ZJ r1
   have h9:=congrArg List.length hs2
   rw [List.length_append] at h9
   omega
  ·
   conv at hr =>
    rhs
    rw [hTe]
    simp only [zF.jG,zF.code,zF.rs,zSs,reduceIte,zk,zn,zo,zq,if_neg k2,sl,c1,aeK,b1]
   exact ⟨_,_,out,_,hL.symm.trans (jM hr (by simp)),rfl,rfl,rfl,hout,rfl,suf,hpre,hno⟩
 | succ n ih =>
  intro suf out T r S hL hT hn h0 h4 h5 hpre hout
  have hll:l.length=(out.flatMap yC).length+suf.length:=by rw [hpre,List.length_append]
  have hTe:=zF.eta hT
  rw [h0,h4,h5] at hTe
  have hr:zI zi O false zF.jG T S=zI zi O false zF.jG T S:=rfl
  have sl:=fun S=>Vr (S:=S) hk (m:=(out.flatMap yC).length) (by omega) (by omega)
  rw [Int.toNat_natCast,show l.drop (out.flatMap yC).length=suf by rw [hpre,List.drop_left],if_neg k2] at sl
  obtain ⟨r1,n1,ok,⟨ro,hP⟩,c1⟩:=zA.v (k:=k) (l:=suf) ⟨hk.le,fun h=>by
   have:=hk.nil h
   rw [hpre] at this
   exact (List.append_eq_nil_iff.1 this).2⟩ k2 (by omega)
  obtain ⟨S2,b1,b2,b3,b4⟩:=VU r1 S
  rcases hP with ⟨rfl,hR,rfl,s,hs2⟩ | ⟨rfl,hno⟩
  ·
   have rp:=ZJ r1
   have h9:=congrArg List.length hs2
   rw [List.length_append] at h9
   have hol:=WO out
   have hout2:∀ r ∈ out++[r1],r.Ok∧wM r=true:=fun r hr=>by
    rcases List.mem_append.1 hr with hr | hr
    ·
     exact hout r hr
    ·
     rw [List.mem_singleton.1 hr];exact ⟨ro,hR⟩
   have efl:(out++[r1]).flatMap yC=out.flatMap yC++yC r1:=by simp
   have hpre2:l=(out++[r1]).flatMap yC++s:=by rw [efl,List.append_assoc,← hs2];exact hpre
   have wi:IntKind.i64.wrap (((out.flatMap yC).length:Int)+((yC r1).length:Int))=(((out++[r1]).flatMap yC).length:Int):=by
    rw [wrap_i64 (by omega) (by omega),efl,List.length_append];omega
   have ap:=fun S=>ac0 (S:=S) (r:=r1) (k:=2) (l:=out) Okl.own (by decide) (by omega)
   conv at hr =>
    rhs
    rw [hTe]
    simp only [zF.jG,zF.code,zF.rs,zSs,reduceIte,zk,zn,zo,zq,if_neg k2,sl,c1,aeK,b1,WU b2 ro.ne,ady,ap,wi]
   exact ih s (out++[r1]) ((wL hr).symm.trans hL) rfl (by omega) rfl rfl rfl hpre2 hout2
  ·
   conv at hr =>
    rhs
    rw [hTe]
    simp only [zF.jG,zF.code,zF.rs,zSs,reduceIte,zk,zn,zo,zq,if_neg k2,sl,c1,aeK,b1]
   exact ⟨_,_,out,_,hL.symm.trans (jM hr (by simp)),rfl,rfl,rfl,hout,rfl,suf,hpre,hno⟩
theorem zF.v (hk:Okl k l) (k2:k≠2) (hl:l.length≤1000000000000):∃ rs m,Yb l rs m∧∀ S,jm zi O zF.id [by_ k l] S=some (.tuple #[rl 2 rs,.int .i64 (m:Nat)],S):=by
 obtain ⟨T,hTe⟩:∃ T,T=(by_ k l::zh::zh::zh::zh::zh::zh::zh::zh::zh::zh::zh::zh::zh::zh::zh::zh::zh::zh::zh::zh::zh::zh::zh::zh::zh::zh::zh::zh::[]):=⟨_,rfl⟩
 have hr:zI zi O false zF.code T zx.empty=zI zi O false zF.code T zx.empty:=rfl
 have rl0:∀ S,jH zi 22 0 [] S=some (rl 2 [],S):=fun S=>by rw [Y3];rfl
 conv at hr =>
  rhs
  rw [hTe]
  simp only [zF.code,zF.rs,zSs,reduceIte,zk,zn,zo,zq,rl0]
 generalize hL:yQ (zI zi O false zF.jG) _ _=r at hr
 obtain ⟨T',S',rs,m,rfl,g1,g2,g3,g4⟩:=zF.round hk k2 hl l.length l [] hL rfl (Nat.le_refl _) rfl rfl rfl rfl (fun r h=>by cases h)
 have hT':=zF.eta g1
 rw [g2,g3] at hT'
 conv at hr =>
  rhs
  rw [hT']
  simp only [zF.code,zF.rs,zSs,reduceIte,zk,zn,zo,zq]
 rw [hTe] at hr
 refine ⟨rs,m,g4,fun S=>?_⟩
 exact zF.runs hr (.inr rfl) (by simp only [List.getD_cons_succ,List.getD_cons_zero,je,zZ,zM,zT,zY]) rfl (all1 (vH (k:=k) hk.le)) (kS (all2 (aas (d:=3) (Nat.le_refl 2) fun r h=>(g4.1 r h).1) rfl))
end
end Go.Proofs.Ytblpnklfimkfoaa
namespace Go.Proofs.Ytblpnklfimkfoaa
open Go.Abs
theorem adM {l:List UInt8} {i:Nat} (h:i < l.length):l.take i++[l[i]]=l.take (i+1):=by rw [List.take_succ_eq_append_getElem h]
theorem ahA (x:UInt8) (S:zx):jH zi 26 1 [(0,.int .u8 x.toNat)] S=some (by_ 2 [x],S):=by rw [xE];rfl
section
variable {d u:DV} {H:zx}
theorem Vp (hd:d.Ok) {keep:Int} (t:Two H d u):∀ (n i:Nat) {T:List Value} {r:St},n=d.data.length - i→yQ (zI zi O false zG.jG) T H=r→T.length=44→T.getD 1 zh=.int .i64 keep→T.getD 2 zh=.pointer (some ⟨0,0,none⟩)→T.getD 5 zh=by_ 2 (d.data.take i)→T.getD 6 zh=.int .i64 i→d.sy≤i→(i:Int)≤d.sy+max 0 (min keep (d.data.length - d.sy)) →
  ∃ T',r=some (.exit 0,T',H)∧T'.length=44∧T'.getD 2 zh=.pointer (some ⟨0,0,none⟩)∧T'.getD 4 zh=T.getD 4 zh∧T'.getD 5 zh=by_ 2 (d.data.take (d.sy+max 0 (min keep (d.data.length - d.sy))).toNat):=by
 have z1:=hd.len;have z2:=hd.sy0;have z3:=hd.syl
 have l0:=t.l0 hd.ne
 have l1:=t.l1
 have ln:=fun S=>yX (S:=S) hd.okl
 intro n
 induction n with
 | zero =>
  intro i T r hn hL hT h1 h2 h5 h6 hs hE
  have hTe:=zG.eta hT
  rw [h1,h2,h5,h6] at hTe
  have hr:zI zi O false zG.jG T H=zI zi O false zG.jG T H:=rfl
  have hd1:¬ (i:Int) < (d.data.length:Int):=by omega
  have e:(d.sy+max 0 (min keep (d.data.length - d.sy))).toNat=i:=by omega
  conv at hr =>
   rhs
   rw [hTe]
   simp only [zG.jG,zG.code,zG.rs,zSs,reduceIte,zk,zn,zo,zq,jW,l0,ln,goInt,hd1]
  refine ⟨_,hL.symm.trans (jM hr (by simp)),rfl,rfl,rfl,?_⟩
  rw [e];rfl
 | succ n ih =>
  intro i T r hn hL hT h1 h2 h5 h6 hs hE
  have hTe:=zG.eta hT
  rw [h1,h2,h5,h6] at hTe
  have hr:zI zi O false zG.jG T H=zI zi O false zG.jG T H:=rfl
  have hd1:(i:Int) < (d.data.length:Int):=by omega
  have w1:IntKind.i64.wrap ((i:Int) - d.sy)=(i:Int) - d.sy:=wrap_i64 (by omega) (by omega)
  by_cases hk:(i:Int) - d.sy < keep
  ·
   have at1:=fun S=>agA (S:=S) (ki:=.i64) (i:=(i:Int)) hd.okl (by omega) hd1
   have lt:i < d.data.length:=by omega
   have at2:∀ S,jI zi 26 (by_ d.k d.data) (.int .i64 i) S=some (EP [.int .u8 (d.data[i]).toNat],S):=at1
   have ap:∀ S,jV zi 26 26 (by_ 2 (d.data.take i)) (by_ 2 [d.data[i]]) S=some (by_ 2 (d.data.take (i+1)),S):=fun S=>by
    rw [y9 Okl.own (by decide) Okl.own (by simp;omega),if_neg (fun h=>by omega),adM lt]
   have wi:IntKind.i64.wrap ((i:Int)+1)=((i+1:Nat):Int):=by rw [wrap_i64 (by omega) (by omega)];omega
   conv at hr =>
    rhs
    rw [hTe]
    simp only [zG.jG,zG.code,zG.rs,zSs,reduceIte,zk,zn,zo,zq,jW,yA,l0,l1,ln,goInt,hd1,w1,hk,at2,KH,ahA,ap,wi]
   have hs2:=(wL hr).symm.trans hL
   obtain ⟨T',q1,q2,q3,q4,q5⟩:=ih (i+1) (by omega) hs2 rfl rfl rfl rfl rfl (by omega) (by omega)
   exact ⟨T',q1,q2,q3,q4,q5⟩
  ·
   have e:(d.sy+max 0 (min keep (d.data.length - d.sy))).toNat=i:=by omega
   conv at hr =>
    rhs
    rw [hTe]
    simp only [zG.jG,zG.code,zG.rs,zSs,reduceIte,zk,zn,zo,zq,jW,yA,l0,l1,ln,goInt,hd1,w1,hk]
   refine ⟨_,hL.symm.trans (jM hr (by simp)),rfl,rfl,rfl,?_⟩
   rw [e];rfl
end
theorem zG.v {d:DV} (hd:d.Ok) {keep:Int} (S:zx):jm zi O zG.id [dvv d,.int .i64 keep] S =
  some (dvv ⟨1,d.data.take (d.sy+max 0 (min keep (d.data.length - d.sy))).toNat,(d.data.take (d.sy+max 0 (min keep (d.data.length - d.sy))).toNat).length,d.room⟩,S):=by
 have z1:=hd.len;have z2:=hd.sy0;have z3:=hd.syl
 obtain ⟨H1,H2,b1,b2,t2⟩:=QS d
 have l0:=t2.l0 hd.ne
 have l1:=t2.l1
 have l2:=t2.l2
 have sl:∀ S,yc zi false 26 (by_ d.k d.data) none (some (.int .i64 d.sy)) S=some (by_ (if d.k=2 then 1 else d.k) (d.data.take d.sy.toNat),S):=fun S=>by
  rw [JZ]
  rw [xO (i:=0) (j:=d.sy) hd.okl rfl rfl (by omega) (by omega) (by omega)]
  simp
 have q2:=hd.okl.le
 have cp:∀ S,jV zi 26 26 (by_ 2 []) (by_ (if d.k=2 then 1 else d.k) (d.data.take d.sy.toNat)) S=some (by_ 2 (d.data.take d.sy.toNat),S):=fun S=>by
  rw [if_neg hd.ne]
  refine QV ?_ (by rw [List.length_take];omega)
  exact ⟨hd.okl.le,fun h=>by rw [hd.okl.nil h];simp⟩
 obtain ⟨T,hTe⟩:∃ T,T=(dvv d::.int .i64 keep::zh::zh::zh::zh::zh::zh::zh::zh::zh::zh::zh::zh::zh::zh::zh::zh::zh::zh::zh::zh::zh::zh::zh::zh::zh::zh::zh::zh::zh::zh::zh::zh::zh::zh::zh::zh::zh::zh::zh::zh::zh::zh::[]):=⟨_,rfl⟩
 have hr:zI zi O false zG.code T zx.empty=zI zi O false zG.code T zx.empty:=rfl
 conv at hr =>
  rhs
  rw [hTe]
  simp only [zG.code,zG.rs,zSs,reduceIte,zk,zn,zo,zq,b1,b2,bb0,jW,yA,l0,l1,sl,cp]
 generalize hL:yQ (zI zi O false zG.jG) _ _=r at hr
 have hsy:((d.sy.toNat:Nat):Int)=d.sy:=by omega
 obtain ⟨T',p1,p2,p3,p4,p5⟩:=Vp hd (keep:=keep) t2 _ d.sy.toNat rfl hL rfl rfl rfl rfl (by rw [hsy];rfl) (by omega) (by omega)
 have p4:T'.getD 4 zh=.pointer (some ⟨1,0,none⟩):=p4
 subst p1
 have hTe2:=zG.eta p2
 rw [p3,p4,p5] at hTe2
 have hEl:(d.data.take (d.sy+max 0 (min keep (d.data.length - d.sy))).toNat).length≤65536:=by rw [List.length_take];omega
 generalize d.data.take (d.sy+max 0 (min keep (d.data.length - d.sy))).toNat=E at hTe2 hEl
 have bd:∀ S,yu zi 40 [(0,by_ 1 E),(2,.int .i64 d.room)] S=some (dvv ⟨1,E,0,d.room⟩,S):=fun S=>vO ZY kL S
 have ok:DV.Ok ⟨1,E,0,d.room⟩:=⟨Okl.read,by show (1:Nat)≠2;decide,hEl,by show (0:Int)≤0;decide,by show (0:Int)≤(E.length:Int);omega,hd.rm0,hd.rml⟩
 have sy:=fun S=>jr.v ok S
 obtain ⟨H5,b5,t5⟩:=t2.out ⟨1,E,E.length,d.room⟩
 conv at hr =>
  rhs
  simp only [zSs,reduceIte,zk,zn,zo,zq]
  rw [hTe2]
  simp only [zG.code,zG.rs,zSs,reduceIte,zk,zn,zo,zq,wH,l2,aeN,bd,sy,b5]
 rw [hTe] at hr
 exact zG.runs hr (.inr rfl) (vU t5.g1 (by show (1:Nat)≠2;decide)) (Zz q2 rfl) (xK (n:=10) (by show (1:Nat)≤2;decide))
end Go.Proofs.Ytblpnklfimkfoaa
namespace Go.Proofs.Ytblpnklfimkfoaa
open Go.Abs
namespace journalRuns
structure aaX where
 kind:Int
 n:Int
 r:yZ
 t:Tb
structure aaX.Ok (a:aaX):Prop where
 r:a.r.Ok
 t:a.t.Ok
 n:-9223372036854775808≤a.n∧a.n < 9223372036854775808
def fA (a:aaX):List Value:=[.int .i64 a.kind,.int .i64 a.n,.int .i64 a.r.kind,.int .i64 a.r.index,.int .i64 a.r.view,.int .i64 a.r.value,by_ a.r.k a.r.txt,by_ a.t.k a.t.b]
abbrev av (a:aaX):Value:=.agg [Value.int .i64 a.kind,.int .i64 a.n,.int .i64 a.r.kind,.int .i64 a.r.index,.int .i64 a.r.view,.int .i64 a.r.value,by_ a.r.k a.r.txt,by_ a.t.k a.t.b].toArray
theorem agX (a:aaX):(fA a).length=8:=rfl
abbrev agT:Ty:=.pair (.int .i64) (.pair (.int .i64) (.pair ag0 (.pair (.slc 1 (.int .u8)) .unit)))
theorem agq (x:(Ty.slc 96 agT).Val) (hg:(Ty.slc 96 agT).Good x):∃ k l,Okl k l∧k≠2∧(Ty.slc 96 agT).J9 x=[vs fA 8 k l]∧l.length * 96≤140737488351232∧∀ t ∈ l,t.Ok :=
 agY (b:=96) (e:=agT) fA aaX.Ok (fun x hx=>by
  obtain ⟨a,b,c,d,u⟩:=x
  obtain ⟨h1,h2,h3,h4,_⟩:=hx
  obtain ⟨r,r1,r2⟩:=ahp c h3
  obtain ⟨t,k1,k2⟩:=ahK d h4
  refine ⟨⟨a,b,r,t⟩,?_,r2,k2,Xm h2⟩
  show [Value.int .i64 a]++([Value.int .i64 b]++(ag0.J9 c++((Ty.slc 1 (.int .u8)).J9 d++[])))=_
  rw [k1,r1];rfl) (fun _=>rfl) x hg
abbrev az:aaX:=⟨0,0,rz,⟨0,[]⟩⟩
theorem XW (S:zx):yS zi 43 S=some (.pointer (some ⟨S.next,0,none⟩),S.push (.cells (fA az) (.own []) 0)):=by kernel_rfl
theorem ahQ (a:aaX):(fA a).all (·.oneCell')=true:=by
 simp only [fA,List.all_cons,List.all_nil,acf,aaI,Bool.and_true]
theorem ahw (a:aaX) (S:zx):∃ S2,wz zi 43 (.pointer (some ⟨S.next,0,none⟩)) (av a) (S.push (.cells (fA az) (.own []) 0))=some (zh,S2)∧S2.get S.next=some (.cells (fA a) (.own []) 0)∧Ext S S2∧S.next < S2.next :=
 Yg S (by rw [yH,List.toList_toArray];rfl) qW rfl (ahQ a)
theorem afT {S:zx} {q:Nat} {a:aaX} (h:S.get q=some (.cells (fA a) (.own []) 0)) (hk:a.r.k≠2):jE zi false 28 (.pointer (some ⟨q,0+2,none⟩)) S=some (rv a.r,S):=by
 rw [Kv (o:=0+2) h WZ vg (by simp [fA])]
 show some (Value.agg (([Value.int .i64 a.r.kind,.int .i64 a.r.index,.int .i64 a.r.view,.int .i64 a.r.value,by_ a.r.k a.r.txt]).toArray.map xB),S)=_
 rw [List.map_toArray]
 simp only [List.map_cons,List.map_nil,WS,Vz,if_neg hk]
def codes:List (Bool×Ty):=[(false,.int .i64),(false,.slc 96 agT)]
theorem coded:Y8 zi 9 [3,36]=some codes:=by kernel_rfl
noncomputable def tail:Code:=(.seq (.region 24 (reg Try.f5 24) false) (.seq (.region 25 (reg Try.f5 25) true) (.cond (.tmp 105) (.seq (.region 26 (reg Try.f5 26) false) .ret) .skip)))
theorem ZW:zu.jG=(.seq (.region 8 (reg Try.f5 8) false) (.seq (.cond (.tmp 32) .skip (.exit 0)) (.seq (.block 1 (.seq (.region 9 (reg Try.f5 9) false) (.seq (.region 10 (reg Try.f5 10) false) (.seq (.seq (.region 11 (reg Try.f5 11) false) (.block 2 (.seq (.region 12 (reg Try.f5 12) false) (.cond (.tmp 37) (.seq (.region 13 (reg Try.f5 13) false) (.region 14 (reg Try.f5 14) false)) (.seq (.region 15 (reg Try.f5 15) false) (.cond (.tmp 50) (.seq (.region 16 (reg Try.f5 16) false) (.region 17 (reg Try.f5 17) false)) (.seq (.region 18 (reg Try.f5 18) false) (.cond (.tmp 56) (.seq (.region 19 (reg Try.f5 19) false) (.region 20 (reg Try.f5 20) false)) (.seq (.region 21 (reg Try.f5 21) false) (.cond (.tmp 66) (.seq (.region 22 (reg Try.f5 22) false) (.region 23 (reg Try.f5 23) false)) .skip)))))))))) tail)))) (.region 27 (reg Try.f5 27) false)))):=rfl
structure Both (S:zx) (q p:Nat) (k:Nat) (data:List UInt8) (sy room:Int):Prop where
 dk:Dk S q data sy room
 okl:Okl k data
 ne:k≠2
 cell:S.get p=some (.cells (fDV ⟨k,data,sy,room⟩) (.own []) 0)
 lt:p < S.next
 pq:p≠q
 nin:WQ S q p
theorem Both.ok {S:zx} {q p k:Nat} {data:List UInt8} {sy room:Int} (h:Both S q p k data sy room):DV.Ok ⟨k,data,sy,room⟩:=⟨h.okl,h.ne,h.dk.len,h.dk.sy0,h.dk.syl,h.dk.rm0,h.dk.rml⟩
theorem Both.ext {S S1:zx} {q p k:Nat} {data:List UInt8} {sy room:Int} (h:Both S q p k data sy room) (x:Ext S S1):Both S1 q p k data sy room:=⟨h.dk.ext x,h.okl,h.ne,(x.get _ h.lt).trans h.cell,Nat.lt_of_lt_of_le h.lt x.next,h.pq,h.nin.ext h.dk x⟩
theorem Both.put {S:zx} {q p k:Nat} {data:List UInt8} {sy room:Int} (hD:Dk S q data sy room) (hk:Okl k data) (k2:k≠2) (hn:WQ S q p) (hp:p≠q) (hl:p < S.next):Both (S.set p (.cells (fDV ⟨k,data,sy,room⟩) (.own []) 0)) q p k data sy room :=
 ⟨hD.off hn hp _,hk,k2,by rw [zx.jS,if_pos rfl],by simpa using hl,hp,hn.off hD hn hp _⟩
section
variable {S:zx} {q p k:Nat} {data:List UInt8} {sy room:Int}
theorem rest (B:Both S q p k data sy room) {T:List Value} {e i:Int} (hT:T.length=107) (h5:T.getD 5 zh=.pointer (some ⟨q,0,none⟩)) (h6:T.getD 6 zh=.pointer (some ⟨p,0,none⟩)) (h9:T.getD 9 zh=.int .i64 e) (h10:T.getD 10 zh=.int .i64 e) (h31:T.getD 31 zh=.int .i64 i) :
  ∃ T1,ae4 (Jr 1 (zI zi O false tail T S)) (zI zi O false (.region 27 (reg Try.f5 27) false))=some (.normal,T1,S)∧T1.length=107∧T1.getD 5 zh=.pointer (some ⟨q,0,none⟩)∧T1.getD 6 zh=.pointer (some ⟨p,0,none⟩)∧T1.getD 29 zh=T.getD 29 zh∧T1.getD 30 zh=T.getD 30 zh∧T1.getD 31 zh=.int .i64 (IntKind.i64.wrap (i+1)):=by
 have hTe:=zu.eta hT
 rw [h5,h6,h9,h10,h31] at hTe
 have hr:ae4 (Jr 1 (zI zi O false tail T S)) (zI zi O false (.region 27 (reg Try.f5 27) false))=ae4 (Jr 1 (zI zi O false tail T S)) (zI zi O false (.region 27 (reg Try.f5 27) false)):=rfl
 have z1:=B.dk.len
 have c1:=jg.v B.dk
 obtain ⟨rs,m,h1,c2⟩:=jQ.v B.dk
 obtain ⟨ws,n,h2,c3⟩:=zF.v (k:=k) (l:=data) B.okl B.ne (by omega)
 have hsm:=(abC _ _ _ _ _ h1 h2).1
 have kk:∃ j,(if rs=[] then 0 else 2)=j∧Okl (if j=2 then 1 else j) rs∧(if j=2 then 1 else j)≠2:=by
  refine ⟨_,rfl,?_,agG _⟩
  by_cases h:rs=[]
  ·
   subst h;exact Okl.none
  ·
   rw [if_neg h];exact Okl.read
 obtain ⟨j,kj,ok1,ne1⟩:=kk
 rw [kj] at c2
 have hrl:rs.length≤2000000000000:=by
  have h3:=WO rs
  obtain ⟨_,_,rst,h4,_⟩:=h1
  have h5:=congrArg List.length h4
  rw [List.length_append] at h5
  omega
 have c4:∀ S,jm zi O 14 [rl (if j=2 then 1 else j) rs,rl 1 ws] S=some (.bool true,S):=fun S=>zD.v ok1 Okl.read ne1 (by decide) (fun r hr=>(h1.1 r hr).1) (fun r hr=>(h2.1 r hr).1) hrl hsm S
 have l0:=agD (o:=0+0) B.cell rfl B.ne
 have s1:∀ S,vW zi 26 9 (by_ 2 data) S=some (.string ⟨data.toArray⟩,S):=fun S=>Qp Okl.own
 have s2:∀ S,vW zi 26 9 (by_ k data) S=some (.string ⟨data.toArray⟩,S):=fun S=>Qp B.okl
 have q0:=Jm (o:=0+0) B.cell
 have okb:∀ {R:Type} (j:Nat) (r:Option R) (z:Jj r),okK (by_ j data) r z=r:=fun j r z=>Wx (by
  show okq 3 (sv j 1 data.length (data.flatMap cb))=true
  unfold sv;split <;> rfl) r z
 have okr:∀ {R:Type} (j:Nat) (r:Option R) (z:Jj r),okK (rl j ws) r z=r:=fun j r z=>Wx (by
  show okq 3 (sv j 5 ws.length (ws.flatMap fR))=true
  unfold sv;split <;> rfl) r z
 conv at hr =>
  rhs
  rw [hTe]
  simp only [tail,zu.code,zu.rs,zSs,reduceIte,zk,zn,zo,zq,c1,c2,c3,c4,jW,l0,if_neg B.ne,s1,s2,afd,q0,abq,okb,okr,aeN,ne_eq,not_true_eq_false,decide_false,decide_true,decide_not,Bool.not_true]
 exact ⟨_,hr,rfl,rfl,rfl,rfl,rfl,rfl⟩
end
theorem round {q p k1:Nat} {l:List aaX} (hk1:Okl k1 l) (k12:k1≠2) (hl:l.length * 96≤140737488351232) (hg:∀ t ∈ l,t.Ok):∀ (suf pre:List aaX) {T:List Value} {r:St} {S:zx} {k:Nat} {data:List UInt8} {sy room:Int},yQ (zI zi O false zu.jG) T S=r→T.length=107 →
  T.getD 5 zh=.pointer (some ⟨q,0,none⟩)→T.getD 6 zh=.pointer (some ⟨p,0,none⟩)→T.getD 29 zh=vs fA 8 k1 l→T.getD 30 zh=.int .i64 l.length→T.getD 31 zh=.int .i64 pre.length→l=pre++suf→Both S q p k data sy room →
  ∃ T' S',r=some (.exit 0,T',S')∧T'.length=107:=by
 intro suf
 induction suf with
 | nil =>
  intro pre T r S k data sy room hL hT h5 h6 h29 h30 h31 hpre B
  have hTe:=zu.eta hT
  rw [h5,h6,h29,h30,h31] at hTe
  have hr:zI zi O false zu.jG T S=zI zi O false zu.jG T S:=rfl
  have d1:¬ (pre.length:Int) < (l.length:Int):=by rw [hpre];simp
  conv at hr =>
   rhs
   rw [hTe]
   simp only [ZW,zu.code,zu.rs,zSs,reduceIte,zk,zn,zo,zq,d1]
  exact ⟨_,_,hL.symm.trans (jM hr (by simp)),rfl⟩
 | cons t suf ih =>
  intro pre T r S k data sy room hL hT h5 h6 h29 h30 h31 hpre B
  have hTe:=zu.eta hT
  rw [h5,h6,h29,h30,h31] at hTe
  have hr:zI zi O false zu.jG T S=zI zi O false zu.jG T S:=rfl
  have hll:l.length=pre.length+suf.length+1:=by rw [hpre];simp;omega
  have d1:(pre.length:Int) < (l.length:Int):=by omega
  have ht:=hg t (by rw [hpre];simp)
  have ne:¬ t.t.k=2:=ht.t.ne
  have e1:∀ S,jI zi 36 (vs fA 8 k1 l) (.int .i64 pre.length) S=some (EP [.int .i64 t.kind,.int .i64 t.n,.int .i64 t.r.kind,.int .i64 t.r.index,.int .i64 t.r.view,.int .i64 t.r.value,by_ t.r.k t.r.txt,by_ t.t.k t.t.b],S):=fun S=>by
   rw [ae0 xq qW agX hk1 (by omega) d1,aam hpre];rfl
  have wi:IntKind.i64.wrap ((pre.length:Int)+1)=((pre++[t]).length:Int):=by rw [wrap_i64 (by omega) (by omega)];simp
  obtain ⟨S2,s1,g1,x1,n1⟩:=ahw t S
  have B2:=B.ext x1
  have l0:=qU (t:=3) (o:=0+0) g1 JW rfl
  have l1:=qU (t:=3) (o:=0+1) g1 JW rfl
  have l2:=afT g1 ht.r.ne
  have l3:=agD (o:=0+7) g1 rfl ne
  have N8:WQ S2 q S.next:=WQ.fresh B.dk x1 (Nat.le_refl _)
  have q8:S.next≠q:=by have:=B.dk.lt;omega
  have go:∀ {T3:List Value} {S3:zx} {k3:Nat} {data3:List UInt8} {sy3 room3 e:Int},zI zi O false zu.jG T S=ae4 (Jr 1 (zI zi O false tail T3 S3)) (zI zi O false (.region 27 (reg Try.f5 27) false))→T3.length=107→T3.getD 5 zh=.pointer (some ⟨q,0,none⟩)→T3.getD 6 zh=.pointer (some ⟨p,0,none⟩)→T3.getD 9 zh=.int .i64 e→T3.getD 10 zh=.int .i64 e→T3.getD 29 zh=vs fA 8 k1 l→T3.getD 30 zh=.int .i64 l.length→T3.getD 31 zh=.int .i64 pre.length→Both S3 q p k3 data3 sy3 room3 →
    ∃ T' S',r=some (.exit 0,T',S')∧T'.length=107:=by
   intro T3 S3 k3 data3 sy3 room3 e hr2 f1 f5 f6 f9 f10 f29 f30 f31 B3
   obtain ⟨T1,w1,w2,w3,w4,w5,w6,w7⟩:=rest B3 f1 f5 f6 f9 f10 f31
   have hs:=(wL (hr2.trans w1)).symm.trans hL
   exact ih (pre++[t]) hs w2 w3 w4 (w5.trans f29) (w6.trans f30) (w7.trans (by rw [wi])) (by simp [hpre]) B3
  have fin:∀ {S3:zx} {k3:Nat} {data3:List UInt8} {sy3 room3:Int},Only q S2 S3→Dk S3 q data3 sy3 room3→Okl k3 data3→k3≠2→S3.get p=some (.cells (fDV ⟨k,data,sy,room⟩) (.own []) 0)∧Both (S3.set p (.cells (fDV ⟨k3,data3,sy3,room3⟩) (.own []) 0)) q p k3 data3 sy3 room3:=by
   intro S3 k3 data3 sy3 room3 o D ok3 ne3
   exact ⟨(o.2.1 p B2.pq).trans B2.cell,Both.put D ok3 ne3 (B2.nin.only o B2.dk D) B2.pq (by rw [o.1];exact B2.lt)⟩
  have ok:=B2.ok
  by_cases h0:t.kind=0
  ·
   have e0:=decide_eq_true h0
   obtain ⟨S5,c1,D5,x5,fr⟩:=jL.w B2.dk ht.r
   obtain ⟨gp,Np⟩:=fr p B2.lt B2.pq B2.nin
   obtain ⟨g8,_⟩:=fr S.next n1 q8 N8
   have cp:=gp.trans B2.cell
   have lw:=vU cp B2.ne
   have l8:=afT (g8.trans g1) ht.r.ne
   obtain ⟨k3,ok3,c2⟩:=jk.v ok ht.r S5
   generalize (if aaO room data t.r=0 then data++yC t.r else data)=data3 at D5 c2 ok3
   generalize aaO room data t.r=err at c1 c2
   have s6:=aai cp ⟨k3,data3,sy,room⟩
   have B6:Both (S5.set p (.cells (fDV ⟨k3,data3,sy,room⟩) (.own []) 0)) q p k3 data3 sy room:=Both.put D5 ok3.1 ok3.2 Np B2.pq (Nat.lt_of_lt_of_le B2.lt x5)
   conv at hr =>
    rhs
    rw [hTe]
    simp only [ZW,zu.code,zu.rs,zSs,reduceIte,zk,zn,zo,zq,d1,e1,yx,XW,s1,wU,Zn,l0,e0,l2,if_neg ne,c1,lw,l8,c2,s6,B2.ne,ht.r.ne,if_neg ok3.2,if_neg ht.r.ne,if_neg B2.ne]
   exact go hr rfl rfl rfl rfl rfl rfl rfl rfl B6
  have e0:=decide_eq_false h0
  by_cases h1:t.kind=1
  ·
   have dk:=decide_eq_true h1
   obtain ⟨v,S3,c1,D3,o3⟩:=jR.o B2.dk
   obtain ⟨gp,B4⟩:=fin o3 D3 B2.okl B2.ne
   have lw:=vU gp B2.ne
   have c2:=jr.v ok S3
   have s6:=aai gp ⟨k,data,data.length,room⟩
   conv at hr =>
    rhs
    rw [hTe]
    simp only [ZW,zu.code,zu.rs,zSs,reduceIte,zk,zn,zo,zq,d1,e1,yx,XW,s1,wU,kR,l0,l1,e0,dk,c1,lw,c2,s6,if_neg ne,if_neg ht.r.ne,if_neg B2.ne]
   exact go hr rfl rfl rfl rfl rfl rfl rfl rfl B4
  have e1n:=decide_eq_false h1
  by_cases h2:t.kind=2
  ·
   have dk:=decide_eq_true h2
   obtain ⟨v,S3,c1,D3,o3⟩:=jw.o (keep:=t.n) B2.dk ht.n
   obtain ⟨gp,B4⟩:=fin o3 D3 (Okl.read (l:=(data.take (sy+max 0 (min t.n (data.length - sy))).toNat))) (by decide)
   have lw:=vU gp B2.ne
   have c2:=zG.v (keep:=t.n) ok S3
   have s6:=aai gp ⟨1,(data.take (sy+max 0 (min t.n (data.length - sy))).toNat),(data.take (sy+max 0 (min t.n (data.length - sy))).toNat).length,room⟩
   have l1s:=qU (t:=3) (o:=0+1) ((o3.2.1 S.next q8).trans g1) JW rfl
   conv at hr =>
    rhs
    rw [hTe]
    simp only [ZW,zu.code,zu.rs,zSs,reduceIte,zk,zn,zo,zq,d1,e1,yx,XW,s1,wU,kR,l0,l1,e0,e1n,dk,c1,lw,l1s,c2,s6,if_neg ne,if_neg ht.r.ne,if_neg B2.ne]
   exact go hr rfl rfl rfl rfl rfl rfl rfl rfl B4
  have e2n:=decide_eq_false h2
  by_cases h3:t.kind=3
  ·
   have dk:=decide_eq_true h3
   have cp0:∀ S,jV zi 26 26 (by_ 2 []) (by_ t.t.k t.t.b) S=some (by_ 2 t.t.b,S):=fun S=>QV ht.t.okl (by have:=ht.t.le;omega)
   obtain ⟨S5,c1,D5,_,x5,fr⟩:=jo.w (k:=1) (b:=t.t.b) B2.dk Okl.read (by decide) (by have:=ht.t.le;omega)
   obtain ⟨gp,Np⟩:=fr p B2.lt B2.pq B2.nin
   obtain ⟨g8,_⟩:=fr S.next n1 q8 N8
   have cp:=gp.trans B2.cell
   have lw:=vU cp B2.ne
   have l8:=agD (o:=0+7) (g8.trans g1) rfl ne
   obtain ⟨k3,ok3,c2⟩:=zQ.v ok ht.t.okl ne ht.t.le S5
   generalize (if roomOf room data.length < (t.t.b.length:Int) then data else data++t.t.b)=data3 at D5 c2 ok3
   generalize (if roomOf room data.length < (t.t.b.length:Int) then (41:Int) else 0)=err at c1 c2
   have s6:=aai cp ⟨k3,data3,sy,room⟩
   have B6:Both (S5.set p (.cells (fDV ⟨k3,data3,sy,room⟩) (.own []) 0)) q p k3 data3 sy room:=Both.put D5 ok3.1 ok3.2 Np B2.pq (Nat.lt_of_lt_of_le B2.lt x5)
   conv at hr =>
    rhs
    rw [hTe]
    simp only [ZW,zu.code,zu.rs,zSs,reduceIte,zk,zn,zo,zq,d1,e1,yx,XW,s1,wU,Zl,l0,e0,e1n,e2n,dk,bb0,l3,if_neg ne,cp0,c1,lw,l8,c2,s6,if_neg ok3.2,if_neg ht.r.ne,if_neg B2.ne]
   exact go hr rfl rfl rfl rfl rfl rfl rfl rfl B6
  have e3n:=decide_eq_false h3
  conv at hr =>
   rhs
   rw [hTe]
   simp only [ZW,zu.code,zu.rs,zSs,reduceIte,zk,zn,zo,zq,d1,e1,yx,XW,s1,wU,l0,e0,e1n,e2n,e3n,if_neg ne,if_neg ht.r.ne]
  exact go hr rfl rfl rfl rfl rfl rfl rfl rfl B2
theorem run {k:Nat} {l:List aaX} {room0:Int} (hk:Okl k l) (k2:k≠2) (hl:l.length * 96≤140737488351232) (hg:∀ t ∈ l,t.Ok):∃ S',jm zi O 5 [.int .i64 room0,vs fA 8 k l] zx.empty=some (.bool true,S'):=by
 obtain ⟨T,hTe⟩:∃ T,T=(.int .i64 room0::vs fA 8 k l::zh::zh::zh::zh::zh::zh::zh::zh::zh::zh::zh::zh::zh::zh::zh::zh::zh::zh::zh::zh::zh::zh::zh::zh::zh::zh::zh::zh::zh::zh::zh::zh::zh::zh::zh::zh::zh::zh::zh::zh::zh::zh::zh::zh::zh::zh::zh::zh::zh::zh::zh::zh::zh::zh::zh::zh::zh::zh::zh::zh::zh::zh::zh::zh::zh::zh::zh::zh::zh::zh::zh::zh::zh::zh::zh::zh::zh::zh::zh::zh::zh::zh::zh::zh::zh::zh::zh::zh::zh::zh::zh::zh::zh::zh::zh::zh::zh::zh::zh::zh::zh::zh::zh::zh::zh::[]):=⟨_,rfl⟩
 have hr:zI zi O false zu.code T zx.empty=zI zi O false zu.code T zx.empty:=rfl
 obtain ⟨S1,c0⟩:=vC.v
 obtain ⟨S2,c1,hD,_⟩:=wG.v (r:=room0) S1
 have z0:∀ S,yu zi 40 [] S=some (dvv dv0,S):=fun S=>ZI S
 have c2:=zO.v aho room0 S2
 obtain ⟨S3,s1,g1,x1,n1⟩:=abX ⟨0,[],0,max 0 (min room0 65536)⟩ S2
 have ln:∀ S,ku zi 36 (vs fA 8 k l) S=some (.int .i64 l.length,S):=fun S=>aaq xq hk
 have B:Both S3 S1.next S2.next 0 [] 0 (max 0 (min room0 65536)):=⟨hD.ext x1,Okl.none,by decide,g1,n1,by have:=hD.lt;omega,WQ.fresh hD x1 (Nat.le_refl _)⟩
 by_cases h1:(100:Int) < (l.length:Int)
 ·
  conv at hr =>
   rhs
   rw [hTe]
   simp only [zu.code,zu.rs,zSs,reduceIte,zk,zn,zo,zq,c0,c1,z0,c2,aei,s1,aan,aac,if_neg k2,ln,h1]
  rw [hTe] at hr
  exact ⟨_,zu.runs hr (.inr rfl)⟩
 ·
  conv at hr =>
   rhs
   rw [hTe]
   simp only [zu.code,zu.rs,zSs,reduceIte,zk,zn,zo,zq,c0,c1,z0,c2,aei,s1,aan,aac,if_neg k2,ln,h1]
  generalize hL:yQ (zI zi O false zu.jG) _ _=r at hr
  obtain ⟨T',S',rfl,g2⟩:=round hk k2 hl hg l [] hL rfl rfl rfl rfl rfl rfl rfl B
  have hTe':=zu.eta g2
  conv at hr =>
   rhs
   simp only [zSs,reduceIte,zk,zn,zo,zq]
   rw [hTe']
   simp only [zu.code,zu.rs,zSs,reduceIte,zk,zn,zo,zq]
  rw [hTe] at hr
  exact ⟨_,zu.runs hr (.inr rfl)⟩
theorem law (x:Args codes) (h:Args.Good codes x):∃ k,(vZ zi k 5 (Args.place codes x zx.empty).1 (Args.place codes x zx.empty).2).map (·.1)=some (.bool true):=by
 obtain ⟨a,b,u⟩:=x
 obtain ⟨h1,h2,_⟩:=h
 obtain ⟨k,l,p1,p2,p3,p4,p5⟩:=agq b h2
 obtain ⟨S',e⟩:=run (room0:=a) p1 p2 p4 p5
 refine Vx ag6 (S':=S') ?_
 have e2:Args.J9 codes (a,b,u)=[.int .i64 a,vs fA 8 k l]:=by
  show [Zu false [Value.int .i64 a],Zu false ((Ty.slc 96 agT).J9 b)]=_
  rw [p3];rfl
 rw [e2]
 exact e
end journalRuns
end Go.Proofs.Ytblpnklfimkfoaa
namespace Go.Proofs.Ytblpnklfimkfoaa.journalRuns
open Go.ChangeShapes Go.WideShapes Go.ChangeAt Go.RowKit Go.Abs
theorem own:ownKnob zi.godebug=none:=by kernel_rfl
theorem laidOut:laidOutB zi=true:=by kernel_rfl
theorem mixes:zi.follows .mixedOrders=true:=by kernel_rfl
set_option maxRecDepth 100000 in
theorem lifted (os:Os) (started:os.Started) (H:Type) (enc:TypeId×Value→H) :
  ReturnsInHanded {} Try.checked os 5 .any (Rows.journalRunsSpec.pre6 enc zi Try.f5 Rows.journalRunsRow.domain false) (Rows.journalRunsSpec.post enc zi Try.f5 false true false false):=by
 refine returnsInHanded_of_change_sized (C:=Try.checked) own started (by kernel_rfl) Try.func5
  (ChangeSpec.witness6 (enc:=enc) (C:=Try.checked) false ⟨#[],#[.int .i64 0,.slice none 0 0],[]⟩ 8 (by kernel_rfl) (by kernel_rfl) (by kernel_rfl) (by kernel_rfl)) ?_
 intro W base args ds gs before hval0 hW hcnd hsz0 _
 have hW':=hW
 obtain ⟨p,q,hA0,hV,rfl,hfz,hnd⟩:=hW
 obtain ⟨rfl,rfl⟩:=trodVars_none hV
 have hsz1:(DataW.weightsEach zi (Try.f5.params.toList++Rows.journalRunsSpec.plain.varTypes zi) (ds++[])).all (·≤reachBytes)=true:=hsz0
 have hval:∀ (j:Nat) t v,Try.f5.params[j]?=some t→args[j]?=some v→Value.okWide zi W .any base t v:=hval0
 have hA1:DataW.TrodAll enc zi W 0 (fun _=>true) true Try.f5.params.toList args.toList ds p:=hA0
 rw [Try.params5] at hA1 hsz1 hval
 have hA:DataW.TrodAll enc zi W 0 (fun _=>true) true [3,36] args.toList ds p:=hA1
 have hsz:(DataW.weightsEach zi [3,36] ds).all (·≤reachBytes)=true:=by rw [List.append_nil ds] at hsz1;exact hsz1
 clear hA0 hA1 hval0 hsz0 hsz1
 have r:=hA
 obtain ⟨v0,vs0,d0,ds0,p0,q0,hargs0,rfl,hp0,h0,r0⟩:=trodAll_cons r
 obtain ⟨v1,vs1,d1,ds1,p1,q1,hargs1,rfl,hp1,h1,r1⟩:=trodAll_cons r0
 obtain ⟨_,rfl,_⟩:=trodAll_nil r1
 refine (ac3 mixes coded law hA (fun j t v h1 h2=>hval j t v (by rw [List.getElem?_toArray];exact h1) h2) hsz).mono fun e W' ⟨he,bel⟩=>?_
 subst he
 exact ⟨_,rfl,_,_,_,[],_,[],hW',trodAll_mk1 (shut_bool (by kernel_rfl) _),aeV laidOut bel _ _ _ _ (by kernel_rfl) hA,rfl,bel.frame _,fun h=>by cases h⟩
theorem over:Rows.journalRunsRow.holds Try.pinned (OpenSpec.ofChange Rows.journalRunsSpec) :=
 OpenClaim.holds_of_wide 5 Try.f5 rfl rfl rfl rfl rfl rfl rfl ⟨rfl,rfl,rfl,rfl,rfl⟩ rfl rfl rfl rfl rfl (by kernel_rfl) Try.func5 (by kernel_rfl)
  (of_decide_eq_true (by kernel_rfl)) (by unfold Func.isWrapper;first | (rw [if_pos (by decide +kernel)];kernel_rfl) | (rw [if_neg (by decide +kernel)];exact ⟨rfl,rfl⟩))
  (fun os started H enc _=>lifted os started H enc)
theorem proved:Rows.JournalRunsSaid:=over
end Go.Proofs.Ytblpnklfimkfoaa.journalRuns
namespace Go.Proofs.Ytblpnklfimkfoaa
theorem journalRuns_holds:Rows.JournalRunsSaid:=journalRuns.proved
#print axioms journalRuns_holds
end Go.Proofs.Ytblpnklfimkfoaa
