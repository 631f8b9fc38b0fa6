/-
The law GateMarks returns true for every input, and leaves it as it was; no condition. Part 5 of 7 of the texts (put together by a program: own names are short, what isn't needed is left out).
-/
import Derived.Test.YtfjogganfjkckaaZGateMarks4
import Derived.Test.YtfjogganfjkckaaChecked
import Derived.KernelRfl
set_option linter.unusedVariables false
set_option linter.unusedSimpArgs false
set_option maxRecDepth 100000
open Go renaming undef → zh
open Go.Proofs.Try renaming prog → zi
open Nat renaming reduceEqDiff → zk
open Int renaming reduceEq → zn
open Int renaming reduceLT → zo
open Int renaming reduceLE → zq
namespace Go.Proofs.Ytfjogganfjkckaa
open Go.Abs
def encs (l:List Int):List UInt8:=l.flatMap fun n=>enc (n+1).toNat
def aeK (k:Nat) (l:List Int):Value:=if 64 < l.length∨∃ n ∈ l,n < -1 then .tuple #[.slice none 0 0,.int .i64 11] else .tuple #[by_ (if l=[] then k else 2) (encs l),.int .i64 0]
theorem Vt {n:Int} (h:-1≤n) (h2:n < 9223372036854775808):IntKind.u64.wrap (IntKind.u64.wrap n+1)=((n+1).toNat:Int):=by
 simp [IntKind.wrap,IntKind.bits,IntKind.signed]
 omega
theorem ZE (a b:List Int):encs (a++b)=encs a++encs b:=by simp [encs]
theorem ady (n:Int):encs [n]=enc (n+1).toNat:=by simp [encs]
theorem Jp {l:List Int} (h:∀ n ∈ l,n < 9223372036854775808):(encs l).length≤l.length * 10:=by
 induction l with
 | nil=>simp [encs]
 | cons n l ih =>
  have h1:=ih fun m hm=>h m (by simp [hm])
  have h2:(enc (n+1).toNat).length≤10:=JJ (by have:=h n (by simp);omega)
  simp only [encs,List.flatMap_cons,List.length_append,List.length_cons] at *
  omega
theorem jG.round {k:Nat} {l:List Int} (hv:Okl k l) (hk:k≠2) (h64:l.length≤64) (hb:∀ n ∈ l,n < 9223372036854775808) {S:zx}:∀ (suf pre:List Int) {T:List Value} {r:St},qR (zL zi O false jG.jS) T S=r→T.length=26 →
  T.getD 10 zh=iz k l→T.getD 11 zh=.int .i64 l.length→T.getD 12 zh=.int .i64 pre.length→T.getD 4 zh=by_ (if pre=[] then 0 else 2) (encs pre)→l=pre++suf →
  ∃ e T',r=some (e,T',S)∧if (∃ n ∈ suf,n < -1) then e=.ret∧T'.getD 2 zh=.slice none 0 0∧T'.getD 3 zh=.int .i64 11 else e=.exit 0∧T'.length=26∧T'.getD 4 zh=by_ (if l=[] then 0 else 2) (encs l):=by
 intro suf
 induction suf with
 | nil =>
  intro pre T r hL hT ha hb hc h4 hl
  have hTe:=jG.eta hT
  rw [ha,hb,hc,h4] at hTe
  have hr:zL zi O false jG.jS T S=zL zi O false jG.jS T S:=rfl
  have hd:¬ (pre.length:Int) < (l.length:Int):=by rw [hl];simp
  conv at hr =>
   rhs
   rw [hTe]
   simp only [jG.jS,jG.code,jG.rs,zSs,reduceIte,zk,zn,zo,zq,hd]
  refine ⟨_,_,hL.symm.trans (wI hr (by simp)),?_⟩
  rw [if_neg (by simp)]
  simp only [List.append_nil] at hl
  subst hl
  exact ⟨rfl,rfl,rfl⟩
 | cons n suf ih =>
  intro pre T r hL hT ha hbb hc h4 hl
  have hTe:=jG.eta hT
  rw [ha,hbb,hc,h4] at hTe
  have hr:zL zi O false jG.jS T S=zL zi O false jG.jS T S:=rfl
  have hll:l.length=pre.length+(suf.length+1):=by rw [hl];simp
  have hlt:(pre.length:Int) < (l.length:Int):=by omega
  have e1:∀ S,jr zi 24 (iz k l) (.int .i64 pre.length) S=some (EP [.int .i64 n],S):=fun S=>by
   rw [acS hv (by omega) hlt];rw [Kz hl]
  have hn:=hb n (by rw [hl];simp)
  by_cases h1:n < -1
  ·
   conv at hr =>
    rhs
    rw [hTe]
    simp only [jG.jS,jG.code,jG.rs,zSs,reduceIte,zk,zn,zo,zq,hlt,e1,qA,h1]
   refine ⟨_,_,hL.symm.trans (wI hr (by simp)),?_⟩
   rw [if_pos ⟨n,by simp,h1⟩]
   exact ⟨rfl,rfl,rfl⟩
  ·
   have w1:=Vt (n:=n) (by omega) (by omega)
   have hpb:(encs pre).length≤pre.length * 10:=Jp fun m hm=>hb m (by rw [hl];simp [hm])
   have hp10:(enc (n+1).toNat).length≤10:=JJ (by omega)
   have hpp:=ae8 (n+1).toNat
   have g1:=fun S=>yu.v (n+1).toNat (by omega) S
   have e2:∀ S,yB zi 33 33 (by_ (if pre=[] then 0 else 2) (encs pre)) (by_ 2 (enc (n+1).toNat)) S=some (by_ 2 (encs (pre++[n])),S):=fun S=>by
    have ok:Okl (if pre=[] then 0 else 2) (encs pre):=⟨by split <;> omega,fun h=>by split at h <;> first | (rename_i hp;subst hp;rfl) | omega⟩
    rw [xu ok (by split <;> omega) Okl.own (by omega),if_neg (fun h=>by have:=h.2;omega),ZE,ady]
   have wi:IntKind.i64.wrap ((pre.length:Int)+1)=((pre++[n]).length:Int):=by rw [wrap_i64 (by omega) (by omega)];simp
   conv at hr =>
    rhs
    rw [hTe]
    simp only [jG.jS,jG.code,jG.rs,zSs,reduceIte,zk,zn,zo,zq,hlt,e1,qA,h1,JO,w1,g1,e2,wi]
   obtain ⟨e,T',g1,g2⟩:=ih (pre++[n]) ((yH hr).symm.trans hL) rfl rfl rfl rfl (by rw [if_neg (show ¬ pre++[n]=[] by simp)];rfl) (by simp [hl])
   refine ⟨e,T',g1,?_⟩
   by_cases h2:∃ m ∈ suf,m < -1
   ·
    rw [if_pos h2] at g2
    obtain ⟨m,hm,hm2⟩:=h2
    rw [if_pos ⟨m,by simp [hm],hm2⟩]
    exact g2
   ·
    rw [if_neg h2] at g2
    rw [if_neg (by rintro ⟨m,hm,hm2⟩;rcases List.mem_cons.1 hm with rfl | hm;exact h1 hm2;exact h2 ⟨m,hm,hm2⟩)]
    exact g2
theorem jG.v {k:Nat} {l:List Int} (hv:Okl k l) (hk:k≠2) (hb:∀ n ∈ l,n < 9223372036854775808) (S:zx):jd zi O jG.id [iz k l] S=some (aeK 0 l,S):=by
 obtain ⟨T,hTe⟩:∃ T,T=(iz k l::zh::zh::zh::zh::zh::zh::zh::zh::zh::zh::zh::zh::zh::zh::zh::zh::zh::zh::zh::zh::zh::zh::zh::zh::zh::[]):=⟨_,rfl⟩
 have hr:zL zi O false jG.code T S=zL zi O false jG.code T S:=rfl
 unfold aeK
 by_cases h1:64 < l.length
 ·
  have d1:(64:Int) < (l.length:Int):=by omega
  conv at hr =>
   rhs
   rw [hTe]
   simp only [jG.code,jG.rs,zSs,reduceIte,zk,zn,zo,zq,if_neg hk,Vq hv,goInt,d1]
  rw [hTe] at hr
  rw [if_pos (.inl h1)]
  exact jG.runs hr (.inr rfl) (by simp only [List.getD_cons_succ,List.getD_cons_zero,wG,wz,jQ,jT,wu]) (by simp only [List.getD_cons_succ,List.getD_cons_zero,wG,wz,jQ,jT,wu])
 ·
  have d1:¬ (64:Int) < (l.length:Int):=by omega
  conv at hr =>
   rhs
   rw [hTe]
   simp only [jG.code,jG.rs,zSs,reduceIte,zk,zn,zo,zq,if_neg hk,Vq hv,goInt,d1,Ze,agY]
  generalize hL:qR (zL zi O false jG.jS) _ _=r at hr
  obtain ⟨e,T',rfl,g⟩:=jG.round hv hk (by omega) hb l [] hL rfl rfl rfl rfl rfl rfl
  by_cases h2:∃ n ∈ l,n < -1
  ·
   rw [if_pos h2] at g
   obtain ⟨rfl,g2,g3⟩:=g
   conv at hr =>
    rhs
    simp only [zSs,reduceIte,zk,zn,zo,zq]
   rw [hTe] at hr
   rw [if_pos (.inr h2)]
   have hrun:=jG.runs hr (.inr rfl) (by rw [g2];rfl) (by rw [g3];rfl)
   rw [g2,g3] at hrun
   exact hrun
  ·
   rw [if_neg h2] at g
   obtain ⟨rfl,g2,g3⟩:=g
   have hTe':=jG.eta g2
   rw [g3] at hTe'
   conv at hr =>
    rhs
    rw [hTe']
    simp only [jG.code,jG.rs,zSs,reduceIte,zk,zn,zo,zq]
   rw [hTe] at hr
   rw [if_neg (by rintro (h | h);exact h1 h;exact h2 h)]
   exact jG.runs hr (.inr rfl) (by simp only [List.getD_cons_succ,List.getD_cons_zero,wG,wz,jQ,jT,wu]) (by simp only [List.getD_cons_succ,List.getD_cons_zero,wG,wz,jQ,jT,wu])
theorem zJ.round {k:Nat} {l:List Int} (hv:Okl k l) (hk:k≠2) (h64:l.length≤64) (hb:∀ n ∈ l,n < 9223372036854775808) {S:zx}:∀ (suf pre:List Int) {T:List Value} {r:St},qR (zL zi O false zJ.jS) T S=r→T.length=27 →
  T.getD 11 zh=iz k l→T.getD 12 zh=.int .i64 l.length→T.getD 13 zh=.int .i64 pre.length→T.getD 4 zh=by_ (if pre=[] then 2 else 2) (encs pre)→l=pre++suf →
  ∃ e T',r=some (e,T',S)∧if (∃ n ∈ suf,n < -1) then e=.ret∧T'.getD 2 zh=.slice none 0 0∧T'.getD 3 zh=.int .i64 11 else e=.exit 0∧T'.length=27∧T'.getD 4 zh=by_ (if l=[] then 2 else 2) (encs l):=by
 intro suf
 induction suf with
 | nil =>
  intro pre T r hL hT ha hb hc h4 hl
  have hTe:=zJ.eta hT
  rw [ha,hb,hc,h4] at hTe
  have hr:zL zi O false zJ.jS T S=zL zi O false zJ.jS T S:=rfl
  have hd:¬ (pre.length:Int) < (l.length:Int):=by rw [hl];simp
  conv at hr =>
   rhs
   rw [hTe]
   simp only [zJ.jS,zJ.code,zJ.rs,zSs,reduceIte,zk,zn,zo,zq,hd]
  refine ⟨_,_,hL.symm.trans (wI hr (by simp)),?_⟩
  rw [if_neg (by simp)]
  simp only [List.append_nil] at hl
  subst hl
  exact ⟨rfl,rfl,rfl⟩
 | cons n suf ih =>
  intro pre T r hL hT ha hbb hc h4 hl
  have hTe:=zJ.eta hT
  rw [ha,hbb,hc,h4] at hTe
  have hr:zL zi O false zJ.jS T S=zL zi O false zJ.jS T S:=rfl
  have hll:l.length=pre.length+(suf.length+1):=by rw [hl];simp
  have hlt:(pre.length:Int) < (l.length:Int):=by omega
  have e1:∀ S,jr zi 24 (iz k l) (.int .i64 pre.length) S=some (EP [.int .i64 n],S):=fun S=>by
   rw [acS hv (by omega) hlt];rw [Kz hl]
  have hn:=hb n (by rw [hl];simp)
  by_cases h1:n < -1
  ·
   conv at hr =>
    rhs
    rw [hTe]
    simp only [zJ.jS,zJ.code,zJ.rs,zSs,reduceIte,zk,zn,zo,zq,hlt,e1,qA,h1]
   refine ⟨_,_,hL.symm.trans (wI hr (by simp)),?_⟩
   rw [if_pos ⟨n,by simp,h1⟩]
   exact ⟨rfl,rfl,rfl⟩
  ·
   have w1:=Vt (n:=n) (by omega) (by omega)
   have hpb:(encs pre).length≤pre.length * 10:=Jp fun m hm=>hb m (by rw [hl];simp [hm])
   have hp10:(enc (n+1).toNat).length≤10:=JJ (by omega)
   have hpp:=ae8 (n+1).toNat
   have g1:=fun S=>jw.v (n+1).toNat (by omega) S
   have e2:∀ S,yB zi 33 33 (by_ (if pre=[] then 2 else 2) (encs pre)) (by_ 2 (enc (n+1).toNat)) S=some (by_ 2 (encs (pre++[n])),S):=fun S=>by
    have ok:Okl (if pre=[] then 2 else 2) (encs pre):=⟨by split <;> omega,fun h=>by split at h <;> first | (rename_i hp;subst hp;rfl) | omega⟩
    rw [xu ok (by split <;> omega) Okl.own (by omega),if_neg (fun h=>by have:=h.2;omega),ZE,ady]
   have wi:IntKind.i64.wrap ((pre.length:Int)+1)=((pre++[n]).length:Int):=by rw [wrap_i64 (by omega) (by omega)];simp
   conv at hr =>
    rhs
    rw [hTe]
    simp only [zJ.jS,zJ.code,zJ.rs,zSs,reduceIte,zk,zn,zo,zq,hlt,e1,qA,h1,JO,w1,g1,e2,wi]
   obtain ⟨e,T',g1,g2⟩:=ih (pre++[n]) ((yH hr).symm.trans hL) rfl rfl rfl rfl (by rw [if_neg (show ¬ pre++[n]=[] by simp)];rfl) (by simp [hl])
   refine ⟨e,T',g1,?_⟩
   by_cases h2:∃ m ∈ suf,m < -1
   ·
    rw [if_pos h2] at g2
    obtain ⟨m,hm,hm2⟩:=h2
    rw [if_pos ⟨m,by simp [hm],hm2⟩]
    exact g2
   ·
    rw [if_neg h2] at g2
    rw [if_neg (by rintro ⟨m,hm,hm2⟩;rcases List.mem_cons.1 hm with rfl | hm;exact h1 hm2;exact h2 ⟨m,hm,hm2⟩)]
    exact g2
theorem zJ.v {k:Nat} {l:List Int} (hv:Okl k l) (hk:k≠2) (hb:∀ n ∈ l,n < 9223372036854775808) (S:zx):jd zi O zJ.id [iz k l] S=some (aeK 2 l,S):=by
 obtain ⟨T,hTe⟩:∃ T,T=(iz k l::zh::zh::zh::zh::zh::zh::zh::zh::zh::zh::zh::zh::zh::zh::zh::zh::zh::zh::zh::zh::zh::zh::zh::zh::zh::zh::[]):=⟨_,rfl⟩
 have hr:zL zi O false zJ.code T S=zL zi O false zJ.code T S:=rfl
 unfold aeK
 by_cases h1:64 < l.length
 ·
  have d1:(64:Int) < (l.length:Int):=by omega
  conv at hr =>
   rhs
   rw [hTe]
   simp only [zJ.code,zJ.rs,zSs,reduceIte,zk,zn,zo,zq,if_neg hk,Vq hv,goInt,d1]
  rw [hTe] at hr
  rw [if_pos (.inl h1)]
  exact zJ.runs hr (.inr rfl) (by simp only [List.getD_cons_succ,List.getD_cons_zero,wG,wz,jQ,jT,wu]) (by simp only [List.getD_cons_succ,List.getD_cons_zero,wG,wz,jQ,jT,wu])
 ·
  have d1:¬ (64:Int) < (l.length:Int):=by omega
  conv at hr =>
   rhs
   rw [hTe]
   simp only [zJ.code,zJ.rs,zSs,reduceIte,zk,zn,zo,zq,if_neg hk,Vq hv,goInt,d1,Ze,agY]
  generalize hL:qR (zL zi O false zJ.jS) _ _=r at hr
  obtain ⟨e,T',rfl,g⟩:=zJ.round hv hk (by omega) hb l [] hL rfl rfl rfl rfl rfl rfl
  by_cases h2:∃ n ∈ l,n < -1
  ·
   rw [if_pos h2] at g
   obtain ⟨rfl,g2,g3⟩:=g
   conv at hr =>
    rhs
    simp only [zSs,reduceIte,zk,zn,zo,zq]
   rw [hTe] at hr
   rw [if_pos (.inr h2)]
   have hrun:=zJ.runs hr (.inr rfl) (by rw [g2];rfl) (by rw [g3];rfl)
   rw [g2,g3] at hrun
   exact hrun
  ·
   rw [if_neg h2] at g
   obtain ⟨rfl,g2,g3⟩:=g
   have hTe':=zJ.eta g2
   rw [g3] at hTe'
   conv at hr =>
    rhs
    rw [hTe']
    simp only [zJ.code,zJ.rs,zSs,reduceIte,zk,zn,zo,zq]
   rw [hTe] at hr
   rw [if_neg (by rintro (h | h);exact h1 h;exact h2 h)]
   exact zJ.runs hr (.inr rfl) (by simp only [List.getD_cons_succ,List.getD_cons_zero,wG,wz,jQ,jT,wu]) (by simp only [List.getD_cons_succ,List.getD_cons_zero,wG,wz,jQ,jT,wu])
end Go.Proofs.Ytfjogganfjkckaa
namespace Go.Proofs.Ytfjogganfjkckaa
open Go.Abs
def qm:Nat→List UInt8→Option (List Int×List UInt8)
 | 0,l=>some ([],l)
 | m+1,l=>match scan 0 0 l with
  | some (n,r)=>if n≤4611686018427387905 then (match qm m r with
   | some (a,b)=>some (((n:Int) - 1)::a,b)
   | none=>none) else none
  | none=>none
def Zm (k0 k1:Nat) (many:Int) (l:List UInt8):Value :=
 if many < 0∨64 < many then .tuple #[.slice none 0 0,.slice none 0 0,.int .i64 11]
 else match qm many.toNat l with
  | some (a,b)=>.tuple #[iz (if many=0 then k0 else 2) a,by_ (if many=0 then k1 else 2) b,.int .i64 0]
  | none=>.tuple #[.slice none 0 0,.slice none 0 0,.int .i64 11]
theorem zT.round {many:Int} (hmany:many≤64) {S:zx}:∀ (m:Nat) (i:Int) (rest:List UInt8) (kr:Nat) (out:List Int) (ko:Nat) {T:List Value} {r:St},qR (zL zi O false zT.jS) T S=r→T.length=45 →
  T.getD 20 zh=.int .i64 many→T.getD 21 zh=.int .i64 i→T.getD 7 zh=by_ kr rest→T.getD 8 zh=iz ko out→0≤i→many=i+m→Okl kr rest→rest.length≤140737488355328→Okl ko out→ko≠1→(out.length:Int)=i →
  ∃ e T',r=some (e,T',S)∧match qm m rest with
   | none=>e=.ret∧T'.getD 4 zh=.slice none 0 0∧T'.getD 5 zh=.slice none 0 0∧T'.getD 6 zh=.int .i64 11
   | some (a,b)=>e=.exit 0∧T'.length=45∧T'.getD 8 zh=iz (if m=0 then ko else 2) (out++a)∧T'.getD 7 zh=by_ (if m=0 then kr else 2) b:=by
 intro m
 induction m with
 | zero =>
  intro i rest kr out ko T r hL hT h1 h2 h3 h4 h0 hm hkr hlen hko hk1 hol
  have hTe:=zT.eta hT
  rw [h1,h2,h3,h4] at hTe
  have hr:zL zi O false zT.jS T S=zL zi O false zT.jS T S:=rfl
  have hd:¬ i < many:=by omega
  conv at hr =>
   rhs
   rw [hTe]
   simp only [zT.jS,zT.code,zT.rs,zSs,reduceIte,zk,zn,zo,zq,hd]
  exact ⟨_,_,hL.symm.trans (wI hr (by simp)),rfl,rfl,by simp,rfl⟩
 | succ m ih =>
  intro i rest kr out ko T r hL hT h1 h2 h3 h4 h0 hm hkr hlen hko hk1 hol
  have hTe:=zT.eta hT
  rw [h1,h2,h3,h4] at hTe
  have hr:zL zi O false zT.jS T S=zL zi O false zT.jS T S:=rfl
  have hd:i < many:=by omega
  have g1:∀ S,jd zi O jB.id [by_ (if kr=2 then 1 else kr) rest] S=some (XL rest,S):=jB.v hkr.dem (by split <;> omega) hlen
  unfold XL at g1
  rw [qm]
  cases hsc:scan 0 0 rest with
  | none =>
   rw [hsc] at g1
   have d11:¬ (11:Int)=0:=by omega
   conv at hr =>
    rhs
    rw [hTe]
    simp only [zT.jS,zT.code,zT.rs,zSs,reduceIte,zk,zn,zo,zq,Vg,hd,g1,d11]
   exact ⟨_,_,hL.symm.trans (wI hr (by simp)),rfl,rfl,rfl,rfl⟩
  | some nr =>
   obtain ⟨n,r'⟩:=nr
   rw [hsc] at g1
   obtain ⟨hn,hrl⟩:=Xw rest 0 0 (by decide) (by omega) n r' hsc
   dsimp only
   by_cases h5:n≤4611686018427387905
   ·
    have d1:¬ (4611686018427387905:Int) < (n:Int):=by omega
    have w1:IntKind.i64.wrap (n:Int)=(n:Int):=wrap_i64 (by omega) (by omega)
    have w2:IntKind.i64.wrap ((n:Int) - 1)=(n:Int) - 1:=wrap_i64 (by omega) (by omega)
    have w3:IntKind.i64.wrap (i+1)=i+1:=wrap_i64 (by omega) (by omega)
    have e1:∀ x S,yB zi 24 24 (iz ko out) (iz 2 [x]) S=some (iz 2 (out++[x]),S):=fun x S=>af6 hko hk1 (by omega)
    conv at hr =>
     rhs
     rw [hTe]
     simp only [zT.jS,zT.code,zT.rs,zSs,reduceIte,zk,zn,zo,zq,Vg,hd,g1,d1,Qb,w1,w2,w3,WY,ahN,e1]
    obtain ⟨e,T',g2,g3⟩:=ih (i+1) r' 2 (out++[(n:Int) - 1]) 2 ((yH hr).symm.trans hL) rfl rfl rfl rfl rfl (by omega) (by omega) Okl.own (by omega) Okl.own (by decide) (by simp;omega)
    refine ⟨e,T',g2,?_⟩
    rw [if_pos h5]
    cases hrn:qm m r' with
    | none=>rw [hrn] at g3;exact g3
    | some ab =>
     obtain ⟨a,b⟩:=ab
     rw [hrn] at g3
     obtain ⟨q1,q2,q3,q4⟩:=g3
     refine ⟨q1,q2,?_,?_⟩
     ·
      rw [q3];simp
     ·
      rw [q4];simp
   ·
    have d1:(4611686018427387905:Int) < (n:Int):=by omega
    conv at hr =>
     rhs
     rw [hTe]
     simp only [zT.jS,zT.code,zT.rs,zSs,reduceIte,zk,zn,zo,zq,Vg,hd,g1,d1]
    refine ⟨_,_,hL.symm.trans (wI hr (by simp)),?_⟩
    rw [if_neg h5]
    exact ⟨rfl,rfl,rfl,rfl⟩
theorem zC.round {many:Int} (hmany:many≤64) {S:zx}:∀ (m:Nat) (i:Int) (rest:List UInt8) (kr:Nat) (out:List Int) (ko:Nat) {T:List Value} {r:St},qR (zL zi O false zC.jS) T S=r→T.length=49 →
  T.getD 1 zh=.int .i64 many→T.getD 9 zh=.int .i64 i→T.getD 8 zh=by_ kr rest→T.getD 7 zh=iz ko out→0≤i→many=i+m→Okl kr rest→rest.length≤140737488355328→Okl ko out→ko≠1→(out.length:Int)=i →
  ∃ e T',r=some (e,T',S)∧match qm m rest with
   | none=>e=.ret∧T'.getD 4 zh=.slice none 0 0∧T'.getD 5 zh=.slice none 0 0∧T'.getD 6 zh=.int .i64 11
   | some (a,b)=>e=.exit 0∧T'.length=49∧T'.getD 7 zh=iz (if m=0 then ko else 2) (out++a)∧T'.getD 8 zh=by_ (if m=0 then kr else 2) b:=by
 intro m
 induction m with
 | zero =>
  intro i rest kr out ko T r hL hT h1 h2 h3 h4 h0 hm hkr hlen hko hk1 hol
  have hTe:=zC.eta hT
  rw [h1,h2,h3,h4] at hTe
  have hr:zL zi O false zC.jS T S=zL zi O false zC.jS T S:=rfl
  have hd:¬ i < many:=by omega
  conv at hr =>
   rhs
   rw [hTe]
   simp only [zC.jS,zC.code,zC.rs,zSs,reduceIte,zk,zn,zo,zq,hd]
  exact ⟨_,_,hL.symm.trans (wI hr (by simp)),rfl,rfl,by simp,rfl⟩
 | succ m ih =>
  intro i rest kr out ko T r hL hT h1 h2 h3 h4 h0 hm hkr hlen hko hk1 hol
  have hTe:=zC.eta hT
  rw [h1,h2,h3,h4] at hTe
  have hr:zL zi O false zC.jS T S=zL zi O false zC.jS T S:=rfl
  have hd:i < many:=by omega
  have g1:∀ S,jd zi O zH.id [by_ (if kr=2 then 1 else kr) rest] S=some (XL rest,S):=zH.v hkr.dem (by split <;> omega) hlen
  unfold XL at g1
  rw [qm]
  cases hsc:scan 0 0 rest with
  | none =>
   rw [hsc] at g1
   have d11:¬ (11:Int)=0:=by omega
   conv at hr =>
    rhs
    rw [hTe]
    simp only [zC.jS,zC.code,zC.rs,zSs,reduceIte,zk,zn,zo,zq,Vg,hd,g1,d11]
   exact ⟨_,_,hL.symm.trans (wI hr (by simp)),rfl,rfl,rfl,rfl⟩
  | some nr =>
   obtain ⟨n,r'⟩:=nr
   rw [hsc] at g1
   obtain ⟨hn,hrl⟩:=Xw rest 0 0 (by decide) (by omega) n r' hsc
   dsimp only
   by_cases h5:n≤4611686018427387905
   ·
    have d1:¬ (4611686018427387905:Int) < (n:Int):=by omega
    have w1:IntKind.i64.wrap (n:Int)=(n:Int):=wrap_i64 (by omega) (by omega)
    have w2:IntKind.i64.wrap ((n:Int) - 1)=(n:Int) - 1:=wrap_i64 (by omega) (by omega)
    have w3:IntKind.i64.wrap (i+1)=i+1:=wrap_i64 (by omega) (by omega)
    have e1:∀ x S,yB zi 24 24 (iz ko out) (iz 2 [x]) S=some (iz 2 (out++[x]),S):=fun x S=>af6 hko hk1 (by omega)
    conv at hr =>
     rhs
     rw [hTe]
     simp only [zC.jS,zC.code,zC.rs,zSs,reduceIte,zk,zn,zo,zq,Vg,hd,g1,d1,Qb,w1,w2,w3,WY,ahN,e1]
    obtain ⟨e,T',g2,g3⟩:=ih (i+1) r' 2 (out++[(n:Int) - 1]) 2 ((yH hr).symm.trans hL) rfl rfl rfl rfl rfl (by omega) (by omega) Okl.own (by omega) Okl.own (by decide) (by simp;omega)
    refine ⟨e,T',g2,?_⟩
    rw [if_pos h5]
    cases hrn:qm m r' with
    | none=>rw [hrn] at g3;exact g3
    | some ab =>
     obtain ⟨a,b⟩:=ab
     rw [hrn] at g3
     obtain ⟨q1,q2,q3,q4⟩:=g3
     refine ⟨q1,q2,?_,?_⟩
     ·
      rw [q3];simp
     ·
      rw [q4];simp
   ·
    have d1:(4611686018427387905:Int) < (n:Int):=by omega
    conv at hr =>
     rhs
     rw [hTe]
     simp only [zC.jS,zC.code,zC.rs,zSs,reduceIte,zk,zn,zo,zq,Vg,hd,g1,d1]
    refine ⟨_,_,hL.symm.trans (wI hr (by simp)),?_⟩
    rw [if_neg h5]
    exact ⟨rfl,rfl,rfl,rfl⟩
theorem zT.v {k:Nat} {l:List UInt8} {many:Int} (hv:Okl k l) (hk:k≠2) (hlen:l.length≤140737488355328) (S:zx):jd zi O zT.id [by_ k l,.int .i64 many] S=some (Zm 0 (if k=0 then 0 else 2) many l,S):=by
 obtain ⟨T,hTe⟩:∃ T,T=(by_ k l::.int .i64 many::zh::zh::zh::zh::zh::zh::zh::zh::zh::zh::zh::zh::zh::zh::zh::zh::zh::zh::zh::zh::zh::zh::zh::zh::zh::zh::zh::zh::zh::zh::zh::zh::zh::zh::zh::zh::zh::zh::zh::zh::zh::zh::zh::[]):=⟨_,rfl⟩
 have hr:zL zi O false zT.code T S=zL zi O false zT.code T S:=rfl
 have c1:∀ S,jd zi O 54 [by_ k l] S=some (by_ (if k=0 then 0 else 2) l,S):=slices_Clone.v hv hk hlen
 unfold Zm
 by_cases h1:many < 0
 ·
  conv at hr =>
   rhs
   rw [hTe]
   simp only [zT.code,zT.rs,zSs,reduceIte,zk,zn,zo,zq,h1]
  rw [hTe] at hr
  rw [if_pos (.inl h1)]
  exact zT.runs hr (.inr rfl) (by simp only [List.getD_cons_succ,List.getD_cons_zero,wG,wz,jQ,jT,wu]) (by simp only [List.getD_cons_succ,List.getD_cons_zero,wG,wz,jQ,jT,wu]) (by simp only [List.getD_cons_succ,List.getD_cons_zero,wG,wz,jQ,jT,wu])
 ·
  by_cases h2:64 < many
  ·
   conv at hr =>
    rhs
    rw [hTe]
    simp only [zT.code,zT.rs,zSs,reduceIte,zk,zn,zo,zq,h1,h2]
   rw [hTe] at hr
   rw [if_pos (.inr h2)]
   exact zT.runs hr (.inr rfl) (by simp only [List.getD_cons_succ,List.getD_cons_zero,wG,wz,jQ,jT,wu]) (by simp only [List.getD_cons_succ,List.getD_cons_zero,wG,wz,jQ,jT,wu]) (by simp only [List.getD_cons_succ,List.getD_cons_zero,wG,wz,jQ,jT,wu])
  ·
   rw [if_neg (by omega)]
   conv at hr =>
    rhs
    rw [hTe]
    simp only [zT.code,zT.rs,zSs,reduceIte,zk,zn,zo,zq,h1,h2,if_neg hk,c1]
   generalize hL:qR (zL zi O false zT.jS) _ _=r at hr
   have okr:Okl (if k=0 then 0 else 2) l:=⟨by split <;> omega,fun h=>by split at h <;> first | (rename_i hp;exact hv.nil hp) | omega⟩
   obtain ⟨e,T',rfl,g⟩:=zT.round (many:=many) (by omega) many.toNat 0 l (if k=0 then 0 else 2) [] 0 hL rfl rfl rfl rfl rfl (by omega) (by omega) okr hlen Okl.none (by decide) rfl
   cases hrn:qm many.toNat l with
   | none =>
    rw [hrn] at g
    obtain ⟨rfl,g2,g3,g4⟩:=g
    conv at hr =>
     rhs
     simp only [zSs,reduceIte,zk,zn,zo,zq]
    rw [hTe] at hr
    have hrun:=zT.runs hr (.inr rfl) (by rw [g2];rfl) (by rw [g3];rfl) (by rw [g4];rfl)
    rw [g2,g3,g4] at hrun
    exact hrun
   | some ab =>
    obtain ⟨a,b⟩:=ab
    rw [hrn] at g
    obtain ⟨rfl,g2,g3,g4⟩:=g
    have hTe':=zT.eta g2
    rw [g3,g4] at hTe'
    have hz:(many.toNat=0) ↔ (many=0):=by omega
    simp only [hz,List.nil_append] at hTe'
    conv at hr =>
     rhs
     rw [hTe']
     simp only [zT.code,zT.rs,zSs,reduceIte,zk,zn,zo,zq]
    rw [hTe] at hr
    exact zT.runs hr (.inr rfl) (by simp only [List.getD_cons_succ,List.getD_cons_zero,wG,wz,jQ,jT,wu]) (by simp only [List.getD_cons_succ,List.getD_cons_zero,wG,wz,jQ,jT,wu]) (by simp only [List.getD_cons_succ,List.getD_cons_zero,wG,wz,jQ,jT,wu])
theorem zC.v {k:Nat} {l:List UInt8} {many:Int} (hv:Okl k l) (hk:k≠2) (hlen:l.length≤140737488355328) (S:zx):jd zi O zC.id [by_ k l,.int .i64 many] S=some (Zm 2 2 many l,S):=by
 obtain ⟨T,hTe⟩:∃ T,T=(by_ k l::.int .i64 many::zh::zh::zh::zh::zh::zh::zh::zh::zh::zh::zh::zh::zh::zh::zh::zh::zh::zh::zh::zh::zh::zh::zh::zh::zh::zh::zh::zh::zh::zh::zh::zh::zh::zh::zh::zh::zh::zh::zh::zh::zh::zh::zh::zh::zh::zh::zh::[]):=⟨_,rfl⟩
 have hr:zL zi O false zC.code T S=zL zi O false zC.code T S:=rfl
 have c1:=fun S=>ajv hv hlen (S:=S)
 unfold Zm
 by_cases h1:many < 0
 ·
  conv at hr =>
   rhs
   rw [hTe]
   simp only [zC.code,zC.rs,zSs,reduceIte,zk,zn,zo,zq,h1]
  rw [hTe] at hr
  rw [if_pos (.inl h1)]
  exact zC.runs hr (.inr rfl) (by simp only [List.getD_cons_succ,List.getD_cons_zero,wG,wz,jQ,jT,wu]) (by simp only [List.getD_cons_succ,List.getD_cons_zero,wG,wz,jQ,jT,wu]) (by simp only [List.getD_cons_succ,List.getD_cons_zero,wG,wz,jQ,jT,wu])
 ·
  by_cases h2:64 < many
  ·
   conv at hr =>
    rhs
    rw [hTe]
    simp only [zC.code,zC.rs,zSs,reduceIte,zk,zn,zo,zq,h1,h2]
   rw [hTe] at hr
   rw [if_pos (.inr h2)]
   exact zC.runs hr (.inr rfl) (by simp only [List.getD_cons_succ,List.getD_cons_zero,wG,wz,jQ,jT,wu]) (by simp only [List.getD_cons_succ,List.getD_cons_zero,wG,wz,jQ,jT,wu]) (by simp only [List.getD_cons_succ,List.getD_cons_zero,wG,wz,jQ,jT,wu])
  ·
   rw [if_neg (by omega)]
   conv at hr =>
    rhs
    rw [hTe]
    simp only [zC.code,zC.rs,zSs,reduceIte,zk,zn,zo,zq,h1,h2,if_neg hk,bz0,bb0,c1]
   generalize hL:qR (zL zi O false zC.jS) _ _=r at hr
   obtain ⟨e,T',rfl,g⟩:=zC.round (many:=many) (by omega) many.toNat 0 l 2 [] 2 hL rfl rfl rfl rfl rfl (by omega) (by omega) Okl.own hlen Okl.own (by decide) rfl
   cases hrn:qm many.toNat l with
   | none =>
    rw [hrn] at g
    obtain ⟨rfl,g2,g3,g4⟩:=g
    conv at hr =>
     rhs
     simp only [zSs,reduceIte,zk,zn,zo,zq]
    rw [hTe] at hr
    have hrun:=zC.runs hr (.inr rfl) (by rw [g2];rfl) (by rw [g3];rfl) (by rw [g4];rfl)
    rw [g2,g3,g4] at hrun
    exact hrun
   | some ab =>
    obtain ⟨a,b⟩:=ab
    rw [hrn] at g
    obtain ⟨rfl,g2,g3,g4⟩:=g
    have hTe':=zC.eta g2
    rw [g3,g4] at hTe'
    simp only [ite_self,List.nil_append] at hTe'
    conv at hr =>
     rhs
     rw [hTe']
     simp only [zC.code,zC.rs,zSs,reduceIte,zk,zn,zo,zq]
    rw [hTe] at hr
    simp only [ite_self]
    exact zC.runs hr (.inr rfl) (by simp only [List.getD_cons_succ,List.getD_cons_zero,wG,wz,jQ,jT,wu]) (by simp only [List.getD_cons_succ,List.getD_cons_zero,wG,wz,jQ,jT,wu]) (by simp only [List.getD_cons_succ,List.getD_cons_zero,wG,wz,jQ,jT,wu])
end Go.Proofs.Ytfjogganfjkckaa
namespace Go.Proofs.Ytfjogganfjkckaa
open Go.Abs
def Few (n:Int):Prop:=-1≤n∧n≤4611686018427387904
theorem yY:∀ (m:Nat) (l:List UInt8) (a:List Int) (b:List UInt8),qm m l=some (a,b) ↔ a.length=m∧l=encs a++b∧∀ n ∈ a,Few n:=by
 intro m
 induction m with
 | zero =>
  intro l a b
  constructor
  ·
   intro h;cases h;exact ⟨rfl,rfl,fun n h=>by cases h⟩
  ·
   rintro ⟨h1,h2,_⟩
   have:a=[]:=List.length_eq_zero_iff.mp h1
   subst this
   rw [h2];rfl
 | succ m ih =>
  intro l a b
  rw [qm]
  constructor
  ·
   intro h
   cases hsc:scan 0 0 l with
   | none=>rw [hsc] at h;cases h
   | some nr =>
    obtain ⟨n,r⟩:=nr
    rw [hsc] at h
    dsimp only at h
    split at h
    ·
     rename_i hn
     cases hr:qm m r with
     | none=>rw [hr] at h;cases h
     | some ab =>
      obtain ⟨a',b'⟩:=ab
      rw [hr] at h
      obtain ⟨h1,h2,h3⟩:=(ih r a' b').mp hr
      cases h
      obtain ⟨f1,f2⟩:=aa7 hsc
      refine ⟨by simp [h1],?_,fun x hx=>?_⟩
      ·
       rw [f1,h2]
       have:((n:Int) - 1+1).toNat=n:=by omega
       simp [encs,this]
      ·
       rcases List.mem_cons.1 hx with rfl | hx
       ·
        unfold Few;omega
       ·
        exact h3 x hx
    ·
     cases h
  ·
   rintro ⟨h1,h2,h3⟩
   cases a with
   | nil=>simp at h1
   | cons x a =>
    have hx:Few x:=h3 x (by simp)
    unfold Few at hx
    have he:encs (x::a)++b=enc (x+1).toNat++(encs a++b):=by simp [encs]
    rw [h2,he,YP (by omega)]
    dsimp only
    rw [if_pos (by omega),(ih (encs a++b) a b).mpr ⟨by simpa using h1,rfl,fun n hn=>h3 n (by simp [hn])⟩]
    have:((x+1).toNat:Int) - 1=x:=by omega
    simp only [this]
theorem WM {m:Nat} {l:List UInt8} {a:List Int} {b:List UInt8} (h:qm m l=some (a,b)):a.length=m∧b.length≤l.length:=by
 obtain ⟨h1,h2,_⟩:=(yY m l a b).mp h
 exact ⟨h1,by rw [h2];simp⟩
theorem WW {a c:List Int} {b d:List UInt8} (h:a.length=c.length) (ha:∀ n ∈ a,Few n) (hc:∀ n ∈ c,Few n) (he:encs a++b=encs c++d):a=c∧b=d:=by
 have h1:=(yY a.length (encs a++b) a b).mpr ⟨rfl,rfl,ha⟩
 have h2:=(yY a.length (encs a++b) c d).mpr ⟨h.symm,he,hc⟩
 rw [h1] at h2
 simpa using h2
theorem JR {k:Nat} {l:List Int} (h:l.length≤64) (h1:∀ n ∈ l,-1≤n) (h0:l≠[]):aeK k l=.tuple #[by_ 2 (encs l),.int .i64 0]:=by
 unfold aeK
 rw [if_neg (by rintro (h2 | ⟨n,h2,h3⟩);{ omega };{ have:=h1 n h2;omega }),if_neg h0]
theorem xU {k0 k1 m:Nat} {l:List UInt8} (h0:0 < m) (h:m≤64):Zm k0 k1 m l=match qm m l with
  | some (a,b)=>.tuple #[iz 2 a,by_ 2 b,.int .i64 0]
  | none=>.tuple #[.slice none 0 0,.slice none 0 0,.int .i64 11]:=by
 unfold Zm
 rw [if_neg (by omega),Int.toNat_natCast]
 have:(m:Int)≠0:=by omega
 simp only [if_neg this]
 all_goals (cases qm m l <;> rfl)
noncomputable def rd {α:Type} (ok:α→Prop) (e:α→List UInt8) (b:List UInt8):Option α:=open Classical in if h:∃ x,ok x∧b=e x then some h.choose else none
theorem afd {α:Type} {ok:α→Prop} {e:α→List UInt8} (inj:∀ x y,ok x→ok y→e x=e y→x=y) (b:List UInt8) (x:α):rd ok e b=some x ↔ ok x∧b=e x:=by
 unfold rd
 constructor
 ·
  intro h
  split at h
  ·
   rename_i he
   cases h
   exact he.choose_spec
  ·
   cases h
 ·
  intro h
  have he:∃ x,ok x∧b=e x:=⟨x,h⟩
  rw [dif_pos he]
  exact congrArg some (inj _ _ he.choose_spec.1 h.1 (he.choose_spec.2.symm.trans h.2))
end Go.Proofs.Ytfjogganfjkckaa
namespace Go.Proofs.Ytfjogganfjkckaa
open Go.Abs
def XD (n:Int):Int:=IntKind.u64.wrap (IntKind.u64.wrap (IntKind.u64.wrap n+1) * 11400714819323198485)
def YQ (h:Int) (x:UInt8):Int:=IntKind.u64.wrap (adK .u64 h (x.toNat:Int) * 1099511628211)
def alk (h:Int):Int:=adK .u64 h (h.fdiv (2 ^ min (Int.toNat 29) (IntKind.bits .u64)))
def Yd (key:Int) (b:List UInt8):Int:=alk (b.foldl YQ (adK .u64 key 14695981039346656037))
theorem abG (x:UInt8):IntKind.u64.wrap (x.toNat:Int)=(x.toNat:Int):=ZL (by have:=x.toNat_lt;omega)
theorem QV (x:Int):IntKind.u64.wrap x=x % 18446744073709551616:=rfl
theorem ac0 (a b:Int):0≤adK .u64 a b∧adK .u64 a b < 18446744073709551616:=by
 unfold adK
 have h:∀ x:Int,0≤IntKind.u64.wrap x∧IntKind.u64.wrap x < 18446744073709551616:=fun x=>by rw [QV];omega
 first | exact h _ | (simp only [IntKind.ofBits,IntKind.signed];first | exact h _ | omega)
theorem ahM (h:Int) (x:UInt8):0≤YQ h x∧YQ h x < 18446744073709551616:=by unfold YQ;rw [QV];omega
theorem kU.v (n:Int) (S:zx):jd zi O kU.id [.int .i64 n] S=some (.int .u64 (XD n),S):=by
 obtain ⟨T,hTe⟩:∃ T,T=(.int .i64 n::zh::zh::zh::zh::zh::zh::[]):=⟨_,rfl⟩
 have hr:zL zi O false kU.code T S=zL zi O false kU.code T S:=rfl
 conv at hr =>
  rhs
  rw [hTe]
  simp only [kU.code,kU.rs,zSs,reduceIte,zk,zn,zo,zq,YV,JO]
 rw [hTe] at hr
 exact kU.runs hr (.inr rfl)
theorem aeM (S:zx):jd zi O qc.id [.int .i64 0] S=some (.int .u64 (XD 0),S):=JW (n:=70) (by kernel_rfl)
theorem aeE (S:zx):jd zi O qc.id [.int .i64 1] S=some (.int .u64 (XD 1),S):=JW (n:=70) (by kernel_rfl)
theorem aer (S:zx):jd zi O qc.id [.int .i64 2] S=some (.int .u64 (XD 2),S):=JW (n:=70) (by kernel_rfl)
theorem ad9 (S:zx):jd zi O qc.id [.int .i64 3] S=some (.int .u64 (XD 3),S):=JW (n:=70) (by kernel_rfl)
theorem adY (S:zx):jd zi O qc.id [.int .i64 4] S=some (.int .u64 (XD 4),S):=JW (n:=70) (by kernel_rfl)
theorem aeo (S:zx):jd zi O qc.id [.int .i64 5] S=some (.int .u64 (XD 5),S):=JW (n:=70) (by kernel_rfl)
theorem ad6 (S:zx):jd zi O qc.id [.int .i64 6] S=some (.int .u64 (XD 6),S):=JW (n:=70) (by kernel_rfl)
theorem qc.v {n:Int} (h0:0≤n) (h6:n≤6) (S:zx):jd zi O qc.id [.int .i64 n] S=some (.int .u64 (XD n),S):=by
 have:n=0∨n=1∨n=2∨n=3∨n=4∨n=5∨n=6:=by omega
 rcases this with rfl | rfl | rfl | rfl | rfl | rfl | rfl
 ·
  exact aeM S
 ·
  exact aeE S
 ·
  exact aer S
 ·
  exact ad9 S
 ·
  exact adY S
 ·
  exact aeo S
 ·
  exact ad6 S
section
variable {l:List UInt8} {k:Nat}
theorem wO.round (hv:Okl k l) (hlen:l.length≤140737488355328) {S:zx}:∀ (suf pre:List UInt8) (h:Int) {T:List Value} {r:St},qR (zL zi O false wO.jS) T S=r→T.length=35 →
  T.getD 5 zh=.int .u64 h→T.getD 18 zh=by_ k l→T.getD 19 zh=.int .i64 l.length→T.getD 20 zh=.int .i64 pre.length→l=pre++suf →
  ∃ T',r=some (.exit 2,T',S)∧T'.length=35∧T'.getD 5 zh=.int .u64 (suf.foldl YQ h)∧T'.getD 12 zh=T.getD 12 zh∧T'.getD 13 zh=T.getD 13 zh∧T'.getD 14 zh=T.getD 14 zh:=by
 intro suf
 induction suf with
 | nil =>
  intro pre h T r hL hT h5 h18 h19 h20 hl
  have hTe:=wO.eta hT
  rw [h5,h18,h19,h20] at hTe
  have hr:zL zi O false wO.jS T S=zL zi O false wO.jS T S:=rfl
  have d1:¬ (pre.length:Int) < (l.length:Int):=by rw [hl];simp
  conv at hr =>
   rhs
   rw [hTe]
   simp only [wO.jS,wO.code,wO.rs,zSs,reduceIte,zk,zn,zo,zq,d1]
  exact ⟨_,hL.symm.trans (wI hr (by simp)),rfl,rfl,rfl,rfl,rfl⟩
 | cons x suf ih =>
  intro pre h T r hL hT h5 h18 h19 h20 hl
  have hTe:=wO.eta hT
  rw [h5,h18,h19,h20] at hTe
  have hr:zL zi O false wO.jS T S=zL zi O false wO.jS T S:=rfl
  have d1:(pre.length:Int) < (l.length:Int):=by rw [hl];simp;omega
  have e1:∀ S,jr zi 33 (by_ k l) (.int .i64 pre.length) S=some (EP [.int .u8 x.toNat],S):=fun S=>by
   rw [agL hv (by omega) d1];rw [abJ hl]
  have wi:IntKind.i64.wrap ((pre.length:Int)+1)=((pre++[x]).length:Int):=by rw [wrap_i64 (by omega) (by omega)];simp
  have em:IntKind.u64.wrap (adK .u64 h (x.toNat:Int) * 1099511628211)=YQ h x:=rfl
  conv at hr =>
   rhs
   rw [hTe]
   simp only [wO.jS,wO.code,wO.rs,zSs,reduceIte,zk,zn,zo,zq,d1,e1,Wv,Zh,abG,WX,YV,em,wi]
  obtain ⟨T',q1,q2,q3,q4,q5,q6⟩:=ih (pre++[x]) (YQ h x) ((yH hr).symm.trans hL) rfl rfl rfl rfl rfl (by simp [hl])
  exact ⟨T',q1,q2,q3,q4,q5,q6⟩
theorem QY (S:zx):jU zi 29 1 [(0,by_ 1 l)] S=some (sv 2 1 1 [by_ 1 l],S):=by kernel_rfl
theorem ahV (i:Int) (hi:i=0) (S:zx):jr zi 29 (sv 1 1 1 [by_ 1 l]) (.int .i64 i) S=some (EP [by_ 1 l],S):=by subst hi;exact YE ab5 afN ⟨by decide,fun h=>by cases h⟩ (by omega) (by omega)
theorem wO.v (hlen:l.length≤140737488355328) {key:Int} (S:zx):jd zi O wO.id [.int .u64 key,sv 1 1 1 [by_ 1 l]] S=some (.int .u64 (Yd key l),S):=by
 obtain ⟨T,hTe⟩:∃ T,T=(.int .u64 key::sv 1 1 1 [by_ 1 l]::zh::zh::zh::zh::zh::zh::zh::zh::zh::zh::zh::zh::zh::zh::zh::zh::zh::zh::zh::zh::zh::zh::zh::zh::zh::zh::zh::zh::zh::zh::zh::zh::zh::[]):=⟨_,rfl⟩
 have hr:zL zi O false wO.code T S=zL zi O false wO.code T S:=rfl
 have ln:∀ S,ZY zi 29 (sv 1 1 1 [by_ 1 l]) S=some (.int .i64 1,S):=fun S=>by kernel_rfl
 have lb:∀ S,ZY zi 33 (by_ 1 l) S=some (.int .i64 l.length,S):=fun S=>Zv Okl.read
 conv at hr =>
  rhs
  rw [hTe]
  simp only [wO.code,wO.rs,zSs,reduceIte,zk,zn,zo,zq,WX,ln]
 generalize hL:qR (zL zi O false wO.Za) _ _=r at hr
 have key1:∃ T',r=some (.exit 0,T',S)∧T'.length=35∧T'.getD 5 zh=.int .u64 (l.foldl YQ (adK .u64 key 14695981039346656037)):=by
  generalize hT0:(_::_:List Value)=T0 at hL
  have hT0':T0.length=35:=by rw [← hT0];rfl
  have g5:T0.getD 5 zh=.int .u64 (adK .u64 key 14695981039346656037):=by rw [← hT0];rfl
  have g12:T0.getD 12 zh=sv 1 1 1 [by_ 1 l]:=by rw [← hT0];rfl
  have g13:T0.getD 13 zh=.int .i64 1:=by rw [← hT0];rfl
  have g14:T0.getD 14 zh=.int .i64 0:=by rw [← hT0];rfl
  have hTe:=wO.eta hT0'
  rw [g5,g12,g13,g14] at hTe
  have hr:zL zi O false wO.Za T0 S=zL zi O false wO.Za T0 S:=rfl
  have z1:(0:Int) < 1:=by omega
  conv at hr =>
   rhs
   rw [hTe]
   simp only [wO.Za,wO.code,wO.rs,zSs,reduceIte,zk,zn,zo,zq,z1,ahV 0 rfl,Xo agu,lb]
  generalize hL1:qR (zL zi O false wO.jS) _ _=r1 at hr
  obtain ⟨T1,rfl,q1,q2,q3,q4,q5⟩:=wO.round (Okl.read (l:=l)) hlen l [] _ hL1 rfl rfl rfl rfl rfl rfl
  have q3:T1.getD 12 zh=sv 1 1 1 [by_ 1 l]:=q3
  have q4:T1.getD 13 zh=.int .i64 1:=q4
  have q5:T1.getD 14 zh=.int .i64 0:=q5
  have hT1:=wO.eta q1
  rw [q2,q3,q4,q5] at hT1
  have w1:IntKind.i64.wrap (0+1)=1:=by decide
  conv at hr =>
   rhs
   rw [hT1]
   simp only [wO.code,wO.rs,zSs,reduceIte,zk,zn,zo,zq,w1]
  have hL2:=(yH hr).symm.trans hL
  generalize hT2:(_::_:List Value)=T2 at hL2
  have hT2':T2.length=35:=by rw [← hT2];rfl
  have f5:T2.getD 5 zh=.int .u64 (l.foldl YQ (adK .u64 key 14695981039346656037)):=by rw [← hT2];rfl
  have f13:T2.getD 13 zh=.int .i64 1:=by rw [← hT2];rfl
  have f14:T2.getD 14 zh=.int .i64 1:=by rw [← hT2];rfl
  have hTe2:=wO.eta hT2'
  rw [f5,f13,f14] at hTe2
  have hr2:zL zi O false wO.Za T2 S=zL zi O false wO.Za T2 S:=rfl
  have z2:¬ (1:Int) < 1:=by omega
  conv at hr2 =>
   rhs
   rw [hTe2]
   simp only [wO.Za,wO.code,wO.rs,zSs,reduceIte,zk,zn,zo,zq,z2]
  exact ⟨_,hL2.symm.trans (wI hr2 (by simp)),rfl,rfl⟩
 obtain ⟨T',rfl,g1,g2⟩:=key1
 have hT':=wO.eta g1
 rw [g2] at hT'
 conv at hr =>
  rhs
  rw [hT']
  simp only [wO.code,wO.rs,zSs,reduceIte,zk,zn,zo,zq,WX,adH _ _ _ _ (show (0:Int)≤29 by omega)]
 rw [hTe] at hr
 exact wO.runs hr (.inr rfl)
theorem qE.v (hv:Okl k l) (k1:k=1) (hlen:l.length≤140737488355328) {key mark:Int} (S:zx):jd zi O qE.id [.int .u64 key,.int .u64 mark,by_ k l] S=some (.bool (decide (Yd key l=mark)),S):=by
 subst k1
 obtain ⟨T,hTe⟩:∃ T,T=(.int .u64 key::.int .u64 mark::by_ 1 l::zh::zh::zh::zh::zh::zh::zh::zh::zh::zh::[]):=⟨_,rfl⟩
 have hr:zL zi O false qE.code T S=zL zi O false qE.code T S:=rfl
 have c1:=fun S=>wO.v hlen (key:=key) S
 have z:¬ (1:Nat)=2:=by decide
 conv at hr =>
  rhs
  rw [hTe]
  simp only [qE.code,qE.rs,zSs,reduceIte,zk,zn,zo,zq,if_neg z,QY,c1]
 rw [hTe] at hr
 exact qE.runs hr (.inr rfl)
theorem mref (h:Int):IntKind.u64.wrap (IntKind.u64.wrap (IntKind.u64.wrap (h * 2 ^ (min (Int.toNat 40) (IntKind.bits .u64)))+IntKind.u64.wrap (h * 2 ^ (min (Int.toNat 8) (IntKind.bits .u64))))+IntKind.u64.wrap (h * 179))=IntKind.u64.wrap (h * 1099511628211):=by
 have e1:(2:Int) ^ (min (Int.toNat 40) (IntKind.bits .u64))=1099511627776:=by decide
 have e2:(2:Int) ^ (min (Int.toNat 8) (IntKind.bits .u64))=256:=by decide
 rw [e1,e2]
 simp only [QV]
 omega
theorem ahS {h:Int} (h0:0≤h) (h1:h < 18446744073709551616):adK .u64 h (IntKind.u64.wrap (h.tdiv 536870912))=alk h:=by
 unfold alk
 congr 1
 have e1:(2:Int) ^ (min (Int.toNat 29) (IntKind.bits .u64))=536870912:=by decide
 rw [e1,QV,Int.tdiv_eq_ediv_of_nonneg h0,Int.fdiv_eq_ediv_of_nonneg _ (by omega)]
 omega
theorem agj:∀ (l:List UInt8) (h:Int),0≤h→h < 18446744073709551616→0≤l.foldl YQ h∧l.foldl YQ h < 18446744073709551616
 | [],h,h0,h1=>⟨h0,h1⟩
 | x::l,h,h0,h1=>by
  have:=ahM h x
  exact agj l _ this.1 this.2
theorem je.round (hv:Okl k l) (hk:k≠2) (hlen:l.length≤140737488355328) {S:zx}:∀ (suf pre:List UInt8) (h:Int) {T:List Value} {r:St},qR (zL zi O false je.jS) T S=r→T.length=34 →
  T.getD 1 zh=by_ k l→T.getD 5 zh=.int .u64 h→T.getD 6 zh=.int .i64 pre.length→l=pre++suf →
  ∃ T',r=some (.exit 0,T',S)∧T'.length=34∧T'.getD 5 zh=.int .u64 (suf.foldl YQ h):=by
 intro suf
 induction suf with
 | nil =>
  intro pre h T r hL hT h1 h5 h6 hl
  have hTe:=je.eta hT
  rw [h1,h5,h6] at hTe
  have hr:zL zi O false je.jS T S=zL zi O false je.jS T S:=rfl
  have d1:¬ (pre.length:Int) < (l.length:Int):=by rw [hl];simp
  conv at hr =>
   rhs
   rw [hTe]
   simp only [je.jS,je.code,je.rs,zSs,reduceIte,zk,zn,zo,zq,if_neg hk,Zv hv,goInt,d1]
  exact ⟨_,hL.symm.trans (wI hr (by simp)),rfl,rfl⟩
 | cons x suf ih =>
  intro pre h T r hL hT h1 h5 h6 hl
  have hTe:=je.eta hT
  rw [h1,h5,h6] at hTe
  have hr:zL zi O false je.jS T S=zL zi O false je.jS T S:=rfl
  have d1:(pre.length:Int) < (l.length:Int):=by rw [hl];simp;omega
  have e1:∀ S,jr zi 33 (by_ k l) (.int .i64 pre.length) S=some (EP [.int .u8 x.toNat],S):=fun S=>by
   rw [agL hv (by omega) d1];rw [abJ hl]
  have wi:IntKind.i64.wrap ((pre.length:Int)+1)=((pre++[x]).length:Int):=by rw [wrap_i64 (by omega) (by omega)];simp
  have em:IntKind.u64.wrap (adK .u64 h (x.toNat:Int) * 1099511628211)=YQ h x:=rfl
  conv at hr =>
   rhs
   rw [hTe]
   simp only [je.jS,je.code,je.rs,zSs,reduceIte,zk,zn,zo,zq,if_neg hk,Zv hv,goInt,d1,e1,Wv,Zh,abG,WX,YV,aaA _ _ _ _ (show (0:Int)≤40 by omega),aaA _ _ _ _ (show (0:Int)≤8 by omega),mref,em,wi]
  obtain ⟨T',q1,q2,q3⟩:=ih (pre++[x]) (YQ h x) ((yH hr).symm.trans hL) rfl rfl rfl rfl (by simp [hl])
  exact ⟨T',q1,q2,q3⟩
theorem je.v (hv:Okl k l) (hk:k≠2) (hlen:l.length≤140737488355328) {key:Int} (S:zx):jd zi O je.id [.int .u64 key,by_ k l] S=some (.int .u64 (Yd key l),S):=by
 obtain ⟨T,hTe⟩:∃ T,T=(.int .u64 key::by_ k l::zh::zh::zh::zh::zh::zh::zh::zh::zh::zh::zh::zh::zh::zh::zh::zh::zh::zh::zh::zh::zh::zh::zh::zh::zh::zh::zh::zh::zh::zh::zh::zh::[]):=⟨_,rfl⟩
 have hr:zL zi O false je.code T S=zL zi O false je.code T S:=rfl
 conv at hr =>
  rhs
  rw [hTe]
  simp only [je.code,je.rs,zSs,reduceIte,zk,zn,zo,zq,WX]
 generalize hL:qR (zL zi O false je.jS) _ _=r at hr
 obtain ⟨T',rfl,g1,g2⟩:=je.round hv hk hlen l [] _ hL rfl rfl rfl rfl rfl
 have hT':=je.eta g1
 rw [g2] at hT'
 have hx:=ac0 key 14695981039346656037
 have hi:=agj l _ hx.1 hx.2
 have em:=ahS hi.1 hi.2
 conv at hr =>
  rhs
  rw [hT']
  simp only [je.code,je.rs,zSs,reduceIte,zk,zn,zo,zq,vC _ _ _ (show (536870912:Int)≠0 by omega),WX,em]
 rw [hTe] at hr
 exact je.runs hr (.inr rfl)
end
end Go.Proofs.Ytfjogganfjkckaa
namespace Go.Proofs.Ytfjogganfjkckaa
open Go.Abs
abbrev jO.id:FuncId:=57
noncomputable def jO.code:Code:=(.seq (.region 0 (reg Try.f57 0) false) (.seq (.region 1 (reg Try.f57 1) false) (.seq (.seq (.region 2 (reg Try.f57 2) false) (.cond (.tmp 16) (.seq (.region 3 (reg Try.f57 3) false) Code.ret) Code.skip)) (.seq (.region 4 (reg Try.f57 4) false) (.seq (.region 5 (reg Try.f57 5) true) (.seq (.seq (.region 6 (reg Try.f57 6) false) (.cond (.tmp 43) (.seq (.region 7 (reg Try.f57 7) false) Code.ret) Code.skip)) (.seq (.region 8 (reg Try.f57 8) false) Code.ret)))))))
theorem jO.body:Try.f57.body=some jO.code:=by kernel_rfl
variable (U x1 X x3 a Y V W Z x9 c d f g i k l m n o p q r s t u w x y z A B C D E F G H I J K L M N P Q:Value) (S:zx)
theorem jO.r0 :jF zi ⟨false,false,false⟩ (jd zi O) (reg Try.f57 0) (reg Try.f57 0).toList ([U,x1,X,x3,a,Y,V,W,Z,x9,c,d,f,g,i,k,l,m,n,o,p,q,r,s,t,u,w,x,y,z,A,B,C,D,E,F,G,H,I,J,K,L,M,N,P,Q]) S =
  (zN (yR zi 46 S) (fun v0 R=>some ([U,x1,v0,.int .i64 0,a,Y,V,W,Z,x9,c,d,f,g,i,k,l,m,n,o,p,q,r,s,t,u,w,x,y,z,A,B,C,D,E,F,G,H,I,J,K,L,M,N,P,Q],R)) ()):=by
 kernel_rfl
theorem jO.r1 :jF zi ⟨false,false,false⟩ (jd zi O) (reg Try.f57 1) (reg Try.f57 1).toList ([U,x1,X,x3,a,Y,V,W,Z,x9,c,d,f,g,i,k,l,m,n,o,p,q,r,s,t,u,w,x,y,z,A,B,C,D,E,F,G,H,I,J,K,L,M,N,P,Q]) S =
  (zN ((jd zi O) 55 [(dem (dem U)),(.int .i64 4)] S) (fun b R=>zN (zZ b 0 R) (fun v3 S2=>zN (zZ (zV 0 b) 1 S2) (fun v4 S3=>zN (zZ (zV 1 (zV 0 b)) 2 S3) (fun v5 S4=>some ([U,x1,X,x3,v3,v4,v5,W,Z,zV 2 (zV 1 (zV 0 b)),dem U,dem b,dem v3,dem v4,dem v5,k,l,m,n,o,p,q,r,s,t,u,w,x,y,z,A,B,C,D,E,F,G,H,I,J,K,L,M,N,P,Q],S4)) ()) ()) ()) ()):=by
 kernel_rfl
theorem jO.r2 :jF zi ⟨false,false,false⟩ (jd zi O) (reg Try.f57 2) (reg Try.f57 2).toList ([U,x1,X,x3,a,Y,V,W,Z,x9,c,d,f,g,i,k,l,m,n,o,p,q,r,s,t,u,w,x,y,z,A,B,C,D,E,F,G,H,I,J,K,L,M,N,P,Q]) S =
  (zN (wH zi BinOp.neq 64 (dem V) (.int .i64 0) S) (fun b R=>some ([U,x1,X,x3,a,Y,V,W,Z,x9,c,d,f,g,i,dem V,b,m,n,o,p,q,r,s,t,u,w,x,y,z,A,B,C,D,E,F,G,H,I,J,K,L,M,N,P,Q],R)) ()):=by
 kernel_rfl
theorem jO.r3 :jF zi ⟨false,false,false⟩ (jd zi O) (reg Try.f57 3) (reg Try.f57 3).toList ([U,x1,X,x3,a,Y,V,W,Z,x9,c,d,f,g,i,k,l,m,n,o,p,q,r,s,t,u,w,x,y,z,A,B,C,D,E,F,G,H,I,J,K,L,M,N,P,Q]) S =
  (zN (yw zi 46 [] S) (fun v0 R=>zN (wS zi 46 X (dem v0) R) (fun b S2=>some ([U,x1,X,.int .i64 71,a,Y,V,W,Z,x9,c,d,f,g,i,k,l,v0,n,o,p,q,r,s,t,u,w,x,y,z,A,B,C,D,E,F,G,H,I,J,K,L,M,N,P,Q],S2)) ()) ()):=by
 kernel_rfl
theorem jO.r4 :jF zi ⟨false,false,false⟩ (jd zi O) (reg Try.f57 4) (reg Try.f57 4).toList ([U,x1,X,x3,a,Y,V,W,Z,x9,c,d,f,g,i,k,l,m,n,o,p,q,r,s,t,u,w,x,y,z,A,B,C,D,E,F,G,H,I,J,K,L,M,N,P,Q]) S =
  (zN ((jd zi O) 65 [(dem (dem Y))] S) (fun b R=>zN (zZ b 0 R) (fun v3 S2=>zN (zZ (zV 0 b) 1 S2) (fun v4 S3=>some ([U,x1,X,x3,a,Y,v4,v3,Z,x9,c,d,f,g,i,k,l,m,zV 1 (zV 0 b),dem Y,dem b,dem v3,dem v4,s,t,u,w,x,y,z,A,B,C,D,E,F,G,H,I,J,K,L,M,N,P,Q],S3)) ()) ()) ()):=by
 kernel_rfl
theorem jO.d5:kC zi (reg Try.f57 5)=true:=by kernel_rfl
theorem jO.ff5:fixed zi (reg Try.f57 5)=false:=by kernel_rfl
theorem jO.k5:checked zi (reg Try.f57 5)=[0,1,2,3,4,5,6,7,8,9,10,11,12,13]:=by kernel_rfl
theorem jO.g5:again zi (reg Try.f57 5)=[(2,14),(5,14),(8,14),(11,14)]:=by kernel_rfl
theorem jO.r5 :zL zi O false (.region 5 (reg Try.f57 5) true) ([U,x1,X,x3,a,Y,V,W,Z,x9,c,d,f,g,i,k,l,m,n,o,p,q,r,s,t,u,w,x,y,z,A,B,C,D,E,F,G,H,I,J,K,L,M,N,P,Q]) S =
  Z8 (okK a ( zN (jr zi 24 (dem a) (.int .i64 0) S) (fun b R=>okK b ( zN (jl zi false 3 b R) (fun v2 S2=>okK v2 ( okK a ( zN (jr zi 24 (dem a) (.int .i64 1) S2) (fun v4 S3=>okK v4 ( zN (jl zi false 3 v4 S3) (fun v5 S4=>okK v5 ( okK a ( zN (jr zi 24 (dem a) (.int .i64 2) S4) (fun v7 S5=>okK v7 ( zN (jl zi false 3 v7 S5) (fun v8 S6=>okK v8 ( okK a ( zN (jr zi 24 (dem a) (.int .i64 3) S6) (fun a0 S7=>okK a0 ( zN (jl zi false 3 a0 S7) (fun a2 S8=>okK a2 ( okK W ( zN (yw zi 46 [(0,(dem v2)),(1,(dem v5)),(2,(dem v8)),(3,(dem a2)),(4,(dem (dem W)))] S8) (fun a3 S9=>okK a3 ( zN (yR zi 46 S9) (fun a4 a1=>zN (wS zi 46 a4 (dem a3) a1) (fun a6 a5=>ckK (qV b R a1 && (qV v4 S3 a1 && (qV v7 S5 a1 && (qV a0 S7 a1 && (true))))) (some ([U,x1,X,x3,a,Y,V,W,a4,x9,c,d,f,g,i,k,l,m,n,o,p,q,r,dem a,b,v2,dem a,v4,v5,dem a,v7,v8,dem a,a0,a2,dem W,a3,H,I,J,K,L,M,N,P,Q],a5)) ()) ()) ()) ()) ()) ()) ()) ()) ()) ()) ()) ()) ()) ()) ()) ()) ()) ()) ()) ()) ()) ()) ()) ()) ()) ()):=by
 rw [yM jO.d5 jO.ff5 jO.k5 jO.g5]
 refine congrArg Z8 ?_
 refine uPC Try.f57 5 0 (v:=a) (pe:=zh) ?_
 refine uDC Try.f57 5 1 (pe:=zh) (fun b R=>?_)
 refine uDC Try.f57 5 2 (pe:=b) (fun v2 S2=>?_)
 refine uPC Try.f57 5 3 (v:=a) (pe:=zh) ?_
 refine uDC Try.f57 5 4 (pe:=zh) (fun v4 S3=>?_)
 refine uDC Try.f57 5 5 (pe:=v4) (fun v5 S4=>?_)
 refine uPC Try.f57 5 6 (v:=a) (pe:=zh) ?_
 refine uDC Try.f57 5 7 (pe:=zh) (fun v7 S5=>?_)
 refine uDC Try.f57 5 8 (pe:=v7) (fun v8 S6=>?_)
 refine uPC Try.f57 5 9 (v:=a) (pe:=zh) ?_
 refine uDC Try.f57 5 10 (pe:=zh) (fun a0 S7=>?_)
 refine uDC Try.f57 5 11 (pe:=a0) (fun a2 S8=>?_)
 refine uPC Try.f57 5 12 (v:=W) (pe:=zh) ?_
 refine uDC Try.f57 5 13 (pe:=zh) (fun a3 S9=>?_)
 refine uD Try.f57 5 14 (pe:=zh) (fun a4 a1=>?_)
 refine uD Try.f57 5 15 (pe:=zh) (fun a6 a5=>?_)
 kernel_rfl
theorem jO.r6 :jF zi ⟨false,false,false⟩ (jd zi O) (reg Try.f57 6) (reg Try.f57 6).toList ([U,x1,X,x3,a,Y,V,W,Z,x9,c,d,f,g,i,k,l,m,n,o,p,q,r,s,t,u,w,x,y,z,A,B,C,D,E,F,G,H,I,J,K,L,M,N,P,Q]) S =
  (zN (wH zi BinOp.neq 64 (dem V) (.int .i64 0) S) (fun b R=>gdK (dem b) false (jl zi false 46 Z) R (fun v3 S2=>gdK (dem b) false ((jd zi O) 45 [(dem v3)]) S2 (fun v4 S3=>gdK (dem b) false (aUn zi UnOp.not v4) S3 (fun v5 S4=>zN (wW (dem b) (Value.bool true) v5 S4) (fun v6 S5=>some ([U,x1,X,x3,a,Y,V,W,Z,x9,c,d,f,g,i,k,l,m,n,o,p,q,r,s,t,u,w,x,y,z,A,B,C,D,E,F,G,dem V,b,dem b,v3,v4,v5,v6,P,Q],S5)) ()) ()) ()) ()) ()):=by
 refine sP Try.f57 6 0 (v:=V) ?_
 refine sD Try.f57 6 1 (fun b R=>?_)
 refine sP Try.f57 6 2 (v:=b) ?_
 refine sG Try.f57 6 3 (j:=2) (fun v3 S2=>?_)
 refine sG Try.f57 6 4 (j:=2) (fun v4 S3=>?_)
 refine sG Try.f57 6 5 (j:=2) (fun v5 S4=>?_)
 refine sD Try.f57 6 6 (fun v6 S5=>?_)
 kernel_rfl
theorem jO.r7 :jF zi ⟨false,false,false⟩ (jd zi O) (reg Try.f57 7) (reg Try.f57 7).toList ([U,x1,X,x3,a,Y,V,W,Z,x9,c,d,f,g,i,k,l,m,n,o,p,q,r,s,t,u,w,x,y,z,A,B,C,D,E,F,G,H,I,J,K,L,M,N,P,Q]) S =
  (zN (yw zi 46 [] S) (fun v0 R=>zN (wS zi 46 X (dem v0) R) (fun b S2=>some ([U,x1,X,.int .i64 71,a,Y,V,W,Z,x9,c,d,f,g,i,k,l,m,n,o,p,q,r,s,t,u,w,x,y,z,A,B,C,D,E,F,G,H,I,J,K,L,M,N,v0,Q],S2)) ()) ()):=by
 kernel_rfl
theorem jO.r8 :jF zi ⟨false,false,false⟩ (jd zi O) (reg Try.f57 8) (reg Try.f57 8).toList ([U,x1,X,x3,a,Y,V,W,Z,x9,c,d,f,g,i,k,l,m,n,o,p,q,r,s,t,u,w,x,y,z,A,B,C,D,E,F,G,H,I,J,K,L,M,N,P,Q]) S =
  (zN (jl zi false 46 Z S) (fun v0 R=>zN (wS zi 46 X (dem v0) R) (fun b S2=>some ([U,x1,X,.int .i64 0,a,Y,V,W,Z,x9,c,d,f,g,i,k,l,m,n,o,p,q,r,s,t,u,w,x,y,z,A,B,C,D,E,F,G,H,I,J,K,L,M,N,P,v0],S2)) ()) ()):=by
 kernel_rfl
theorem jO.rs:type_of% (alY @jO.r0 (alY @jO.r1 (alY @jO.r2 (alY @jO.r3 (alY @jO.r4 (alY @jO.r5 (alY @jO.r6 (alY @jO.r7 (@jO.r8))))))))):=alY @jO.r0 (alY @jO.r1 (alY @jO.r2 (alY @jO.r3 (alY @jO.r4 (alY @jO.r5 (alY @jO.r6 (alY @jO.r7 (@jO.r8))))))))
theorem jO.runs {U:Value} {S R:zx} {e:AEx} {T:List Value} (h:zL zi O false jO.code ([U,zh,zh,zh,zh,zh,zh,zh,zh,zh,zh,zh,zh,zh,zh,zh,zh,zh,zh,zh,zh,zh,zh,zh,zh,zh,zh,zh,zh,zh,zh,zh,zh,zh,zh,zh,zh,zh,zh,zh,zh,zh,zh,zh,zh,zh]) zx.empty=some (e,T,R)) (he:e=.normal∨e=.ret) {w0:Value} (c0:jl zi false 46 (T.getD 2 zh) R=some (w0,R)) (h0:wE (w0)=true) (h1:wE (T.getD 3 zh)=true) (hca:[U].all (jL 16)=true) (hcv:jL 16 (Value.tuple #[w0,T.getD 3 zh])=true):jd zi O 57 [U] S=some (Value.tuple #[w0,T.getD 3 zh],S) :=
 yD rfl rfl Try.func57 (by decide) jO.body (by exact h) he ((qj ((show zQ zi T R Try.f57.results.toList=zQ zi T R [(ResultVar.cell 2 46),(ResultVar.tmp 3)] from by kernel_rfl).trans (by simp only [zQ,c0])) (by kernel_rfl) (by simp only [List.all_cons,List.all_nil,h0,h1,Bool.and_true])).trans rfl) hca hcv
end Go.Proofs.Ytfjogganfjkckaa
namespace Go.Proofs.Ytfjogganfjkckaa
open Go.Abs
abbrev zU.id:FuncId:=31
noncomputable def zU.code:Code:=(.seq (.region 0 (reg Try.f31 0) false) (.seq (.region 1 (reg Try.f31 1) false) (.seq (.seq (.region 2 (reg Try.f31 2) false) (.cond (.tmp 17) (.seq (.region 3 (reg Try.f31 3) false) Code.ret) Code.skip)) (.seq (.region 4 (reg Try.f31 4) false) (.seq (.region 5 (reg Try.f31 5) true) (.seq (.seq (.region 6 (reg Try.f31 6) false) (.cond (.tmp 44) (.seq (.region 7 (reg Try.f31 7) false) Code.ret) Code.skip)) (.seq (.region 8 (reg Try.f31 8) false) Code.ret)))))))
theorem zU.body:Try.f31.body=some zU.code:=by kernel_rfl
variable (V x1 X x3 a Z x6 W Y x9 c d f g i k l m n o p q r s t u w x y z A B C D E F G H I J K L M N P Q R:Value) (S:zx)
theorem zU.r0 :jF zi ⟨false,false,false⟩ (jd zi O) (reg Try.f31 0) (reg Try.f31 0).toList ([V,x1,X,x3,a,Z,x6,W,Y,x9,c,d,f,g,i,k,l,m,n,o,p,q,r,s,t,u,w,x,y,z,A,B,C,D,E,F,G,H,I,J,K,L,M,N,P,Q,R]) S =
  (zN (yR zi 46 S) (fun v0 U=>some ([V,x1,v0,.int .i64 0,a,Z,x6,W,Y,x9,c,d,f,g,i,k,l,m,n,o,p,q,r,s,t,u,w,x,y,z,A,B,C,D,E,F,G,H,I,J,K,L,M,N,P,Q,R],U)) ()):=by
 kernel_rfl
theorem zU.r1 :jF zi ⟨false,false,false⟩ (jd zi O) (reg Try.f31 1) (reg Try.f31 1).toList ([V,x1,X,x3,a,Z,x6,W,Y,x9,c,d,f,g,i,k,l,m,n,o,p,q,r,s,t,u,w,x,y,z,A,B,C,D,E,F,G,H,I,J,K,L,M,N,P,Q,R]) S =
  (zN ((jd zi O) 29 [(dem (dem V)),(.int .i64 4)] S) (fun b U=>zN (zZ b 0 U) (fun v3 S2=>zN (zZ (zV 0 b) 1 S2) (fun v4 S3=>zN (zZ (zV 1 (zV 0 b)) 2 S3) (fun v5 S4=>some ([V,x1,X,x3,v3,v4,v5,W,Y,x9,zV 2 (zV 1 (zV 0 b)),dem V,dem b,dem v3,dem v4,dem v5,l,m,n,o,p,q,r,s,t,u,w,x,y,z,A,B,C,D,E,F,G,H,I,J,K,L,M,N,P,Q,R],S4)) ()) ()) ()) ()):=by
 kernel_rfl
theorem zU.r2 :jF zi ⟨false,false,false⟩ (jd zi O) (reg Try.f31 2) (reg Try.f31 2).toList ([V,x1,X,x3,a,Z,x6,W,Y,x9,c,d,f,g,i,k,l,m,n,o,p,q,r,s,t,u,w,x,y,z,A,B,C,D,E,F,G,H,I,J,K,L,M,N,P,Q,R]) S =
  (zN (wH zi BinOp.neq 3 (dem x6) (.int .i64 0) S) (fun b U=>some ([V,x1,X,x3,a,Z,x6,W,Y,x9,c,d,f,g,i,k,dem x6,b,n,o,p,q,r,s,t,u,w,x,y,z,A,B,C,D,E,F,G,H,I,J,K,L,M,N,P,Q,R],U)) ()):=by
 kernel_rfl
theorem zU.r3 :jF zi ⟨false,false,false⟩ (jd zi O) (reg Try.f31 3) (reg Try.f31 3).toList ([V,x1,X,x3,a,Z,x6,W,Y,x9,c,d,f,g,i,k,l,m,n,o,p,q,r,s,t,u,w,x,y,z,A,B,C,D,E,F,G,H,I,J,K,L,M,N,P,Q,R]) S =
  (zN (yw zi 46 [] S) (fun v0 U=>zN (wS zi 46 X (dem v0) U) (fun b S2=>some ([V,x1,X,.int .i64 71,a,Z,x6,W,Y,x9,c,d,f,g,i,k,l,m,v0,o,p,q,r,s,t,u,w,x,y,z,A,B,C,D,E,F,G,H,I,J,K,L,M,N,P,Q,R],S2)) ()) ()):=by
 kernel_rfl
theorem zU.r4 :jF zi ⟨false,false,false⟩ (jd zi O) (reg Try.f31 4) (reg Try.f31 4).toList ([V,x1,X,x3,a,Z,x6,W,Y,x9,c,d,f,g,i,k,l,m,n,o,p,q,r,s,t,u,w,x,y,z,A,B,C,D,E,F,G,H,I,J,K,L,M,N,P,Q,R]) S =
  (zN ((jd zi O) 49 [(dem (dem Z))] S) (fun b U=>zN (zZ b 0 U) (fun v3 S2=>zN (zZ (zV 0 b) 1 S2) (fun v4 S3=>some ([V,x1,X,x3,a,Z,x6,v3,v4,x9,c,d,f,g,i,k,l,m,n,zV 1 (zV 0 b),dem Z,dem b,dem v3,dem v4,t,u,w,x,y,z,A,B,C,D,E,F,G,H,I,J,K,L,M,N,P,Q,R],S3)) ()) ()) ()):=by
 kernel_rfl
theorem zU.d5:kC zi (reg Try.f31 5)=true:=by kernel_rfl
theorem zU.ff5:fixed zi (reg Try.f31 5)=false:=by kernel_rfl
theorem zU.k5:checked zi (reg Try.f31 5)=[0,1,2,3,4,5,6,7,8,9,10,11,12,13]:=by kernel_rfl
theorem zU.g5:again zi (reg Try.f31 5)=[(2,14),(5,14),(8,14),(11,14)]:=by kernel_rfl
theorem zU.r5 :zL zi O false (.region 5 (reg Try.f31 5) true) ([V,x1,X,x3,a,Z,x6,W,Y,x9,c,d,f,g,i,k,l,m,n,o,p,q,r,s,t,u,w,x,y,z,A,B,C,D,E,F,G,H,I,J,K,L,M,N,P,Q,R]) S =
  Z8 (okK a ( zN (jr zi 24 (dem a) (.int .i64 0) S) (fun b U=>okK b ( zN (jl zi false 3 b U) (fun v2 S2=>okK v2 ( okK a ( zN (jr zi 24 (dem a) (.int .i64 1) S2) (fun v4 S3=>okK v4 ( zN (jl zi false 3 v4 S3) (fun v5 S4=>okK v5 ( okK a ( zN (jr zi 24 (dem a) (.int .i64 2) S4) (fun v7 S5=>okK v7 ( zN (jl zi false 3 v7 S5) (fun v8 S6=>okK v8 ( okK a ( zN (jr zi 24 (dem a) (.int .i64 3) S6) (fun a0 S7=>okK a0 ( zN (jl zi false 3 a0 S7) (fun a2 S8=>okK a2 ( okK W ( zN (yw zi 46 [(0,(dem v2)),(1,(dem v5)),(2,(dem v8)),(3,(dem a2)),(4,(dem (dem W)))] S8) (fun a3 S9=>okK a3 ( zN (yR zi 46 S9) (fun a4 a1=>zN (wS zi 46 a4 (dem a3) a1) (fun a6 a5=>ckK (qV b U a1 && (qV v4 S3 a1 && (qV v7 S5 a1 && (qV a0 S7 a1 && (true))))) (some ([V,x1,X,x3,a,Z,x6,W,Y,a4,c,d,f,g,i,k,l,m,n,o,p,q,r,s,dem a,b,v2,dem a,v4,v5,dem a,v7,v8,dem a,a0,a2,dem W,a3,I,J,K,L,M,N,P,Q,R],a5)) ()) ()) ()) ()) ()) ()) ()) ()) ()) ()) ()) ()) ()) ()) ()) ()) ()) ()) ()) ()) ()) ()) ()) ()) ()) ()):=by
 rw [yM zU.d5 zU.ff5 zU.k5 zU.g5]
 refine congrArg Z8 ?_
 refine uPC Try.f31 5 0 (v:=a) (pe:=zh) ?_
 refine uDC Try.f31 5 1 (pe:=zh) (fun b U=>?_)
 refine uDC Try.f31 5 2 (pe:=b) (fun v2 S2=>?_)
 refine uPC Try.f31 5 3 (v:=a) (pe:=zh) ?_
 refine uDC Try.f31 5 4 (pe:=zh) (fun v4 S3=>?_)
 refine uDC Try.f31 5 5 (pe:=v4) (fun v5 S4=>?_)
 refine uPC Try.f31 5 6 (v:=a) (pe:=zh) ?_
 refine uDC Try.f31 5 7 (pe:=zh) (fun v7 S5=>?_)
 refine uDC Try.f31 5 8 (pe:=v7) (fun v8 S6=>?_)
 refine uPC Try.f31 5 9 (v:=a) (pe:=zh) ?_
 refine uDC Try.f31 5 10 (pe:=zh) (fun a0 S7=>?_)
 refine uDC Try.f31 5 11 (pe:=a0) (fun a2 S8=>?_)
 refine uPC Try.f31 5 12 (v:=W) (pe:=zh) ?_
 refine uDC Try.f31 5 13 (pe:=zh) (fun a3 S9=>?_)
 refine uD Try.f31 5 14 (pe:=zh) (fun a4 a1=>?_)
 refine uD Try.f31 5 15 (pe:=zh) (fun a6 a5=>?_)
 kernel_rfl
theorem zU.r6 :jF zi ⟨false,false,false⟩ (jd zi O) (reg Try.f31 6) (reg Try.f31 6).toList ([V,x1,X,x3,a,Z,x6,W,Y,x9,c,d,f,g,i,k,l,m,n,o,p,q,r,s,t,u,w,x,y,z,A,B,C,D,E,F,G,H,I,J,K,L,M,N,P,Q,R]) S =
  (zN (wH zi BinOp.neq 3 (dem Y) (.int .i64 0) S) (fun b U=>gdK (dem b) false (jl zi false 46 x9) U (fun v3 S2=>gdK (dem b) false ((jd zi O) 32 [(dem v3)]) S2 (fun v4 S3=>gdK (dem b) false (aUn zi UnOp.not v4) S3 (fun v5 S4=>zN (wW (dem b) (Value.bool true) v5 S4) (fun v6 S5=>some ([V,x1,X,x3,a,Z,x6,W,Y,x9,c,d,f,g,i,k,l,m,n,o,p,q,r,s,t,u,w,x,y,z,A,B,C,D,E,F,G,H,dem Y,b,dem b,v3,v4,v5,v6,Q,R],S5)) ()) ()) ()) ()) ()):=by
 refine sP Try.f31 6 0 (v:=Y) ?_
 refine sD Try.f31 6 1 (fun b U=>?_)
 refine sP Try.f31 6 2 (v:=b) ?_
 refine sG Try.f31 6 3 (j:=2) (fun v3 S2=>?_)
 refine sG Try.f31 6 4 (j:=2) (fun v4 S3=>?_)
 refine sG Try.f31 6 5 (j:=2) (fun v5 S4=>?_)
 refine sD Try.f31 6 6 (fun v6 S5=>?_)
 kernel_rfl
theorem zU.r7 :jF zi ⟨false,false,false⟩ (jd zi O) (reg Try.f31 7) (reg Try.f31 7).toList ([V,x1,X,x3,a,Z,x6,W,Y,x9,c,d,f,g,i,k,l,m,n,o,p,q,r,s,t,u,w,x,y,z,A,B,C,D,E,F,G,H,I,J,K,L,M,N,P,Q,R]) S =
  (zN (yw zi 46 [] S) (fun v0 U=>zN (wS zi 46 X (dem v0) U) (fun b S2=>some ([V,x1,X,.int .i64 71,a,Z,x6,W,Y,x9,c,d,f,g,i,k,l,m,n,o,p,q,r,s,t,u,w,x,y,z,A,B,C,D,E,F,G,H,I,J,K,L,M,N,P,v0,R],S2)) ()) ()):=by
 kernel_rfl
theorem zU.r8 :jF zi ⟨false,false,false⟩ (jd zi O) (reg Try.f31 8) (reg Try.f31 8).toList ([V,x1,X,x3,a,Z,x6,W,Y,x9,c,d,f,g,i,k,l,m,n,o,p,q,r,s,t,u,w,x,y,z,A,B,C,D,E,F,G,H,I,J,K,L,M,N,P,Q,R]) S =
  (zN (jl zi false 46 x9 S) (fun v0 U=>zN (wS zi 46 X (dem v0) U) (fun b S2=>some ([V,x1,X,.int .i64 0,a,Z,x6,W,Y,x9,c,d,f,g,i,k,l,m,n,o,p,q,r,s,t,u,w,x,y,z,A,B,C,D,E,F,G,H,I,J,K,L,M,N,P,Q,v0],S2)) ()) ()):=by
 kernel_rfl
theorem zU.rs:type_of% (alY @zU.r0 (alY @zU.r1 (alY @zU.r2 (alY @zU.r3 (alY @zU.r4 (alY @zU.r5 (alY @zU.r6 (alY @zU.r7 (@zU.r8))))))))):=alY @zU.r0 (alY @zU.r1 (alY @zU.r2 (alY @zU.r3 (alY @zU.r4 (alY @zU.r5 (alY @zU.r6 (alY @zU.r7 (@zU.r8))))))))
theorem zU.runs {V:Value} {S U:zx} {e:AEx} {T:List Value} (h:zL zi O false zU.code ([V,zh,zh,zh,zh,zh,zh,zh,zh,zh,zh,zh,zh,zh,zh,zh,zh,zh,zh,zh,zh,zh,zh,zh,zh,zh,zh,zh,zh,zh,zh,zh,zh,zh,zh,zh,zh,zh,zh,zh,zh,zh,zh,zh,zh,zh,zh]) zx.empty=some (e,T,U)) (he:e=.normal∨e=.ret) {w0:Value} (c0:jl zi false 46 (T.getD 2 zh) U=some (w0,U)) (h0:wE (w0)=true) (h1:wE (T.getD 3 zh)=true) (hca:[V].all (jL 16)=true) (hcv:jL 16 (Value.tuple #[w0,T.getD 3 zh])=true):jd zi O 31 [V] S=some (Value.tuple #[w0,T.getD 3 zh],S) :=
 yD rfl rfl Try.func31 (by decide) zU.body (by exact h) he ((qj ((show zQ zi T U Try.f31.results.toList=zQ zi T U [(ResultVar.cell 2 46),(ResultVar.tmp 3)] from by kernel_rfl).trans (by simp only [zQ,c0])) (by kernel_rfl) (by simp only [List.all_cons,List.all_nil,h0,h1,Bool.and_true])).trans rfl) hca hcv
end Go.Proofs.Ytfjogganfjkckaa
namespace Go.Proofs.Ytfjogganfjkckaa
open Go.Abs
abbrev wV.id:FuncId:=73
noncomputable def wV.code:Code:=(.seq (.region 0 (reg Try.f73 0) false) (.seq (.region 1 (reg Try.f73 1) false) Code.ret))
theorem wV.body:Try.f73.body=some wV.code:=by kernel_rfl
variable (g i k l x4 x5 x6 x7 x8 x9 o p q r s t u w x y z A B C D E F G H I J K L M N P Q R:Value) (S:zx)
theorem wV.r0 :jF zi ⟨false,false,false⟩ (jd zi O) (reg Try.f73 0) (reg Try.f73 0).toList ([g,i,k,l,x4,x5,x6,x7,x8,x9,o,p,q,r,s,t,u,w,x,y,z,A,B,C,D,E,F,G,H,I,J,K,L,M,N,P,Q,R]) S =
  (zN (JK (dem g) S) (fun U m=>zN (JK (dem i) m) (fun V S2=>some ([g,i,U,V,Value.bool false,x5,x6,x7,x8,x9,o,p,q,r,s,t,u,w,x,y,z,A,B,C,D,E,F,G,H,I,J,K,L,M,N,P,Q,R],S2)) ()) ()):=by
 kernel_rfl
theorem wV.r1 :jF zi ⟨false,false,false⟩ (jd zi O) (reg Try.f73 1) (reg Try.f73 1).toList ([g,i,k,l,x4,x5,x6,x7,x8,x9,o,p,q,r,s,t,u,w,x,y,z,A,B,C,D,E,F,G,H,I,J,K,L,M,N,P,Q,R]) S =
  (zN (zG zi 46 k 0 S) (fun U m=>zN (jl zi false 3 U m) (fun V S2=>zN (zG zi 46 l 0 S2) (fun v2 S3=>zN (jl zi false 3 v2 S3) (fun v3 S4=>zN (wH zi BinOp.eql 3 V v3 S4) (fun f S5=>gdK (dem f) true (zG zi 46 k 1) S5 (fun v6 S6=>gdK (dem f) true (jl zi false 3 v6) S6 (fun v7 S7=>gdK (dem f) true (zG zi 46 l 1) S7 (fun v8 S8=>gdK (dem f) true (jl zi false 3 v8) S8 (fun v9 S9=>gdK (dem f) true (wH zi BinOp.eql 3 v7 v9) S9 (fun W b2=>zN (wW (dem f) W (Value.bool false) b2) (fun b b3=>gdK (dem b) true (zG zi 46 k 2) b3 (fun X b4=>gdK (dem b) true (jl zi false 3 X) b4 (fun Y b5=>gdK (dem b) true (zG zi 46 l 2) b5 (fun Z b6=>gdK (dem b) true (jl zi false 3 Z) b6 (fun a0 b7=>gdK (dem b) true (wH zi BinOp.eql 3 Y a0) b7 (fun a1 b8=>zN (wW (dem b) a1 (Value.bool false) b8) (fun c b9=>gdK (dem c) true (zG zi 46 k 3) b9 (fun a2 c0=>gdK (dem c) true (jl zi false 3 a2) c0 (fun a3 c1=>gdK (dem c) true (zG zi 46 l 3) c1 (fun a4 c2=>gdK (dem c) true (jl zi false 3 a4) c2 (fun a5 c3=>gdK (dem c) true (wH zi BinOp.eql 3 a3 a5) c3 (fun a6 c4=>zN (wW (dem c) a6 (Value.bool false) c4) (fun d c5=>gdK (dem d) true (zG zi 46 k 4) c5 (fun a7 c6=>gdK (dem d) true (jl zi false 44 a7) c6 (fun a8 c7=>gdK (dem d) true (zG zi 46 l 4) c7 (fun a9 c8=>gdK (dem d) true (jl zi false 44 a9) c8 (fun b0 c9=>gdK (dem d) true ((jd zi O) 75 [(dem a8),(dem b0)]) c9 (fun b1 d0=>zN (wW (dem d) b1 (Value.bool false) d0) (fun n d1=>some ([g,i,k,l,n,U,V,v2,v3,f,dem f,v6,v7,v8,v9,W,b,dem b,X,Y,Z,a0,a1,c,dem c,a2,a3,a4,a5,a6,d,dem d,a7,a8,a9,b0,b1,dem n],d1)) ()) ()) ()) ()) ()) ()) ()) ()) ()) ()) ()) ()) ()) ()) ()) ()) ()) ()) ()) ()) ()) ()) ()) ()) ()) ()) ()) ()) ()):=by
 refine sD Try.f73 1 0 (fun U m=>?_)
 refine sD Try.f73 1 1 (fun V S2=>?_)
 refine sD Try.f73 1 2 (fun v2 S3=>?_)
 refine sD Try.f73 1 3 (fun v3 S4=>?_)
 refine sD Try.f73 1 4 (fun f S5=>?_)
 refine sP Try.f73 1 5 (v:=f) ?_
 refine sG Try.f73 1 6 (j:=5) (fun v6 S6=>?_)
 refine sG Try.f73 1 7 (j:=5) (fun v7 S7=>?_)
 refine sG Try.f73 1 8 (j:=5) (fun v8 S8=>?_)
 refine sG Try.f73 1 9 (j:=5) (fun v9 S9=>?_)
 refine sG Try.f73 1 10 (j:=5) (fun W b2=>?_)
 refine sD Try.f73 1 11 (fun b b3=>?_)
 refine sP Try.f73 1 12 (v:=b) ?_
 refine sG Try.f73 1 13 (j:=12) (fun X b4=>?_)
 refine sG Try.f73 1 14 (j:=12) (fun Y b5=>?_)
 refine sG Try.f73 1 15 (j:=12) (fun Z b6=>?_)
 refine sG Try.f73 1 16 (j:=12) (fun a0 b7=>?_)
 refine sG Try.f73 1 17 (j:=12) (fun a1 b8=>?_)
 refine sD Try.f73 1 18 (fun c b9=>?_)
 refine sP Try.f73 1 19 (v:=c) ?_
 refine sG Try.f73 1 20 (j:=19) (fun a2 c0=>?_)
 refine sG Try.f73 1 21 (j:=19) (fun a3 c1=>?_)
 refine sG Try.f73 1 22 (j:=19) (fun a4 c2=>?_)
 refine sG Try.f73 1 23 (j:=19) (fun a5 c3=>?_)
 refine sG Try.f73 1 24 (j:=19) (fun a6 c4=>?_)
 refine sD Try.f73 1 25 (fun d c5=>?_)
 refine sP Try.f73 1 26 (v:=d) ?_
 refine sG Try.f73 1 27 (j:=26) (fun a7 c6=>?_)
 refine sG Try.f73 1 28 (j:=26) (fun a8 c7=>?_)
 refine sG Try.f73 1 29 (j:=26) (fun a9 c8=>?_)
 refine sG Try.f73 1 30 (j:=26) (fun b0 c9=>?_)
 refine sG Try.f73 1 31 (j:=26) (fun b1 d0=>?_)
 refine sD Try.f73 1 32 (fun n d1=>?_)
 refine sP Try.f73 1 33 (v:=n) ?_
 kernel_rfl
theorem wV.rs:type_of% (alY @wV.r0 (@wV.r1)):=alY @wV.r0 (@wV.r1)
theorem wV.runs {g i:Value} {S m:zx} {e:AEx} {T:List Value} (h:zL zi O false wV.code ([g,i,zh,zh,zh,zh,zh,zh,zh,zh,zh,zh,zh,zh,zh,zh,zh,zh,zh,zh,zh,zh,zh,zh,zh,zh,zh,zh,zh,zh,zh,zh,zh,zh,zh,zh,zh,zh]) zx.empty=some (e,T,m)) (he:e=.normal∨e=.ret) (hca:[g,i].all (jL 16)=true) (hcv:jL 16 (T.getD 4 zh)=true):jd zi O 73 [g,i] S=some (T.getD 4 zh,S) :=
 yD rfl rfl Try.func73 (by decide) wV.body (by exact h) he (yG (a:=T.getD 4 zh) ((show zQ zi T m Try.f73.results.toList=zQ zi T m [(ResultVar.tmp 4)] from by kernel_rfl).trans (by simp only [zQ])) (by kernel_rfl)) hca hcv
end Go.Proofs.Ytfjogganfjkckaa
namespace Go.Proofs.Ytfjogganfjkckaa
open Go.Abs
abbrev jE.id:FuncId:=18
noncomputable def jE.code:Code:=(.seq (.region 0 (reg Try.f18 0) false) (.seq (.region 1 (reg Try.f18 1) false) Code.ret))
theorem jE.body:Try.f18.body=some jE.code:=by kernel_rfl
variable (g i k l x4 x5 x6 x7 x8 x9 o p q r s t u w x y z A B C D E F G H I J K L M N P Q R:Value) (S:zx)
theorem jE.r0 :jF zi ⟨false,false,false⟩ (jd zi O) (reg Try.f18 0) (reg Try.f18 0).toList ([g,i,k,l,x4,x5,x6,x7,x8,x9,o,p,q,r,s,t,u,w,x,y,z,A,B,C,D,E,F,G,H,I,J,K,L,M,N,P,Q,R]) S =
  (zN (JK (dem g) S) (fun U m=>zN (JK (dem i) m) (fun V S2=>some ([g,i,U,V,Value.bool false,x5,x6,x7,x8,x9,o,p,q,r,s,t,u,w,x,y,z,A,B,C,D,E,F,G,H,I,J,K,L,M,N,P,Q,R],S2)) ()) ()):=by
 kernel_rfl
theorem jE.r1 :jF zi ⟨false,false,false⟩ (jd zi O) (reg Try.f18 1) (reg Try.f18 1).toList ([g,i,k,l,x4,x5,x6,x7,x8,x9,o,p,q,r,s,t,u,w,x,y,z,A,B,C,D,E,F,G,H,I,J,K,L,M,N,P,Q,R]) S =
  (zN (zG zi 46 k 0 S) (fun U m=>zN (jl zi false 3 U m) (fun V S2=>zN (zG zi 46 l 0 S2) (fun v2 S3=>zN (jl zi false 3 v2 S3) (fun v3 S4=>zN (wH zi BinOp.eql 3 V v3 S4) (fun f S5=>gdK (dem f) true (zG zi 46 k 1) S5 (fun v6 S6=>gdK (dem f) true (jl zi false 3 v6) S6 (fun v7 S7=>gdK (dem f) true (zG zi 46 l 1) S7 (fun v8 S8=>gdK (dem f) true (jl zi false 3 v8) S8 (fun v9 S9=>gdK (dem f) true (wH zi BinOp.eql 3 v7 v9) S9 (fun W b2=>zN (wW (dem f) W (Value.bool false) b2) (fun b b3=>gdK (dem b) true (zG zi 46 k 2) b3 (fun X b4=>gdK (dem b) true (jl zi false 3 X) b4 (fun Y b5=>gdK (dem b) true (zG zi 46 l 2) b5 (fun Z b6=>gdK (dem b) true (jl zi false 3 Z) b6 (fun a0 b7=>gdK (dem b) true (wH zi BinOp.eql 3 Y a0) b7 (fun a1 b8=>zN (wW (dem b) a1 (Value.bool false) b8) (fun c b9=>gdK (dem c) true (zG zi 46 k 3) b9 (fun a2 c0=>gdK (dem c) true (jl zi false 3 a2) c0 (fun a3 c1=>gdK (dem c) true (zG zi 46 l 3) c1 (fun a4 c2=>gdK (dem c) true (jl zi false 3 a4) c2 (fun a5 c3=>gdK (dem c) true (wH zi BinOp.eql 3 a3 a5) c3 (fun a6 c4=>zN (wW (dem c) a6 (Value.bool false) c4) (fun d c5=>gdK (dem d) true (zG zi 46 k 4) c5 (fun a7 c6=>gdK (dem d) true (jl zi false 44 a7) c6 (fun a8 c7=>gdK (dem d) true (zG zi 46 l 4) c7 (fun a9 c8=>gdK (dem d) true (jl zi false 44 a9) c8 (fun b0 c9=>gdK (dem d) true ((jd zi O) 33 [(dem a8),(dem b0)]) c9 (fun b1 d0=>zN (wW (dem d) b1 (Value.bool false) d0) (fun n d1=>some ([g,i,k,l,n,U,V,v2,v3,f,dem f,v6,v7,v8,v9,W,b,dem b,X,Y,Z,a0,a1,c,dem c,a2,a3,a4,a5,a6,d,dem d,a7,a8,a9,b0,b1,dem n],d1)) ()) ()) ()) ()) ()) ()) ()) ()) ()) ()) ()) ()) ()) ()) ()) ()) ()) ()) ()) ()) ()) ()) ()) ()) ()) ()) ()) ()) ()):=by
 refine sD Try.f18 1 0 (fun U m=>?_)
 refine sD Try.f18 1 1 (fun V S2=>?_)
 refine sD Try.f18 1 2 (fun v2 S3=>?_)
 refine sD Try.f18 1 3 (fun v3 S4=>?_)
 refine sD Try.f18 1 4 (fun f S5=>?_)
 refine sP Try.f18 1 5 (v:=f) ?_
 refine sG Try.f18 1 6 (j:=5) (fun v6 S6=>?_)
 refine sG Try.f18 1 7 (j:=5) (fun v7 S7=>?_)
 refine sG Try.f18 1 8 (j:=5) (fun v8 S8=>?_)
 refine sG Try.f18 1 9 (j:=5) (fun v9 S9=>?_)
 refine sG Try.f18 1 10 (j:=5) (fun W b2=>?_)
 refine sD Try.f18 1 11 (fun b b3=>?_)
 refine sP Try.f18 1 12 (v:=b) ?_
 refine sG Try.f18 1 13 (j:=12) (fun X b4=>?_)
 refine sG Try.f18 1 14 (j:=12) (fun Y b5=>?_)
 refine sG Try.f18 1 15 (j:=12) (fun Z b6=>?_)
 refine sG Try.f18 1 16 (j:=12) (fun a0 b7=>?_)
 refine sG Try.f18 1 17 (j:=12) (fun a1 b8=>?_)
 refine sD Try.f18 1 18 (fun c b9=>?_)
 refine sP Try.f18 1 19 (v:=c) ?_
 refine sG Try.f18 1 20 (j:=19) (fun a2 c0=>?_)
 refine sG Try.f18 1 21 (j:=19) (fun a3 c1=>?_)
 refine sG Try.f18 1 22 (j:=19) (fun a4 c2=>?_)
 refine sG Try.f18 1 23 (j:=19) (fun a5 c3=>?_)
 refine sG Try.f18 1 24 (j:=19) (fun a6 c4=>?_)
 refine sD Try.f18 1 25 (fun d c5=>?_)
 refine sP Try.f18 1 26 (v:=d) ?_
 refine sG Try.f18 1 27 (j:=26) (fun a7 c6=>?_)
 refine sG Try.f18 1 28 (j:=26) (fun a8 c7=>?_)
 refine sG Try.f18 1 29 (j:=26) (fun a9 c8=>?_)
 refine sG Try.f18 1 30 (j:=26) (fun b0 c9=>?_)
 refine sG Try.f18 1 31 (j:=26) (fun b1 d0=>?_)
 refine sD Try.f18 1 32 (fun n d1=>?_)
 refine sP Try.f18 1 33 (v:=n) ?_
 kernel_rfl
theorem jE.rs:type_of% (alY @jE.r0 (@jE.r1)):=alY @jE.r0 (@jE.r1)
theorem jE.runs {g i:Value} {S m:zx} {e:AEx} {T:List Value} (h:zL zi O false jE.code ([g,i,zh,zh,zh,zh,zh,zh,zh,zh,zh,zh,zh,zh,zh,zh,zh,zh,zh,zh,zh,zh,zh,zh,zh,zh,zh,zh,zh,zh,zh,zh,zh,zh,zh,zh,zh,zh]) zx.empty=some (e,T,m)) (he:e=.normal∨e=.ret) (hca:[g,i].all (jL 16)=true) (hcv:jL 16 (T.getD 4 zh)=true):jd zi O 18 [g,i] S=some (T.getD 4 zh,S) :=
 yD rfl rfl Try.func18 (by decide) jE.body (by exact h) he (yG (a:=T.getD 4 zh) ((show zQ zi T m Try.f18.results.toList=zQ zi T m [(ResultVar.tmp 4)] from by kernel_rfl).trans (by simp only [zQ])) (by kernel_rfl)) hca hcv
end Go.Proofs.Ytfjogganfjkckaa
namespace Go.Proofs.Ytfjogganfjkckaa
open Go.Abs
abbrev wL.id:FuncId:=46
noncomputable def wL.code:Code:=(.seq (.region 0 (reg Try.f46 0) false) (.seq (.seq (.region 1 (reg Try.f46 1) false) (.cond (.tmp 10) (.seq (.region 2 (reg Try.f46 2) false) Code.ret) Code.skip)) (.seq (.region 3 (reg Try.f46 3) false) (.seq (.region 4 (reg Try.f46 4) false) (.seq (.region 5 (reg Try.f46 5) false) Code.ret)))))
theorem wL.body:Try.f46.body=some wL.code:=by kernel_rfl
variable (a b K L B F C G H I c d f g i j k l m n o p q r s t u v w x y z A:Value) (S:zx)
theorem wL.r0 :jF zi ⟨false,false,false⟩ (jd zi O) (reg Try.f46 0) (reg Try.f46 0).toList ([a,b,K,L,B,F,C,G,H,I,c,d,f,g,i,j,k,l,m,n,o,p,q,r,s,t,u,v,w,x,y,z,A]) S =
  (zN (JK (dem a) S) (fun J D=>some ([a,J,Value.slice none 0 0,.int .i64 0,B,F,C,G,H,I,c,d,f,g,i,j,k,l,m,n,o,p,q,r,s,t,u,v,w,x,y,z,A],D)) ()):=by
 kernel_rfl
theorem wL.r1 :jF zi ⟨false,false,false⟩ (jd zi O) (reg Try.f46 1) (reg Try.f46 1).toList ([a,b,K,L,B,F,C,G,H,I,c,d,f,g,i,j,k,l,m,n,o,p,q,r,s,t,u,v,w,x,y,z,A]) S =
  (zN (jl zi false 46 b S) (fun J D=>zN ((jd zi O) 45 [(dem J)] D) (fun M N=>zN (aUn zi UnOp.not M N) (fun E P=>some ([a,b,K,L,B,F,C,G,J,M,E,d,f,g,i,j,k,l,m,n,o,p,q,r,s,t,u,v,w,x,y,z,A],P)) ()) ()) ()):=by
 kernel_rfl
theorem wL.r2 :jF zi ⟨false,false,false⟩ (jd zi O) (reg Try.f46 2) (reg Try.f46 2).toList ([a,b,K,L,B,F,C,G,H,I,c,d,f,g,i,j,k,l,m,n,o,p,q,r,s,t,u,v,w,x,y,z,A]) S =
  ( some ([a,b,Value.slice none 0 0,.int .i64 71,B,F,C,G,H,I,c,d,f,g,i,j,k,l,m,n,o,p,q,r,s,t,u,v,w,x,y,z,A],S)):=by
 kernel_rfl
theorem wL.r3 :jF zi ⟨false,false,false⟩ (jd zi O) (reg Try.f46 3) (reg Try.f46 3).toList ([a,b,K,L,B,F,C,G,H,I,c,d,f,g,i,j,k,l,m,n,o,p,q,r,s,t,u,v,w,x,y,z,A]) S =
  (zN (zG zi 46 b 0 S) (fun J D=>zN (jl zi false 3 J D) (fun M N=>zN (zG zi 46 b 1 N) (fun E P=>zN (jl zi false 3 E P) (fun Z X=>zN (zG zi 46 b 2 X) (fun Q Y=>zN (jl zi false 3 Q Y) (fun R S6=>zN (zG zi 46 b 3 S6) (fun v6 S7=>zN (jl zi false 3 v6 S7) (fun v7 S8=>zN (jU zi 24 4 [(0,M),(1,Z),(2,R),(3,v7)] S8) (fun v8 S9=>zN ((jd zi O) 63 [(dem v8)] S9) (fun U a0=>zN (zZ U 0 a0) (fun V a1=>zN (zZ (zV 0 U) 1 a1) (fun W a2=>some ([a,b,K,L,V,W,C,G,H,I,c,zV 1 (zV 0 U),J,M,E,Z,Q,R,v6,v7,v8,dem U,dem V,dem W,s,t,u,v,w,x,y,z,A],a2)) ()) ()) ()) ()) ()) ()) ()) ()) ()) ()) ()) ()):=by
 kernel_rfl
theorem wL.r4 :jF zi ⟨false,false,false⟩ (jd zi O) (reg Try.f46 4) (reg Try.f46 4).toList ([a,b,K,L,B,F,C,G,H,I,c,d,f,g,i,j,k,l,m,n,o,p,q,r,s,t,u,v,w,x,y,z,A]) S =
  (zN (zG zi 46 b 4 S) (fun J D=>zN (jl zi false 44 J D) (fun M N=>zN ((jd zi O) 62 [(dem M)] N) (fun E P=>zN (zZ E 0 P) (fun Q X=>zN (zZ (zV 0 E) 1 X) (fun R Y=>some ([a,b,K,L,B,F,Q,R,H,I,c,d,f,g,i,j,k,l,m,n,o,p,q,r,zV 1 (zV 0 E),J,M,dem E,dem Q,dem R,y,z,A],Y)) ()) ()) ()) ()) ()):=by
 kernel_rfl
theorem wL.r5 :jF zi ⟨false,false,false⟩ (jd zi O) (reg Try.f46 5) (reg Try.f46 5).toList ([a,b,K,L,B,F,C,G,H,I,c,d,f,g,i,j,k,l,m,n,o,p,q,r,s,t,u,v,w,x,y,z,A]) S =
  (zN (yB zi 33 33 B (dem C) S) (fun E D=>some ([a,b,E,.int .i64 0,dem B,F,C,G,H,I,c,d,f,g,i,j,k,l,m,n,o,p,q,r,s,t,u,v,w,x,dem B,dem C,dem E],D)) ()):=by
 kernel_rfl
theorem wL.rs:type_of% (alY @wL.r0 (alY @wL.r1 (alY @wL.r2 (alY @wL.r3 (alY @wL.r4 (@wL.r5)))))):=alY @wL.r0 (alY @wL.r1 (alY @wL.r2 (alY @wL.r3 (alY @wL.r4 (@wL.r5)))))
theorem wL.runs {a:Value} {S D:zx} {e:AEx} {T:List Value} (h:zL zi O false wL.code ([a,zh,zh,zh,zh,zh,zh,zh,zh,zh,zh,zh,zh,zh,zh,zh,zh,zh,zh,zh,zh,zh,zh,zh,zh,zh,zh,zh,zh,zh,zh,zh,zh]) zx.empty=some (e,T,D)) (he:e=.normal∨e=.ret)  (h0:wE (T.getD 2 zh)=true) (h1:wE (T.getD 3 zh)=true) (hca:[a].all (jL 16)=true) (hcv:jL 16 (Value.tuple #[T.getD 2 zh,T.getD 3 zh])=true):jd zi O 46 [a] S=some (Value.tuple #[T.getD 2 zh,T.getD 3 zh],S) :=
 yD rfl rfl Try.func46 (by decide) wL.body (by exact h) he ((qj ((show zQ zi T D Try.f46.results.toList=zQ zi T D [(ResultVar.tmp 2),(ResultVar.tmp 3)] from by kernel_rfl).trans (by simp only [zQ])) (by kernel_rfl) (by simp only [List.all_cons,List.all_nil,h0,h1,Bool.and_true])).trans rfl) hca hcv
end Go.Proofs.Ytfjogganfjkckaa
namespace Go.Proofs.Ytfjogganfjkckaa
open Go.Abs
abbrev jy.id:FuncId:=37
noncomputable def jy.code:Code:=(.seq (.region 0 (reg Try.f37 0) false) (.seq (.seq (.region 1 (reg Try.f37 1) false) (.cond (.tmp 10) (.seq (.region 2 (reg Try.f37 2) false) Code.ret) Code.skip)) (.seq (.region 3 (reg Try.f37 3) false) (.seq (.region 4 (reg Try.f37 4) false) (.seq (.region 5 (reg Try.f37 5) false) Code.ret)))))
theorem jy.body:Try.f37.body=some jy.code:=by kernel_rfl
variable (a b K L B F C G H I c d f g i j k l m n o p q r s t u v w x y z A:Value) (S:zx)
theorem jy.r0 :jF zi ⟨false,false,false⟩ (jd zi O) (reg Try.f37 0) (reg Try.f37 0).toList ([a,b,K,L,B,F,C,G,H,I,c,d,f,g,i,j,k,l,m,n,o,p,q,r,s,t,u,v,w,x,y,z,A]) S =
  (zN (JK (dem a) S) (fun J D=>some ([a,J,Value.slice none 0 0,.int .i64 0,B,F,C,G,H,I,c,d,f,g,i,j,k,l,m,n,o,p,q,r,s,t,u,v,w,x,y,z,A],D)) ()):=by
 kernel_rfl
theorem jy.r1 :jF zi ⟨false,false,false⟩ (jd zi O) (reg Try.f37 1) (reg Try.f37 1).toList ([a,b,K,L,B,F,C,G,H,I,c,d,f,g,i,j,k,l,m,n,o,p,q,r,s,t,u,v,w,x,y,z,A]) S =
  (zN (jl zi false 46 b S) (fun J D=>zN ((jd zi O) 32 [(dem J)] D) (fun M N=>zN (aUn zi UnOp.not M N) (fun E P=>some ([a,b,K,L,B,F,C,G,J,M,E,d,f,g,i,j,k,l,m,n,o,p,q,r,s,t,u,v,w,x,y,z,A],P)) ()) ()) ()):=by
 kernel_rfl
theorem jy.r2 :jF zi ⟨false,false,false⟩ (jd zi O) (reg Try.f37 2) (reg Try.f37 2).toList ([a,b,K,L,B,F,C,G,H,I,c,d,f,g,i,j,k,l,m,n,o,p,q,r,s,t,u,v,w,x,y,z,A]) S =
  ( some ([a,b,Value.slice none 0 0,.int .i64 71,B,F,C,G,H,I,c,d,f,g,i,j,k,l,m,n,o,p,q,r,s,t,u,v,w,x,y,z,A],S)):=by
 kernel_rfl
theorem jy.r3 :jF zi ⟨false,false,false⟩ (jd zi O) (reg Try.f37 3) (reg Try.f37 3).toList ([a,b,K,L,B,F,C,G,H,I,c,d,f,g,i,j,k,l,m,n,o,p,q,r,s,t,u,v,w,x,y,z,A]) S =
  (zN (zG zi 46 b 0 S) (fun J D=>zN (jl zi false 3 J D) (fun M N=>zN (zG zi 46 b 1 N) (fun E P=>zN (jl zi false 3 E P) (fun Z X=>zN (zG zi 46 b 2 X) (fun Q Y=>zN (jl zi false 3 Q Y) (fun R S6=>zN (zG zi 46 b 3 S6) (fun v6 S7=>zN (jl zi false 3 v6 S7) (fun v7 S8=>zN (jU zi 24 4 [(0,M),(1,Z),(2,R),(3,v7)] S8) (fun v8 S9=>zN ((jd zi O) 35 [(dem v8)] S9) (fun U a0=>zN (zZ U 0 a0) (fun V a1=>zN (zZ (zV 0 U) 1 a1) (fun W a2=>some ([a,b,K,L,V,W,C,G,H,I,c,zV 1 (zV 0 U),J,M,E,Z,Q,R,v6,v7,v8,dem U,dem V,dem W,s,t,u,v,w,x,y,z,A],a2)) ()) ()) ()) ()) ()) ()) ()) ()) ()) ()) ()) ()):=by
 kernel_rfl
theorem jy.r4 :jF zi ⟨false,false,false⟩ (jd zi O) (reg Try.f37 4) (reg Try.f37 4).toList ([a,b,K,L,B,F,C,G,H,I,c,d,f,g,i,j,k,l,m,n,o,p,q,r,s,t,u,v,w,x,y,z,A]) S =
  (zN (zG zi 46 b 4 S) (fun J D=>zN (jl zi false 44 J D) (fun M N=>zN ((jd zi O) 50 [(dem M)] N) (fun E P=>zN (zZ E 0 P) (fun Q X=>zN (zZ (zV 0 E) 1 X) (fun R Y=>some ([a,b,K,L,B,F,Q,R,H,I,c,d,f,g,i,j,k,l,m,n,o,p,q,r,zV 1 (zV 0 E),J,M,dem E,dem Q,dem R,y,z,A],Y)) ()) ()) ()) ()) ()):=by
 kernel_rfl
theorem jy.r5 :jF zi ⟨false,false,false⟩ (jd zi O) (reg Try.f37 5) (reg Try.f37 5).toList ([a,b,K,L,B,F,C,G,H,I,c,d,f,g,i,j,k,l,m,n,o,p,q,r,s,t,u,v,w,x,y,z,A]) S =
  (zN (yB zi 33 33 B (dem C) S) (fun E D=>some ([a,b,E,.int .i64 0,dem B,F,C,G,H,I,c,d,f,g,i,j,k,l,m,n,o,p,q,r,s,t,u,v,w,x,dem B,dem C,dem E],D)) ()):=by
 kernel_rfl
theorem jy.rs:type_of% (alY @jy.r0 (alY @jy.r1 (alY @jy.r2 (alY @jy.r3 (alY @jy.r4 (@jy.r5)))))):=alY @jy.r0 (alY @jy.r1 (alY @jy.r2 (alY @jy.r3 (alY @jy.r4 (@jy.r5)))))
theorem jy.runs {a:Value} {S D:zx} {e:AEx} {T:List Value} (h:zL zi O false jy.code ([a,zh,zh,zh,zh,zh,zh,zh,zh,zh,zh,zh,zh,zh,zh,zh,zh,zh,zh,zh,zh,zh,zh,zh,zh,zh,zh,zh,zh,zh,zh,zh,zh]) zx.empty=some (e,T,D)) (he:e=.normal∨e=.ret)  (h0:wE (T.getD 2 zh)=true) (h1:wE (T.getD 3 zh)=true) (hca:[a].all (jL 16)=true) (hcv:jL 16 (Value.tuple #[T.getD 2 zh,T.getD 3 zh])=true):jd zi O 37 [a] S=some (Value.tuple #[T.getD 2 zh,T.getD 3 zh],S) :=
 yD rfl rfl Try.func37 (by decide) jy.body (by exact h) he ((qj ((show zQ zi T D Try.f37.results.toList=zQ zi T D [(ResultVar.tmp 2),(ResultVar.tmp 3)] from by kernel_rfl).trans (by simp only [zQ])) (by kernel_rfl) (by simp only [List.all_cons,List.all_nil,h0,h1,Bool.and_true])).trans rfl) hca hcv
end Go.Proofs.Ytfjogganfjkckaa
namespace Go.Proofs.Ytfjogganfjkckaa
open Go.Abs
abbrev jD.id:FuncId:=45
noncomputable def jD.code:Code:=(.seq (.region 0 (reg Try.f45 0) false) (.seq (.seq (.region 1 (reg Try.f45 1) false) (.cond (.tmp 20) (.seq (.region 2 (reg Try.f45 2) false) Code.ret) Code.skip)) (.seq (.seq (.region 3 (reg Try.f45 3) false) (.cond (.tmp 37) (.seq (.region 4 (reg Try.f45 4) false) Code.ret) Code.skip)) (.seq (.region 5 (reg Try.f45 5) false) (.seq (.region 6 (reg Try.f45 6) false) Code.ret)))))
theorem jD.body:Try.f45.body=some jD.code:=by kernel_rfl
variable (U b x2 X V Y Z x7 x8 x9 c d f g i k l m n o p q r s t u w x y z A B C D E F G H I J K L M N P Q:Value) (S:zx)
theorem jD.r0 :jF zi ⟨false,false,false⟩ (jd zi O) (reg Try.f45 0) (reg Try.f45 0).toList ([U,b,x2,X,V,Y,Z,x7,x8,x9,c,d,f,g,i,k,l,m,n,o,p,q,r,s,t,u,w,x,y,z,A,B,C,D,E,F,G,H,I,J,K,L,M,N,P,Q]) S =
  (zN (JK (dem U) S) (fun v0 W=>some ([U,v0,Value.bool false,X,V,Y,Z,x7,x8,x9,c,d,f,g,i,k,l,m,n,o,p,q,r,s,t,u,w,x,y,z,A,B,C,D,E,F,G,H,I,J,K,L,M,N,P,Q],W)) ()):=by
 kernel_rfl
theorem jD.r1 :jF zi ⟨false,false,false⟩ (jd zi O) (reg Try.f45 1) (reg Try.f45 1).toList ([U,b,x2,X,V,Y,Z,x7,x8,x9,c,d,f,g,i,k,l,m,n,o,p,q,r,s,t,u,w,x,y,z,A,B,C,D,E,F,G,H,I,J,K,L,M,N,P,Q]) S =
  (zN (zG zi 46 b 0 S) (fun v0 W=>zN (jl zi false 3 v0 W) (fun v1 S2=>zN ((jd zi O) 60 [(dem v1),(.int .i64 1),(.int .i64 4095)] S2) (fun R S3=>zN (aUn zi UnOp.not R S3) (fun v3 S4=>gdK (dem v3) false (zG zi 46 b 1) S4 (fun v5 S5=>gdK (dem v3) false (jl zi false 3 v5) S5 (fun v6 S6=>gdK (dem v3) false ((jd zi O) 60 [(dem v6),(.int .i64 0),(.int .i64 6)]) S6 (fun v7 S7=>gdK (dem v3) false (aUn zi UnOp.not v7) S7 (fun v8 S8=>zN (wW (dem v3) (Value.bool true) v8 S8) (fun v9 S9=>gdK (dem v9) false (zG zi 46 b 2) S9 (fun a0 a5=>gdK (dem v9) false (jl zi false 3 a0) a5 (fun a1 a6=>gdK (dem v9) false ((jd zi O) 60 [(dem a1),(.int .i64 0),(.int .i64 255)]) a6 (fun a2 a7=>gdK (dem v9) false (aUn zi UnOp.not a2) a7 (fun a3 a8=>zN (wW (dem v9) (Value.bool true) a3 a8) (fun a4 a9=>some ([U,b,x2,X,V,v0,v1,R,v3,dem v3,v5,v6,v7,v8,v9,dem v9,a0,a1,a2,a3,a4,q,r,s,t,u,w,x,y,z,A,B,C,D,E,F,G,H,I,J,K,L,M,N,P,Q],a9)) ()) ()) ()) ()) ()) ()) ()) ()) ()) ()) ()) ()) ()) ()):=by
 refine sD Try.f45 1 0 (fun v0 W=>?_)
 refine sD Try.f45 1 1 (fun v1 S2=>?_)
 refine sD Try.f45 1 2 (fun R S3=>?_)
 refine sD Try.f45 1 3 (fun v3 S4=>?_)
 refine sP Try.f45 1 4 (v:=v3) ?_
 refine sG Try.f45 1 5 (j:=4) (fun v5 S5=>?_)
 refine sG Try.f45 1 6 (j:=4) (fun v6 S6=>?_)
 refine sG Try.f45 1 7 (j:=4) (fun v7 S7=>?_)
 refine sG Try.f45 1 8 (j:=4) (fun v8 S8=>?_)
 refine sD Try.f45 1 9 (fun v9 S9=>?_)
 refine sP Try.f45 1 10 (v:=v9) ?_
 refine sG Try.f45 1 11 (j:=10) (fun a0 a5=>?_)
 refine sG Try.f45 1 12 (j:=10) (fun a1 a6=>?_)
 refine sG Try.f45 1 13 (j:=10) (fun a2 a7=>?_)
 refine sG Try.f45 1 14 (j:=10) (fun a3 a8=>?_)
 refine sD Try.f45 1 15 (fun a4 a9=>?_)
 kernel_rfl
theorem jD.r2 :jF zi ⟨false,false,false⟩ (jd zi O) (reg Try.f45 2) (reg Try.f45 2).toList ([U,b,x2,X,V,Y,Z,x7,x8,x9,c,d,f,g,i,k,l,m,n,o,p,q,r,s,t,u,w,x,y,z,A,B,C,D,E,F,G,H,I,J,K,L,M,N,P,Q]) S =
  ( some ([U,b,Value.bool false,X,V,Y,Z,x7,x8,x9,c,d,f,g,i,k,l,m,n,o,p,q,r,s,t,u,w,x,y,z,A,B,C,D,E,F,G,H,I,J,K,L,M,N,P,Q],S)):=by
 kernel_rfl
theorem jD.r3 :jF zi ⟨false,false,false⟩ (jd zi O) (reg Try.f45 3) (reg Try.f45 3).toList ([U,b,x2,X,V,Y,Z,x7,x8,x9,c,d,f,g,i,k,l,m,n,o,p,q,r,s,t,u,w,x,y,z,A,B,C,D,E,F,G,H,I,J,K,L,M,N,P,Q]) S =
  (zN (zG zi 46 b 3 S) (fun v0 W=>zN (jl zi false 3 v0 W) (fun v1 S2=>zN (wH zi BinOp.neq 3 v1 (.int .i64 0) S2) (fun R S3=>gdK (dem R) true (zG zi 46 b 3) S3 (fun v4 S4=>gdK (dem R) true (jl zi false 3 v4) S4 (fun v5 S5=>gdK (dem R) true ((jd zi O) 61 [(dem v5)]) S5 (fun v6 S6=>gdK (dem R) true (aUn zi UnOp.not v6) S6 (fun v7 S7=>gdK (dem R) true (ret v7) S7 (fun v8 S8=>gdK (dem v8) false (zG zi 46 b 3) S8 (fun v9 S9=>gdK (dem v8) false (jl zi false 3 v9) S9 (fun b0 a5=>gdK (dem v8) false (wH zi BinOp.quo 3 b0 (.int .i64 65536)) a5 (fun a0 a6=>gdK (dem v8) false (zG zi 46 b 0) a6 (fun a1 a7=>gdK (dem v8) false (jl zi false 3 a1) a7 (fun a2 a8=>gdK (dem v8) false (wH zi BinOp.geq 3 a0 a2) a8 (fun a3 a9=>gdK (dem R) true (wW (dem v8) (Value.bool true) a3) a9 (fun a4 b1=>zN (wW (dem R) a4 (Value.bool false) b1) (fun b2 b3=>some ([U,b,x2,X,V,Y,Z,x7,x8,x9,c,d,f,g,i,k,l,m,n,o,p,v0,v1,R,dem R,v4,v5,v6,v7,dem v8,v9,b0,a0,a1,a2,a3,a4,b2,I,J,K,L,M,N,P,Q],b3)) ()) ()) ()) ()) ()) ()) ()) ()) ()) ()) ()) ()) ()) ()) ()) ()):=by
 refine sD Try.f45 3 0 (fun v0 W=>?_)
 refine sD Try.f45 3 1 (fun v1 S2=>?_)
 refine sD Try.f45 3 2 (fun R S3=>?_)
 refine sP Try.f45 3 3 (v:=R) ?_
 refine sG Try.f45 3 4 (j:=3) (fun v4 S4=>?_)
 refine sG Try.f45 3 5 (j:=3) (fun v5 S5=>?_)
 refine sG Try.f45 3 6 (j:=3) (fun v6 S6=>?_)
 refine sG Try.f45 3 7 (j:=3) (fun v7 S7=>?_)
 refine sG Try.f45 3 8 (j:=3) (fun v8 S8=>?_)
 refine sG Try.f45 3 9 (j:=8) (fun v9 S9=>?_)
 refine sG Try.f45 3 10 (j:=8) (fun b0 a5=>?_)
 refine sG Try.f45 3 11 (j:=8) (fun a0 a6=>?_)
 refine sG Try.f45 3 12 (j:=8) (fun a1 a7=>?_)
 refine sG Try.f45 3 13 (j:=8) (fun a2 a8=>?_)
 refine sG Try.f45 3 14 (j:=8) (fun a3 a9=>?_)
 refine sG Try.f45 3 15 (j:=3) (fun a4 b1=>?_)
 refine sD Try.f45 3 16 (fun b2 b3=>?_)
 kernel_rfl
theorem jD.r4 :jF zi ⟨false,false,false⟩ (jd zi O) (reg Try.f45 4) (reg Try.f45 4).toList ([U,b,x2,X,V,Y,Z,x7,x8,x9,c,d,f,g,i,k,l,m,n,o,p,q,r,s,t,u,w,x,y,z,A,B,C,D,E,F,G,H,I,J,K,L,M,N,P,Q]) S =
  ( some ([U,b,Value.bool false,X,V,Y,Z,x7,x8,x9,c,d,f,g,i,k,l,m,n,o,p,q,r,s,t,u,w,x,y,z,A,B,C,D,E,F,G,H,I,J,K,L,M,N,P,Q],S)):=by
 kernel_rfl
theorem jD.r5 :jF zi ⟨false,false,false⟩ (jd zi O) (reg Try.f45 5) (reg Try.f45 5).toList ([U,b,x2,X,V,Y,Z,x7,x8,x9,c,d,f,g,i,k,l,m,n,o,p,q,r,s,t,u,w,x,y,z,A,B,C,D,E,F,G,H,I,J,K,L,M,N,P,Q]) S =
  (zN (zG zi 46 b 4 S) (fun v0 W=>zN (jl zi false 44 v0 W) (fun v1 S2=>zN ((jd zi O) 62 [(dem v1)] S2) (fun R S3=>zN (zZ R 0 S3) (fun v4 S4=>zN (zZ (zV 0 R) 1 S4) (fun v5 S5=>some ([U,b,x2,v4,v5,Y,Z,x7,x8,x9,c,d,f,g,i,k,l,m,n,o,p,q,r,s,t,u,w,x,y,z,A,B,C,D,E,F,G,H,zV 1 (zV 0 R),v0,v1,dem R,dem v4,dem v5,P,Q],S5)) ()) ()) ()) ()) ()):=by
 kernel_rfl
theorem jD.r6 :jF zi ⟨false,false,false⟩ (jd zi O) (reg Try.f45 6) (reg Try.f45 6).toList ([U,b,x2,X,V,Y,Z,x7,x8,x9,c,d,f,g,i,k,l,m,n,o,p,q,r,s,t,u,w,x,y,z,A,B,C,D,E,F,G,H,I,J,K,L,M,N,P,Q]) S =
  (zN (wH zi BinOp.eql 64 (dem V) (.int .i64 0) S) (fun v1 W=>some ([U,b,v1,X,V,Y,Z,x7,x8,x9,c,d,f,g,i,k,l,m,n,o,p,q,r,s,t,u,w,x,y,z,A,B,C,D,E,F,G,H,I,J,K,L,M,N,dem V,dem v1],W)) ()):=by
 kernel_rfl
theorem jD.rs:type_of% (alY @jD.r0 (alY @jD.r1 (alY @jD.r2 (alY @jD.r3 (alY @jD.r4 (alY @jD.r5 (@jD.r6))))))):=alY @jD.r0 (alY @jD.r1 (alY @jD.r2 (alY @jD.r3 (alY @jD.r4 (alY @jD.r5 (@jD.r6))))))
theorem jD.runs {U:Value} {S W:zx} {e:AEx} {T:List Value} (h:zL zi O false jD.code ([U,zh,zh,zh,zh,zh,zh,zh,zh,zh,zh,zh,zh,zh,zh,zh,zh,zh,zh,zh,zh,zh,zh,zh,zh,zh,zh,zh,zh,zh,zh,zh,zh,zh,zh,zh,zh,zh,zh,zh,zh,zh,zh,zh,zh,zh]) zx.empty=some (e,T,W)) (he:e=.normal∨e=.ret) (hca:[U].all (jL 16)=true) (hcv:jL 16 (T.getD 2 zh)=true):jd zi O 45 [U] S=some (T.getD 2 zh,S) :=
 yD rfl rfl Try.func45 (by decide) jD.body (by exact h) he (yG (a:=T.getD 2 zh) ((show zQ zi T W Try.f45.results.toList=zQ zi T W [(ResultVar.tmp 2)] from by kernel_rfl).trans (by simp only [zQ])) (by kernel_rfl)) hca hcv
end Go.Proofs.Ytfjogganfjkckaa
namespace Go.Proofs.Ytfjogganfjkckaa
open Go.Abs
abbrev zI.id:FuncId:=32
noncomputable def zI.code:Code:=(.seq (.region 0 (reg Try.f32 0) false) (.seq (.seq (.region 1 (reg Try.f32 1) false) (.cond (.tmp 36) (.seq (.region 2 (reg Try.f32 2) false) Code.ret) Code.skip)) (.seq (.region 3 (reg Try.f32 3) false) (.seq (.seq (.region 4 (reg Try.f32 4) false) (.cond (.tmp 44) (.seq (.region 5 (reg Try.f32 5) false) Code.ret) Code.skip)) (.seq (.seq (.region 6 (reg Try.f32 6) false) (.cond (.tmp 47) (.seq (.region 7 (reg Try.f32 7) false) Code.ret) Code.skip)) (.seq (.region 8 (reg Try.f32 8) false) (.seq (.region 9 (reg Try.f32 9) false) Code.ret)))))))
theorem zI.body:Try.f32.body=some zI.code:=by kernel_rfl
variable (x0 b x2 x3 x4 x5 x6 x7 x8 x9 c d f g i k l m n o p q r s t u w x y z A B C D E F G H I J K L M N P Q R U V W X Y Z a0 a1 a2 a3 a4 a5 a6 a7 a8 a9:Value) (S:zx)
theorem zI.r0 :jF zi ⟨false,false,false⟩ (jd zi O) (reg Try.f32 0) (reg Try.f32 0).toList ([x0,b,x2,x3,x4,x5,x6,x7,x8,x9,c,d,f,g,i,k,l,m,n,o,p,q,r,s,t,u,w,x,y,z,A,B,C,D,E,F,G,H,I,J,K,L,M,N,P,Q,R,U,V,W,X,Y,Z,a0,a1,a2,a3,a4,a5,a6,a7,a8,a9]) S =
  (zN (JK (dem x0) S) (fun v0 S1=>some ([x0,v0,Value.bool false,x3,x4,x5,x6,x7,x8,x9,c,d,f,g,i,k,l,m,n,o,p,q,r,s,t,u,w,x,y,z,A,B,C,D,E,F,G,H,I,J,K,L,M,N,P,Q,R,U,V,W,X,Y,Z,a0,a1,a2,a3,a4,a5,a6,a7,a8,a9],S1)) ()):=by
 kernel_rfl
theorem zI.r1 :jF zi ⟨false,false,false⟩ (jd zi O) (reg Try.f32 1) (reg Try.f32 1).toList ([x0,b,x2,x3,x4,x5,x6,x7,x8,x9,c,d,f,g,i,k,l,m,n,o,p,q,r,s,t,u,w,x,y,z,A,B,C,D,E,F,G,H,I,J,K,L,M,N,P,Q,R,U,V,W,X,Y,Z,a0,a1,a2,a3,a4,a5,a6,a7,a8,a9]) S =
  (zN (zG zi 46 b 0 S) (fun v0 S1=>zN (jl zi false 3 v0 S1) (fun v1 S2=>zN (wH zi BinOp.lss 3 v1 (.int .i64 1) S2) (fun v2 S3=>gdK (dem v2) false (zG zi 46 b 0) S3 (fun v4 S4=>gdK (dem v2) false (jl zi false 3 v4) S4 (fun v5 S5=>gdK (dem v2) false (wH zi BinOp.gtr 3 v5 (.int .i64 4095)) S5 (fun v6 S6=>zN (wW (dem v2) (Value.bool true) v6 S6) (fun v7 S7=>gdK (dem v7) false (zG zi 46 b 1) S7 (fun v9 S8=>gdK (dem v7) false (jl zi false 3 v9) S8 (fun b3 S9=>gdK (dem v7) false (wH zi BinOp.lss 3 b3 (.int .i64 0)) S9 (fun b4 c4=>zN (wW (dem v7) (Value.bool true) b4 c4) (fun b0 c5=>gdK (dem b0) false (zG zi 46 b 1) c5 (fun b5 c6=>gdK (dem b0) false (jl zi false 3 b5) c6 (fun b6 c7=>gdK (dem b0) false (wH zi BinOp.gtr 3 b6 (.int .i64 6)) c7 (fun b7 c8=>zN (wW (dem b0) (Value.bool true) b7 c8) (fun b1 c9=>gdK (dem b1) false (zG zi 46 b 2) c9 (fun b8 d0=>gdK (dem b1) false (jl zi false 3 b8) d0 (fun b9 d1=>gdK (dem b1) false (wH zi BinOp.lss 3 b9 (.int .i64 0)) d1 (fun c0 d2=>zN (wW (dem b1) (Value.bool true) c0 d2) (fun b2 d3=>gdK (dem b2) false (zG zi 46 b 2) d3 (fun c1 d4=>gdK (dem b2) false (jl zi false 3 c1) d4 (fun c2 d5=>gdK (dem b2) false (wH zi BinOp.gtr 3 c2 (.int .i64 255)) d5 (fun c3 d6=>zN (wW (dem b2) (Value.bool true) c3 d6) (fun d7 d8=>some ([x0,b,x2,x3,x4,x5,x6,x7,x8,v0,v1,v2,dem v2,v4,v5,v6,v7,dem v7,v9,b3,b4,b0,dem b0,b5,b6,b7,b1,dem b1,b8,b9,c0,b2,dem b2,c1,c2,c3,d7,H,I,J,K,L,M,N,P,Q,R,U,V,W,X,Y,Z,a0,a1,a2,a3,a4,a5,a6,a7,a8,a9],d8)) ()) ()) ()) ()) ()) ()) ()) ()) ()) ()) ()) ()) ()) ()) ()) ()) ()) ()) ()) ()) ()) ()) ()):=by
 refine sD Try.f32 1 0 (fun v0 S1=>?_)
 refine sD Try.f32 1 1 (fun v1 S2=>?_)
 refine sD Try.f32 1 2 (fun v2 S3=>?_)
 refine sP Try.f32 1 3 (v:=v2) ?_
 refine sG Try.f32 1 4 (j:=3) (fun v4 S4=>?_)
 refine sG Try.f32 1 5 (j:=3) (fun v5 S5=>?_)
 refine sG Try.f32 1 6 (j:=3) (fun v6 S6=>?_)
 refine sD Try.f32 1 7 (fun v7 S7=>?_)
 refine sP Try.f32 1 8 (v:=v7) ?_
 refine sG Try.f32 1 9 (j:=8) (fun v9 S8=>?_)
 refine sG Try.f32 1 10 (j:=8) (fun b3 S9=>?_)
 refine sG Try.f32 1 11 (j:=8) (fun b4 c4=>?_)
 refine sD Try.f32 1 12 (fun b0 c5=>?_)
 refine sP Try.f32 1 13 (v:=b0) ?_
 refine sG Try.f32 1 14 (j:=13) (fun b5 c6=>?_)
 refine sG Try.f32 1 15 (j:=13) (fun b6 c7=>?_)
 refine sG Try.f32 1 16 (j:=13) (fun b7 c8=>?_)
 refine sD Try.f32 1 17 (fun b1 c9=>?_)
 refine sP Try.f32 1 18 (v:=b1) ?_
 refine sG Try.f32 1 19 (j:=18) (fun b8 d0=>?_)
 refine sG Try.f32 1 20 (j:=18) (fun b9 d1=>?_)
 refine sG Try.f32 1 21 (j:=18) (fun c0 d2=>?_)
 refine sD Try.f32 1 22 (fun b2 d3=>?_)
 refine sP Try.f32 1 23 (v:=b2) ?_
 refine sG Try.f32 1 24 (j:=23) (fun c1 d4=>?_)
 refine sG Try.f32 1 25 (j:=23) (fun c2 d5=>?_)
 refine sG Try.f32 1 26 (j:=23) (fun c3 d6=>?_)
 refine sD Try.f32 1 27 (fun d7 d8=>?_)
 kernel_rfl
theorem zI.r2 :jF zi ⟨false,false,false⟩ (jd zi O) (reg Try.f32 2) (reg Try.f32 2).toList ([x0,b,x2,x3,x4,x5,x6,x7,x8,x9,c,d,f,g,i,k,l,m,n,o,p,q,r,s,t,u,w,x,y,z,A,B,C,D,E,F,G,H,I,J,K,L,M,N,P,Q,R,U,V,W,X,Y,Z,a0,a1,a2,a3,a4,a5,a6,a7,a8,a9]) S =
  ( some ([x0,b,Value.bool false,x3,x4,x5,x6,x7,x8,x9,c,d,f,g,i,k,l,m,n,o,p,q,r,s,t,u,w,x,y,z,A,B,C,D,E,F,G,H,I,J,K,L,M,N,P,Q,R,U,V,W,X,Y,Z,a0,a1,a2,a3,a4,a5,a6,a7,a8,a9],S)):=by
 kernel_rfl
theorem zI.r3 :jF zi ⟨false,false,false⟩ (jd zi O) (reg Try.f32 3) (reg Try.f32 3).toList ([x0,b,x2,x3,x4,x5,x6,x7,x8,x9,c,d,f,g,i,k,l,m,n,o,p,q,r,s,t,u,w,x,y,z,A,B,C,D,E,F,G,H,I,J,K,L,M,N,P,Q,R,U,V,W,X,Y,Z,a0,a1,a2,a3,a4,a5,a6,a7,a8,a9]) S =
  (zN (zG zi 46 b 4 S) (fun v0 S1=>zN (jl zi false 44 v0 S1) (fun v1 S2=>zN ((jd zi O) 50 [(dem v1)] S2) (fun v2 S3=>zN (zZ v2 0 S3) (fun v4 S4=>zN (zZ (zV 0 v2) 1 S4) (fun v5 S5=>some ([x0,b,x2,v4,v5,x5,x6,x7,x8,x9,c,d,f,g,i,k,l,m,n,o,p,q,r,s,t,u,w,x,y,z,A,B,C,D,E,F,G,zV 1 (zV 0 v2),v0,v1,dem v2,dem v4,dem v5,N,P,Q,R,U,V,W,X,Y,Z,a0,a1,a2,a3,a4,a5,a6,a7,a8,a9],S5)) ()) ()) ()) ()) ()):=by
 kernel_rfl
theorem zI.r4 :jF zi ⟨false,false,false⟩ (jd zi O) (reg Try.f32 4) (reg Try.f32 4).toList ([x0,b,x2,x3,x4,x5,x6,x7,x8,x9,c,d,f,g,i,k,l,m,n,o,p,q,r,s,t,u,w,x,y,z,A,B,C,D,E,F,G,H,I,J,K,L,M,N,P,Q,R,U,V,W,X,Y,Z,a0,a1,a2,a3,a4,a5,a6,a7,a8,a9]) S =
  (zN (wH zi BinOp.neq 3 (dem x4) (.int .i64 0) S) (fun v1 S1=>some ([x0,b,x2,x3,x4,x5,x6,x7,x8,x9,c,d,f,g,i,k,l,m,n,o,p,q,r,s,t,u,w,x,y,z,A,B,C,D,E,F,G,H,I,J,K,L,M,dem x4,v1,Q,R,U,V,W,X,Y,Z,a0,a1,a2,a3,a4,a5,a6,a7,a8,a9],S1)) ()):=by
 kernel_rfl
theorem zI.r5 :jF zi ⟨false,false,false⟩ (jd zi O) (reg Try.f32 5) (reg Try.f32 5).toList ([x0,b,x2,x3,x4,x5,x6,x7,x8,x9,c,d,f,g,i,k,l,m,n,o,p,q,r,s,t,u,w,x,y,z,A,B,C,D,E,F,G,H,I,J,K,L,M,N,P,Q,R,U,V,W,X,Y,Z,a0,a1,a2,a3,a4,a5,a6,a7,a8,a9]) S =
  ( some ([x0,b,Value.bool false,x3,x4,x5,x6,x7,x8,x9,c,d,f,g,i,k,l,m,n,o,p,q,r,s,t,u,w,x,y,z,A,B,C,D,E,F,G,H,I,J,K,L,M,N,P,Q,R,U,V,W,X,Y,Z,a0,a1,a2,a3,a4,a5,a6,a7,a8,a9],S)):=by
 kernel_rfl
theorem zI.r6 :jF zi ⟨false,false,false⟩ (jd zi O) (reg Try.f32 6) (reg Try.f32 6).toList ([x0,b,x2,x3,x4,x5,x6,x7,x8,x9,c,d,f,g,i,k,l,m,n,o,p,q,r,s,t,u,w,x,y,z,A,B,C,D,E,F,G,H,I,J,K,L,M,N,P,Q,R,U,V,W,X,Y,Z,a0,a1,a2,a3,a4,a5,a6,a7,a8,a9]) S =
  (zN (zG zi 46 b 3 S) (fun v0 S1=>zN (jl zi false 3 v0 S1) (fun v1 S2=>zN (wH zi BinOp.eql 3 v1 (.int .i64 0) S2) (fun v2 S3=>some ([x0,b,x2,x3,x4,x5,x6,x7,x8,x9,c,d,f,g,i,k,l,m,n,o,p,q,r,s,t,u,w,x,y,z,A,B,C,D,E,F,G,H,I,J,K,L,M,N,P,v0,v1,v2,V,W,X,Y,Z,a0,a1,a2,a3,a4,a5,a6,a7,a8,a9],S3)) ()) ()) ()):=by
 kernel_rfl
theorem zI.r7 :jF zi ⟨false,false,false⟩ (jd zi O) (reg Try.f32 7) (reg Try.f32 7).toList ([x0,b,x2,x3,x4,x5,x6,x7,x8,x9,c,d,f,g,i,k,l,m,n,o,p,q,r,s,t,u,w,x,y,z,A,B,C,D,E,F,G,H,I,J,K,L,M,N,P,Q,R,U,V,W,X,Y,Z,a0,a1,a2,a3,a4,a5,a6,a7,a8,a9]) S =
  ( some ([x0,b,Value.bool true,x3,x4,x5,x6,x7,x8,x9,c,d,f,g,i,k,l,m,n,o,p,q,r,s,t,u,w,x,y,z,A,B,C,D,E,F,G,H,I,J,K,L,M,N,P,Q,R,U,V,W,X,Y,Z,a0,a1,a2,a3,a4,a5,a6,a7,a8,a9],S)):=by
 kernel_rfl
theorem zI.r8 :jF zi ⟨false,false,false⟩ (jd zi O) (reg Try.f32 8) (reg Try.f32 8).toList ([x0,b,x2,x3,x4,x5,x6,x7,x8,x9,c,d,f,g,i,k,l,m,n,o,p,q,r,s,t,u,w,x,y,z,A,B,C,D,E,F,G,H,I,J,K,L,M,N,P,Q,R,U,V,W,X,Y,Z,a0,a1,a2,a3,a4,a5,a6,a7,a8,a9]) S =
  (zN (zG zi 46 b 3 S) (fun v0 S1=>zN (jl zi false 3 v0 S1) (fun v1 S2=>zN ((jd zi O) 51 [(dem v1)] S2) (fun v2 S3=>zN (zZ v2 0 S3) (fun v4 S4=>zN (zZ (zV 0 v2) 1 S4) (fun v5 S5=>zN (zZ (zV 1 (zV 0 v2)) 2 S5) (fun v6 S6=>zN (zZ (zV 2 (zV 1 (zV 0 v2))) 3 S6) (fun v7 S7=>some ([x0,b,x2,x3,x4,v4,v5,v6,v7,x9,c,d,f,g,i,k,l,m,n,o,p,q,r,s,t,u,w,x,y,z,A,B,C,D,E,F,G,H,I,J,K,L,M,N,P,Q,R,U,zV 3 (zV 2 (zV 1 (zV 0 v2))),v0,v1,dem v2,dem v4,dem v5,dem v6,dem v7,a3,a4,a5,a6,a7,a8,a9],S7)) ()) ()) ()) ()) ()) ()) ()):=by
 kernel_rfl
theorem zI.r9 :jF zi ⟨false,false,false⟩ (jd zi O) (reg Try.f32 9) (reg Try.f32 9).toList ([x0,b,x2,x3,x4,x5,x6,x7,x8,x9,c,d,f,g,i,k,l,m,n,o,p,q,r,s,t,u,w,x,y,z,A,B,C,D,E,F,G,H,I,J,K,L,M,N,P,Q,R,U,V,W,X,Y,Z,a0,a1,a2,a3,a4,a5,a6,a7,a8,a9]) S =
  (gdK (dem x8) true (ret x5) S (fun v2 S1=>gdK (dem x8) true (zG zi 46 b 0) S1 (fun v3 S2=>gdK (dem x8) true (jl zi false 3 v3) S2 (fun v4 S3=>gdK (dem x8) true (wH zi BinOp.lss 3 (dem v2) v4) S3 (fun v5 S4=>zN (wW (dem x8) v5 (Value.bool false) S4) (fun v6 S5=>some ([x0,b,v6,x3,x4,x5,x6,x7,dem x8,x9,c,d,f,g,i,k,l,m,n,o,p,q,r,s,t,u,w,x,y,z,A,B,C,D,E,F,G,H,I,J,K,L,M,N,P,Q,R,U,V,W,X,Y,Z,a0,a1,a2,x8,dem x8,dem v2,v3,v4,v5,dem v6],S5)) ()) ()) ()) ()) ()):=by
 refine sP Try.f32 9 0 (v:=x8) ?_
 refine sP Try.f32 9 1 (v:=x8) ?_
 refine sG Try.f32 9 2 (j:=1) (fun v2 S1=>?_)
 refine sG Try.f32 9 3 (j:=1) (fun v3 S2=>?_)
 refine sG Try.f32 9 4 (j:=1) (fun v4 S3=>?_)
 refine sG Try.f32 9 5 (j:=1) (fun v5 S4=>?_)
 refine sD Try.f32 9 6 (fun v6 S5=>?_)
 refine sP Try.f32 9 7 (v:=v6) ?_
 kernel_rfl
theorem zI.rs:type_of% (alY @zI.r0 (alY @zI.r1 (alY @zI.r2 (alY @zI.r3 (alY @zI.r4 (alY @zI.r5 (alY @zI.r6 (alY @zI.r7 (alY @zI.r8 (@zI.r9)))))))))):=alY @zI.r0 (alY @zI.r1 (alY @zI.r2 (alY @zI.r3 (alY @zI.r4 (alY @zI.r5 (alY @zI.r6 (alY @zI.r7 (alY @zI.r8 (@zI.r9)))))))))
theorem zI.runs {x0:Value} {S S1:zx} {e:AEx} {T:List Value} (h:zL zi O false zI.code ([x0,zh,zh,zh,zh,zh,zh,zh,zh,zh,zh,zh,zh,zh,zh,zh,zh,zh,zh,zh,zh,zh,zh,zh,zh,zh,zh,zh,zh,zh,zh,zh,zh,zh,zh,zh,zh,zh,zh,zh,zh,zh,zh,zh,zh,zh,zh,zh,zh,zh,zh,zh,zh,zh,zh,zh,zh,zh,zh,zh,zh,zh,zh]) zx.empty=some (e,T,S1)) (he:e=.normal∨e=.ret) (hca:[x0].all (jL 16)=true) (hcv:jL 16 (T.getD 2 zh)=true):jd zi O 32 [x0] S=some (T.getD 2 zh,S) :=
 yD rfl rfl Try.func32 (by decide) zI.body (by exact h) he (yG (a:=T.getD 2 zh) ((show zQ zi T S1 Try.f32.results.toList=zQ zi T S1 [(ResultVar.tmp 2)] from by kernel_rfl).trans (by simp only [zQ])) (by kernel_rfl)) hca hcv
end Go.Proofs.Ytfjogganfjkckaa
namespace Go.Proofs.Ytfjogganfjkckaa
open Go.Abs
abbrev wZ.id:FuncId:=23
noncomputable def wZ.code:Code:=(.seq (.region 0 (reg Try.f23 0) false) (.seq (.seq (.region 1 (reg Try.f23 1) false) (.cond (.tmp 5) (.seq (.region 2 (reg Try.f23 2) false) Code.ret) Code.skip)) (.seq (.region 3 (reg Try.f23 3) false) Code.ret)))
theorem wZ.body:Try.f23.body=some wZ.code:=by kernel_rfl
variable (b c u m n o p q r s d f g i j k:Value) (S:zx)
theorem wZ.r0 :jF zi ⟨false,false,false⟩ (jd zi O) (reg Try.f23 0) (reg Try.f23 0).toList ([b,c,u,m,n,o,p,q,r,s,d,f,g,i,j,k]) S =
  (zN (JK (dem b) S) (fun t l=>some ([b,t,.int .i64 0,m,n,o,p,q,r,s,d,f,g,i,j,k],l)) ()):=by
 kernel_rfl
theorem wZ.r1 :jF zi ⟨false,false,false⟩ (jd zi O) (reg Try.f23 1) (reg Try.f23 1).toList ([b,c,u,m,n,o,p,q,r,s,d,f,g,i,j,k]) S =
  (zN (jl zi false 46 c S) (fun t l=>zN ((jd zi O) 45 [(dem t)] l) (fun v x=>zN (aUn zi UnOp.not v x) (fun w y=>some ([b,c,u,t,v,w,p,q,r,s,d,f,g,i,j,k],y)) ()) ()) ()):=by
 kernel_rfl
theorem wZ.r2 :jF zi ⟨false,false,false⟩ (jd zi O) (reg Try.f23 2) (reg Try.f23 2).toList ([b,c,u,m,n,o,p,q,r,s,d,f,g,i,j,k]) S =
  ( some ([b,c,.int .i64 0,m,n,o,p,q,r,s,d,f,g,i,j,k],S)):=by
 kernel_rfl
theorem wZ.r3 :jF zi ⟨false,false,false⟩ (jd zi O) (reg Try.f23 3) (reg Try.f23 3).toList ([b,c,u,m,n,o,p,q,r,s,d,f,g,i,j,k]) S =
  (zN (zG zi 46 c 0 S) (fun t l=>zN (jl zi false 3 t l) (fun v x=>zN (wH zi BinOp.mul 3 v (.int .i64 65536) x) (fun w y=>zN (zG zi 46 c 1 y) (fun z H=>zN (jl zi false 3 z H) (fun A I=>zN (wH zi BinOp.mul 3 A (.int .i64 256) I) (fun B J=>zN (wH zi BinOp.add 3 w B J) (fun C K=>zN (zG zi 46 c 2 K) (fun D L=>zN (jl zi false 3 D L) (fun E M=>zN (wH zi BinOp.add 3 C E M) (fun F G=>some ([b,c,F,m,n,o,t,v,w,z,A,B,C,D,E,dem F],G)) ()) ()) ()) ()) ()) ()) ()) ()) ()) ()):=by
 kernel_rfl
theorem wZ.rs:type_of% (alY @wZ.r0 (alY @wZ.r1 (alY @wZ.r2 (@wZ.r3)))):=alY @wZ.r0 (alY @wZ.r1 (alY @wZ.r2 (@wZ.r3)))
theorem wZ.runs {b:Value} {S l:zx} {e:AEx} {T:List Value} (h:zL zi O false wZ.code ([b,zh,zh,zh,zh,zh,zh,zh,zh,zh,zh,zh,zh,zh,zh,zh]) zx.empty=some (e,T,l)) (he:e=.normal∨e=.ret) (hca:[b].all (jL 16)=true) (hcv:jL 16 (T.getD 2 zh)=true):jd zi O 23 [b] S=some (T.getD 2 zh,S) :=
 yD rfl rfl Try.func23 (by decide) wZ.body (by exact h) he (yG (a:=T.getD 2 zh) ((show zQ zi T l Try.f23.results.toList=zQ zi T l [(ResultVar.tmp 2)] from by kernel_rfl).trans (by simp only [zQ])) (by kernel_rfl)) hca hcv
end Go.Proofs.Ytfjogganfjkckaa
namespace Go.Proofs.Ytfjogganfjkckaa
open Go.Abs
abbrev wo.id:FuncId:=60
noncomputable def wo.code:Code:=(.seq (.region 0 (reg Try.f60 0) false) (.seq (.region 1 (reg Try.f60 1) false) Code.ret))
theorem wo.body:Try.f60.body=some wo.code:=by kernel_rfl
variable (b c d o p q z s t u i k l m n:Value) (S:zx)
theorem wo.r0 :jF zi ⟨false,false,false⟩ (jd zi O) (reg Try.f60 0) (reg Try.f60 0).toList ([b,c,d,o,p,q,z,s,t,u,i,k,l,m,n]) S =
  ( some ([b,c,d,o,p,q,Value.bool false,s,t,u,i,k,l,m,n],S)):=by
 kernel_rfl
theorem wo.r1 :jF zi ⟨false,false,false⟩ (jd zi O) (reg Try.f60 1) (reg Try.f60 1).toList ([b,c,d,o,p,q,z,s,t,u,i,k,l,m,n]) S =
  (zN (wH zi BinOp.geq 3 (dem b) (dem c) S) (fun f g=>gdK (dem f) true (ret b) g (fun w A=>gdK (dem f) true (ret d) A (fun x B=>gdK (dem f) true (wH zi BinOp.leq 3 (dem w) (dem x)) B (fun y C=>zN (wW (dem f) y (Value.bool false) C) (fun r D=>some ([b,c,d,o,p,q,r,dem b,dem c,f,dem f,dem w,dem x,y,dem r],D)) ()) ()) ()) ()) ()):=by
 refine sP Try.f60 1 0 (v:=b) ?_
 refine sP Try.f60 1 1 (v:=c) ?_
 refine sD Try.f60 1 2 (fun f g=>?_)
 refine sP Try.f60 1 3 (v:=f) ?_
 refine sG Try.f60 1 4 (j:=3) (fun w A=>?_)
 refine sG Try.f60 1 5 (j:=3) (fun x B=>?_)
 refine sG Try.f60 1 6 (j:=3) (fun y C=>?_)
 refine sD Try.f60 1 7 (fun r D=>?_)
 refine sP Try.f60 1 8 (v:=r) ?_
 kernel_rfl
theorem wo.rs:type_of% (alY @wo.r0 (@wo.r1)):=alY @wo.r0 (@wo.r1)
theorem wo.runs {b c d:Value} {S g:zx} {e:AEx} {T:List Value} (h:zL zi O false wo.code ([b,c,d,zh,zh,zh,zh,zh,zh,zh,zh,zh,zh,zh,zh]) S=some (e,T,g)) (he:e=.normal∨e=.ret):jd zi O 60 [b,c,d] S=some (T.getD 6 zh,g) :=
 yK rfl rfl Try.func60 (by decide) wo.body (by exact h) he (yG (a:=T.getD 6 zh) ((show zQ zi T g Try.f60.results.toList=zQ zi T g [(ResultVar.tmp 6)] from by kernel_rfl).trans (by simp only [zQ])) (by kernel_rfl))
end Go.Proofs.Ytfjogganfjkckaa
namespace Go.Proofs.Ytfjogganfjkckaa
open Go.Abs
abbrev wU.id:FuncId:=61
noncomputable def wU.code:Code:=(.seq (.region 0 (reg Try.f61 0) false) (.seq (.region 1 (reg Try.f61 1) false) Code.ret))
theorem wU.body:Try.f61.body=some wU.code:=by kernel_rfl
variable (b g w k l m n o p q f:Value) (S:zx)
theorem wU.r0 :jF zi ⟨false,false,false⟩ (jd zi O) (reg Try.f61 0) (reg Try.f61 0).toList ([b,g,w,k,l,m,n,o,p,q,f]) S =
  ( some ([b,g,Value.bool false,k,l,m,n,o,p,q,f],S)):=by
 kernel_rfl
theorem wU.r1 :jF zi ⟨false,false,false⟩ (jd zi O) (reg Try.f61 1) (reg Try.f61 1).toList ([b,g,w,k,l,m,n,o,p,q,f]) S =
  (zN ((jd zi O) 60 [(dem (dem b)),(.int .i64 65536),(.int .i64 268435455)] S) (fun c d=>gdK (dem c) true (ret b) d (fun r x=>gdK (dem c) true (wH zi BinOp.rem 3 (dem r) (.int .i64 65536)) x (fun s y=>gdK (dem c) true (wH zi BinOp.quo 3 s (.int .i64 256)) y (fun t z=>gdK (dem c) true (wH zi BinOp.lss 3 t (.int .i64 7)) z (fun u A=>zN (wW (dem c) u (Value.bool false) A) (fun i B=>some ([b,g,i,dem b,c,dem c,dem r,s,t,u,dem i],B)) ()) ()) ()) ()) ()) ()):=by
 refine sP Try.f61 1 0 (v:=b) ?_
 refine sD Try.f61 1 1 (fun c d=>?_)
 refine sP Try.f61 1 2 (v:=c) ?_
 refine sG Try.f61 1 3 (j:=2) (fun r x=>?_)
 refine sG Try.f61 1 4 (j:=2) (fun s y=>?_)
 refine sG Try.f61 1 5 (j:=2) (fun t z=>?_)
 refine sG Try.f61 1 6 (j:=2) (fun u A=>?_)
 refine sD Try.f61 1 7 (fun i B=>?_)
 refine sP Try.f61 1 8 (v:=i) ?_
 kernel_rfl
theorem wU.rs:type_of% (alY @wU.r0 (@wU.r1)):=alY @wU.r0 (@wU.r1)
theorem wU.runs {b:Value} {S d:zx} {e:AEx} {T:List Value} (h:zL zi O false wU.code ([b,zh,zh,zh,zh,zh,zh,zh,zh,zh,zh]) S=some (e,T,d)) (he:e=.normal∨e=.ret):jd zi O 61 [b] S=some (T.getD 2 zh,d) :=
 yK rfl rfl Try.func61 (by decide) wU.body (by exact h) he (yG (a:=T.getD 2 zh) ((show zQ zi T d Try.f61.results.toList=zQ zi T d [(ResultVar.tmp 2)] from by kernel_rfl).trans (by simp only [zQ])) (by kernel_rfl))
end Go.Proofs.Ytfjogganfjkckaa
namespace Go.Proofs.Ytfjogganfjkckaa
open Go.Abs
abbrev yh.id:FuncId:=74
noncomputable def yh.code:Code:=(.seq (.region 0 (reg Try.f74 0) false) (.seq (.seq (.region 1 (reg Try.f74 1) false) (.cond (.tmp 5) (.seq (.region 2 (reg Try.f74 2) false) Code.ret) Code.skip)) (.seq (.region 3 (reg Try.f74 3) false) Code.ret)))
theorem yh.body:Try.f74.body=some yh.code:=by kernel_rfl
variable (b c l f g i j k:Value) (S:zx)
theorem yh.r0 :jF zi ⟨false,false,false⟩ (jd zi O) (reg Try.f74 0) (reg Try.f74 0).toList ([b,c,l,f,g,i,j,k]) S =
  ( some ([b,c,.int .i64 0,f,g,i,j,k],S)):=by
 kernel_rfl
theorem yh.r1 :jF zi ⟨false,false,false⟩ (jd zi O) (reg Try.f74 1) (reg Try.f74 1).toList ([b,c,l,f,g,i,j,k]) S =
  (zN ((jd zi O) 61 [(dem (dem b))] S) (fun m d=>zN (aUn zi UnOp.not m d) (fun n o=>some ([b,c,l,dem b,m,n,j,k],o)) ()) ()):=by
 kernel_rfl
theorem yh.r2 :jF zi ⟨false,false,false⟩ (jd zi O) (reg Try.f74 2) (reg Try.f74 2).toList ([b,c,l,f,g,i,j,k]) S =
  ( some ([b,c,.int .i64 0,f,g,i,j,k],S)):=by
 kernel_rfl
theorem yh.r3 :jF zi ⟨false,false,false⟩ (jd zi O) (reg Try.f74 3) (reg Try.f74 3).toList ([b,c,l,f,g,i,j,k]) S =
  (zN (wH zi BinOp.quo 3 (dem b) (.int .i64 65536) S) (fun m d=>some ([b,c,m,f,g,i,dem b,dem m],d)) ()):=by
 kernel_rfl
theorem yh.rs:type_of% (alY @yh.r0 (alY @yh.r1 (alY @yh.r2 (@yh.r3)))):=alY @yh.r0 (alY @yh.r1 (alY @yh.r2 (@yh.r3)))
theorem yh.runs {b:Value} {S d:zx} {e:AEx} {T:List Value} (h:zL zi O false yh.code ([b,zh,zh,zh,zh,zh,zh,zh]) S=some (e,T,d)) (he:e=.normal∨e=.ret):jd zi O 74 [b] S=some (T.getD 2 zh,d) :=
 yK rfl rfl Try.func74 (by decide) yh.body (by exact h) he (yG (a:=T.getD 2 zh) ((show zQ zi T d Try.f74.results.toList=zQ zi T d [(ResultVar.tmp 2)] from by kernel_rfl).trans (by simp only [zQ])) (by kernel_rfl))
end Go.Proofs.Ytfjogganfjkckaa
namespace Go.Proofs.Ytfjogganfjkckaa
open Go.Abs
abbrev jo.id:FuncId:=51
noncomputable def jo.code:Code:=(.seq (.region 0 (reg Try.f51 0) false) (.seq (.seq (.region 1 (reg Try.f51 1) false) (.cond (.tmp 10) (.seq (.region 2 (reg Try.f51 2) false) Code.ret) Code.skip)) (.seq (.region 3 (reg Try.f51 3) false) (.seq (.region 4 (reg Try.f51 4) false) Code.ret))))
theorem jo.body:Try.f51.body=some jo.code:=by kernel_rfl
variable (a E H I J K b c C G d f g i k l m n o p q r s t u w x y z A B:Value) (S:zx)
theorem jo.r0 :jF zi ⟨false,false,false⟩ (jd zi O) (reg Try.f51 0) (reg Try.f51 0).toList ([a,E,H,I,J,K,b,c,C,G,d,f,g,i,k,l,m,n,o,p,q,r,s,t,u,w,x,y,z,A,B]) S =
  ( some ([a,E,.int .i64 0,.int .i64 0,.int .i64 0,Value.bool false,b,c,C,G,d,f,g,i,k,l,m,n,o,p,q,r,s,t,u,w,x,y,z,A,B],S)):=by
 kernel_rfl
theorem jo.r1 :jF zi ⟨false,false,false⟩ (jd zi O) (reg Try.f51 1) (reg Try.f51 1).toList ([a,E,H,I,J,K,b,c,C,G,d,f,g,i,k,l,m,n,o,p,q,r,s,t,u,w,x,y,z,A,B]) S =
  (zN (wH zi BinOp.lss 3 (dem a) (.int .i64 0) S) (fun R D=>some ([a,E,H,I,J,K,b,c,C,dem a,R,f,g,i,k,l,m,n,o,p,q,r,s,t,u,w,x,y,z,A,B],D)) ()):=by
 kernel_rfl
theorem jo.r2 :jF zi ⟨false,false,false⟩ (jd zi O) (reg Try.f51 2) (reg Try.f51 2).toList ([a,E,H,I,J,K,b,c,C,G,d,f,g,i,k,l,m,n,o,p,q,r,s,t,u,w,x,y,z,A,B]) S =
  ( some ([a,E,.int .i64 0,.int .i64 0,.int .i64 0,Value.bool false,b,c,C,G,d,f,g,i,k,l,m,n,o,p,q,r,s,t,u,w,x,y,z,A,B],S)):=by
 kernel_rfl
theorem jo.r3 :jF zi ⟨false,false,false⟩ (jd zi O) (reg Try.f51 3) (reg Try.f51 3).toList ([a,E,H,I,J,K,b,c,C,G,d,f,g,i,k,l,m,n,o,p,q,r,s,t,u,w,x,y,z,A,B]) S =
  (zN (wH zi BinOp.quo 3 (dem a) (.int .i64 65536) S) (fun R D=>zN (wH zi BinOp.quo 3 (dem a) (.int .i64 256) D) (fun Y U=>zN (wH zi BinOp.rem 3 Y (.int .i64 256) U) (fun F V=>zN (wH zi BinOp.rem 3 (dem a) (.int .i64 256) V) (fun N W=>some ([a,E,H,I,J,K,R,F,N,G,d,dem a,dem R,dem a,Y,dem F,dem a,dem N,o,p,q,r,s,t,u,w,x,y,z,A,B],W)) ()) ()) ()) ()):=by
 kernel_rfl
theorem jo.r4 :jF zi ⟨false,false,false⟩ (jd zi O) (reg Try.f51 4) (reg Try.f51 4).toList ([a,E,H,I,J,K,b,c,C,G,d,f,g,i,k,l,m,n,o,p,q,r,s,t,u,w,x,y,z,A,B]) S =
  (zN (wH zi BinOp.geq 3 (dem (dem b)) (.int .i64 1) S) (fun F D=>gdK (dem F) true (ret (dem b)) D (fun N U=>gdK (dem F) true (wH zi BinOp.leq 3 (dem N) (.int .i64 4095)) U (fun X V=>zN (wW (dem F) X (Value.bool false) V) (fun L W=>gdK (dem L) true (ret (dem c)) W (fun P Z=>gdK (dem L) true (wH zi BinOp.leq 3 (dem P) (.int .i64 6)) Z (fun Q S6=>zN (wW (dem L) Q (Value.bool false) S6) (fun M S7=>some ([a,E,b,c,C,M,dem b,dem c,dem C,G,d,f,g,i,k,l,m,n,dem b,dem c,dem C,dem (dem b),F,dem F,dem N,X,L,dem L,dem P,Q,dem M],S7)) ()) ()) ()) ()) ()) ()) ()):=by
 refine sP Try.f51 4 0 (v:=b) ?_
 refine sP Try.f51 4 1 (v:=c) ?_
 refine sP Try.f51 4 2 (v:=C) ?_
 refine sP Try.f51 4 3 (v:=(dem b)) ?_
 refine sD Try.f51 4 4 (fun F D=>?_)
 refine sP Try.f51 4 5 (v:=F) ?_
 refine sG Try.f51 4 6 (j:=5) (fun N U=>?_)
 refine sG Try.f51 4 7 (j:=5) (fun X V=>?_)
 refine sD Try.f51 4 8 (fun L W=>?_)
 refine sP Try.f51 4 9 (v:=L) ?_
 refine sG Try.f51 4 10 (j:=9) (fun P Z=>?_)
 refine sG Try.f51 4 11 (j:=9) (fun Q S6=>?_)
 refine sD Try.f51 4 12 (fun M S7=>?_)
 refine sP Try.f51 4 13 (v:=b) ?_
 refine sP Try.f51 4 14 (v:=c) ?_
 refine sP Try.f51 4 15 (v:=C) ?_
 refine sP Try.f51 4 16 (v:=M) ?_
 kernel_rfl
theorem jo.rs:type_of% (alY @jo.r0 (alY @jo.r1 (alY @jo.r2 (alY @jo.r3 (@jo.r4))))):=alY @jo.r0 (alY @jo.r1 (alY @jo.r2 (alY @jo.r3 (@jo.r4))))
theorem jo.runs {a:Value} {S D:zx} {e:AEx} {T:List Value} (h:zL zi O false jo.code ([a,zh,zh,zh,zh,zh,zh,zh,zh,zh,zh,zh,zh,zh,zh,zh,zh,zh,zh,zh,zh,zh,zh,zh,zh,zh,zh,zh,zh,zh,zh]) S=some (e,T,D)) (he:e=.normal∨e=.ret)  (h0:wE (T.getD 2 zh)=true) (h1:wE (T.getD 3 zh)=true) (h2:wE (T.getD 4 zh)=true) (h3:wE (T.getD 5 zh)=true):jd zi O 51 [a] S=some (Value.tuple #[T.getD 2 zh,T.getD 3 zh,T.getD 4 zh,T.getD 5 zh],D) :=
 yK rfl rfl Try.func51 (by decide) jo.body (by exact h) he ((qj ((show zQ zi T D Try.f51.results.toList=zQ zi T D [(ResultVar.tmp 2),(ResultVar.tmp 3),(ResultVar.tmp 4),(ResultVar.tmp 5)] from by kernel_rfl).trans (by simp only [zQ])) (by kernel_rfl) (by simp only [List.all_cons,List.all_nil,h0,h1,h2,h3,Bool.and_true])).trans rfl)
end Go.Proofs.Ytfjogganfjkckaa
namespace Go.Proofs.Ytfjogganfjkckaa
open Go.Abs
def btw (n a b:Int):Bool:=decide (a≤n) && decide (n≤b)
theorem Xf {n a b:Int}:btw n a b=true ↔ a≤n∧n≤b:=by simp [btw]
def xI (n:Int):Bool:=btw n 65536 268435455 && decide (n % 65536 / 256 < 7)
theorem vV {n:Int}:xI n=true ↔ 65536≤n∧n≤268435455∧n % 65536 / 256 < 7:=by simp [xI,btw,and_assoc]
def Y3 (n:Int):Int:=if xI n=true then n / 65536 else 0
theorem aah {n m:Int} (h:0≤n):n.tmod m=n % m:=Int.tmod_eq_emod_of_nonneg h
theorem YR {n m:Int} (h:0≤n):n.tdiv m=n / m:=Int.tdiv_eq_ediv_of_nonneg h
theorem QA:(65536:Int)≠0:=by decide
theorem akb:(256:Int)≠0:=by decide
theorem wo.v (n a b:Int) (S:zx):jd zi O wo.id [.int .i64 n,.int .i64 a,.int .i64 b] S=some (.bool (btw n a b),S):=by
 obtain ⟨T,hTe⟩:∃ T,T=(.int .i64 n::.int .i64 a::.int .i64 b::zh::zh::zh::zh::zh::zh::zh::zh::zh::zh::zh::zh::[]):=⟨_,rfl⟩
 have hr:zL zi O false wo.code T S=zL zi O false wo.code T S:=rfl
 unfold btw
 by_cases h1:a≤n
 ·
  conv at hr =>
   rhs
   rw [hTe]
   simp only [wo.code,wo.rs,zSs,reduceIte,zk,zn,zo,zq,decide_eq_true h1]
  rw [decide_eq_true h1,Bool.true_and]
  rw [hTe] at hr
  exact wo.runs hr (.inr rfl)
 ·
  conv at hr =>
   rhs
   rw [hTe]
   simp only [wo.code,wo.rs,zSs,reduceIte,zk,zn,zo,zq,decide_eq_false h1]
  rw [decide_eq_false h1,Bool.false_and]
  rw [hTe] at hr
  exact wo.runs hr (.inr rfl)
theorem wU.v (n:Int) (S:zx):jd zi O wU.id [.int .i64 n] S=some (.bool (xI n),S):=by
 obtain ⟨T,hTe⟩:∃ T,T=(.int .i64 n::zh::zh::zh::zh::zh::zh::zh::zh::zh::zh::[]):=⟨_,rfl⟩
 have hr:zL zi O false wU.code T S=zL zi O false wU.code T S:=rfl
 unfold xI
 cases h1:btw n 65536 268435455
 ·
  conv at hr =>
   rhs
   rw [hTe]
   simp only [wU.code,wU.rs,zSs,reduceIte,zk,zn,zo,zq,wo.v,h1]
  rw [hTe] at hr
  exact wU.runs hr (.inr rfl)
 ·
  have hb:=Xf.mp h1
  have q1:IntKind.i64.wrap ((n.tmod 65536).tdiv 256)=n % 65536 / 256:=by
   rw [aah (by omega),YR (by omega),wrap_i64 (by omega) (by omega)]
  conv at hr =>
   rhs
   rw [hTe]
   simp only [wU.code,wU.rs,zSs,reduceIte,zk,zn,zo,zq,wo.v,h1,W9 _ _ _ QA,vC _ _ _ akb,q1]
  rw [hTe] at hr
  rw [Bool.true_and]
  exact wU.runs hr (.inr rfl)
theorem yh.v (n:Int) (S:zx):jd zi O yh.id [.int .i64 n] S=some (.int .i64 (Y3 n),S):=by
 obtain ⟨T,hTe⟩:∃ T,T=(.int .i64 n::zh::zh::zh::zh::zh::zh::zh::[]):=⟨_,rfl⟩
 have hr:zL zi O false yh.code T S=zL zi O false yh.code T S:=rfl
 unfold Y3
 cases h1:xI n
 ·
  conv at hr =>
   rhs
   rw [hTe]
   simp only [yh.code,yh.rs,zSs,reduceIte,zk,zn,zo,zq,wU.v,h1]
  rw [hTe] at hr
  exact yh.runs hr (.inr rfl)
 ·
  have hb:=vV.mp h1
  have q1:IntKind.i64.wrap (n.tdiv 65536)=n / 65536:=by
   rw [YR (by omega),wrap_i64 (by omega) (by omega)]
  conv at hr =>
   rhs
   rw [hTe]
   simp only [yh.code,yh.rs,zSs,reduceIte,zk,zn,zo,zq,wU.v,h1,vC _ _ _ QA,q1]
  rw [hTe] at hr
  exact yh.runs hr (.inr rfl)
def abq (n:Int):Value:=if n < 0 then .tuple #[.int .i64 0,.int .i64 0,.int .i64 0,.bool false] else .tuple #[.int .i64 (n / 65536),.int .i64 (n / 256 % 256),.int .i64 (n % 256),.bool (xI n)]
theorem jo.v (n:Int) (hn:n < 9223372036854775808) (S:zx):jd zi O jo.id [.int .i64 n] S=some (abq n,S):=by
 obtain ⟨T,hTe⟩:∃ T,T=(.int .i64 n::zh::zh::zh::zh::zh::zh::zh::zh::zh::zh::zh::zh::zh::zh::zh::zh::zh::zh::zh::zh::zh::zh::zh::zh::zh::zh::zh::zh::zh::zh::[]):=⟨_,rfl⟩
 have hr:zL zi O false jo.code T S=zL zi O false jo.code T S:=rfl
 unfold abq
 by_cases h0:n < 0
 ·
  conv at hr =>
   rhs
   rw [hTe]
   simp only [jo.code,jo.rs,zSs,reduceIte,zk,zn,zo,zq,decide_eq_true h0]
  rw [hTe] at hr
  rw [if_pos h0]
  exact jo.runs hr (.inr rfl) rfl rfl rfl rfl
 ·
  have q1:IntKind.i64.wrap (n.tdiv 65536)=n / 65536:=by
   rw [YR (by omega),wrap_i64 (by omega) (by omega)]
  have q2:(IntKind.i64.wrap (n.tdiv 256)).tmod 256=n / 256 % 256:=by
   rw [YR (by omega),wrap_i64 (by omega) (by omega),aah (by omega)]
  have q3:n.tmod 256=n % 256:=aah (by omega)
  rw [if_neg h0]
  by_cases h1:1≤n / 65536
  ·
   by_cases h2:n / 65536≤4095
   ·
    have e:xI n=decide (n / 256 % 256≤6):=by
     rw [Bool.eq_iff_iff,vV];simp;omega
    rw [e]
    conv at hr =>
     rhs
     rw [hTe]
     simp only [jo.code,jo.rs,zSs,reduceIte,zk,zn,zo,zq,decide_eq_false h0,W9 _ _ _ akb,vC _ _ _ akb,vC _ _ _ QA,q1,q2,q3,decide_eq_true h1,decide_eq_true h2]
    rw [hTe] at hr
    exact jo.runs hr (.inr rfl) rfl rfl rfl rfl
   ·
    have e:xI n=false:=by
     cases h:xI n with
     | false=>rfl
     | true=>have:=vV.mp h;omega
    rw [e]
    conv at hr =>
     rhs
     rw [hTe]
     simp only [jo.code,jo.rs,zSs,reduceIte,zk,zn,zo,zq,decide_eq_false h0,W9 _ _ _ akb,vC _ _ _ akb,vC _ _ _ QA,q1,q2,q3,decide_eq_true h1,decide_eq_false h2]
    rw [hTe] at hr
    exact jo.runs hr (.inr rfl) rfl rfl rfl rfl
  ·
   have e:xI n=false:=by
    cases h:xI n with
    | false=>rfl
    | true=>have:=vV.mp h;omega
   rw [e]
   conv at hr =>
    rhs
    rw [hTe]
    simp only [jo.code,jo.rs,zSs,reduceIte,zk,zn,zo,zq,decide_eq_false h0,W9 _ _ _ akb,vC _ _ _ akb,vC _ _ _ QA,q1,q2,q3,decide_eq_false h1]
   rw [hTe] at hr
   exact jo.runs hr (.inr rfl) rfl rfl rfl rfl
end Go.Proofs.Ytfjogganfjkckaa
namespace Go.Proofs.Ytfjogganfjkckaa
open Go.Abs
abbrev zW.id:FuncId:=65
noncomputable def zW.jS:Code:=(.seq (.region 6 (reg Try.f65 6) false) (.seq (.cond (.tmp 35) Code.skip (.exit 0)) (.seq (.block 1 (.seq (.region 7 (reg Try.f65 7) false) (.seq (.seq (.region 8 (reg Try.f65 8) false) (.cond (.tmp 43) (.seq (.region 9 (reg Try.f65 9) false) Code.ret) Code.skip)) (.seq (.region 10 (reg Try.f65 10) false) (.region 11 (reg Try.f65 11) false))))) (.region 12 (reg Try.f65 12) false))))
noncomputable def zW.code:Code:=(.seq (.region 0 (reg Try.f65 0) false) (.seq (.region 1 (reg Try.f65 1) false) (.seq (.seq (.region 2 (reg Try.f65 2) false) (.cond (.tmp 30) (.seq (.region 3 (reg Try.f65 3) false) Code.ret) Code.skip)) (.seq (.region 4 (reg Try.f65 4) false) (.seq (.seq (.region 5 (reg Try.f65 5) false) (.block 0 (.loop zW.jS))) (.seq (.seq (.region 13 (reg Try.f65 13) false) (.cond (.tmp 57) (.seq (.region 14 (reg Try.f65 14) false) Code.ret) Code.skip)) (.seq (.region 15 (reg Try.f65 15) false) Code.ret)))))))
theorem zW.body:Try.f65.body=some zW.code:=by kernel_rfl
theorem zW.eta {T:List Value} (h:T.length=59):T=[T.getD 0 zh,T.getD 1 zh,T.getD 2 zh,T.getD 3 zh,T.getD 4 zh,T.getD 5 zh,T.getD 6 zh,T.getD 7 zh,T.getD 8 zh,T.getD 9 zh,T.getD 10 zh,T.getD 11 zh,T.getD 12 zh,T.getD 13 zh,T.getD 14 zh,T.getD 15 zh,T.getD 16 zh,T.getD 17 zh,T.getD 18 zh,T.getD 19 zh,T.getD 20 zh,T.getD 21 zh,T.getD 22 zh,T.getD 23 zh,T.getD 24 zh,T.getD 25 zh,T.getD 26 zh,T.getD 27 zh,T.getD 28 zh,T.getD 29 zh,T.getD 30 zh,T.getD 31 zh,T.getD 32 zh,T.getD 33 zh,T.getD 34 zh,T.getD 35 zh,T.getD 36 zh,T.getD 37 zh,T.getD 38 zh,T.getD 39 zh,T.getD 40 zh,T.getD 41 zh,T.getD 42 zh,T.getD 43 zh,T.getD 44 zh,T.getD 45 zh,T.getD 46 zh,T.getD 47 zh,T.getD 48 zh,T.getD 49 zh,T.getD 50 zh,T.getD 51 zh,T.getD 52 zh,T.getD 53 zh,T.getD 54 zh,T.getD 55 zh,T.getD 56 zh,T.getD 57 zh,T.getD 58 zh]:=(qQ T 59 h).trans (by kernel_rfl)
variable (x0 x1 x2 x3 x4 x5 x6 x7 x8 x9 a d f g i k l m n o p q r s t u w x y z A B C b c D E F G H I J K L M N P Q R U V W X Y Z a0 a1 a2 a3:Value) (S:zx)
theorem zW.r0 :jF zi ⟨false,false,false⟩ (jd zi O) (reg Try.f65 0) (reg Try.f65 0).toList ([x0,x1,x2,x3,x4,x5,x6,x7,x8,x9,a,d,f,g,i,k,l,m,n,o,p,q,r,s,t,u,w,x,y,z,A,B,C,b,c,D,E,F,G,H,I,J,K,L,M,N,P,Q,R,U,V,W,X,Y,Z,a0,a1,a2,a3]) S =
  ( some ([x0,x1,Value.slice none 0 0,.int .i64 0,x4,x5,x6,x7,x8,x9,a,d,f,g,i,k,l,m,n,o,p,q,r,s,t,u,w,x,y,z,A,B,C,b,c,D,E,F,G,H,I,J,K,L,M,N,P,Q,R,U,V,W,X,Y,Z,a0,a1,a2,a3],S)):=by
 kernel_rfl
theorem zW.r1 :jF zi ⟨false,false,false⟩ (jd zi O) (reg Try.f65 1) (reg Try.f65 1).toList ([x0,x1,x2,x3,x4,x5,x6,x7,x8,x9,a,d,f,g,i,k,l,m,n,o,p,q,r,s,t,u,w,x,y,z,A,B,C,b,c,D,E,F,G,H,I,J,K,L,M,N,P,Q,R,U,V,W,X,Y,Z,a0,a1,a2,a3]) S =
  (zN ((jd zi O) 55 [(dem (dem x0)),(.int .i64 1)] S) (fun v1 S1=>zN (zZ v1 0 S1) (fun v3 S2=>zN (zZ (zV 0 v1) 1 S2) (fun v4 S3=>zN (zZ (zV 1 (zV 0 v1)) 2 S3) (fun v5 S4=>some ([x0,x1,x2,x3,v3,v4,v5,x7,x8,x9,a,zV 2 (zV 1 (zV 0 v1)),dem x0,dem v1,dem v3,dem v4,dem v5,m,n,o,p,q,r,s,t,u,w,x,y,z,A,B,C,b,c,D,E,F,G,H,I,J,K,L,M,N,P,Q,R,U,V,W,X,Y,Z,a0,a1,a2,a3],S4)) ()) ()) ()) ()):=by
 kernel_rfl
theorem zW.r2 :jF zi ⟨false,false,false⟩ (jd zi O) (reg Try.f65 2) (reg Try.f65 2).toList ([x0,x1,x2,x3,x4,x5,x6,x7,x8,x9,a,d,f,g,i,k,l,m,n,o,p,q,r,s,t,u,w,x,y,z,A,B,C,b,c,D,E,F,G,H,I,J,K,L,M,N,P,Q,R,U,V,W,X,Y,Z,a0,a1,a2,a3]) S =
  (zN (wH zi BinOp.neq 64 (dem x6) (.int .i64 0) S) (fun v1 S1=>gdK (dem v1) false (ret x4) S1 (fun v3 S2=>gdK (dem v1) false (jr zi 24 (dem v3) (.int .i64 0)) S2 (fun v4 S3=>gdK (dem v1) false (jl zi false 3 v4) S3 (fun v5 S4=>gdK (dem v1) false (wH zi BinOp.lss 3 v5 (.int .i64 0)) S4 (fun v6 S5=>zN (wW (dem v1) (Value.bool true) v6 S5) (fun v7 S6=>gdK (dem v7) false (ret x4) S6 (fun v9 S7=>gdK (dem v7) false (jr zi 24 (dem v9) (.int .i64 0)) S7 (fun a4 S8=>gdK (dem v7) false (jl zi false 3 a4) S8 (fun a5 S9=>gdK (dem v7) false (wH zi BinOp.gtr 3 a5 (.int .i64 3)) S9 (fun a6 a7=>zN (wW (dem v7) (Value.bool true) a6 a7) (fun a8 a9=>some ([x0,x1,x2,x3,x4,x5,x6,x7,x8,x9,a,d,f,g,i,k,l,dem x6,v1,dem v1,dem v3,v4,v5,v6,v7,dem v7,dem v9,a4,a5,a6,a8,B,C,b,c,D,E,F,G,H,I,J,K,L,M,N,P,Q,R,U,V,W,X,Y,Z,a0,a1,a2,a3],a9)) ()) ()) ()) ()) ()) ()) ()) ()) ()) ()) ()):=by
 refine sP Try.f65 2 0 (v:=x6) ?_
 refine sD Try.f65 2 1 (fun v1 S1=>?_)
 refine sP Try.f65 2 2 (v:=v1) ?_
 refine sG Try.f65 2 3 (j:=2) (fun v3 S2=>?_)
 refine sG Try.f65 2 4 (j:=2) (fun v4 S3=>?_)
 refine sG Try.f65 2 5 (j:=2) (fun v5 S4=>?_)
 refine sG Try.f65 2 6 (j:=2) (fun v6 S5=>?_)
 refine sD Try.f65 2 7 (fun v7 S6=>?_)
 refine sP Try.f65 2 8 (v:=v7) ?_
 refine sG Try.f65 2 9 (j:=8) (fun v9 S7=>?_)
 refine sG Try.f65 2 10 (j:=8) (fun a4 S8=>?_)
 refine sG Try.f65 2 11 (j:=8) (fun a5 S9=>?_)
 refine sG Try.f65 2 12 (j:=8) (fun a6 a7=>?_)
 refine sD Try.f65 2 13 (fun a8 a9=>?_)
 kernel_rfl
theorem zW.r3 :jF zi ⟨false,false,false⟩ (jd zi O) (reg Try.f65 3) (reg Try.f65 3).toList ([x0,x1,x2,x3,x4,x5,x6,x7,x8,x9,a,d,f,g,i,k,l,m,n,o,p,q,r,s,t,u,w,x,y,z,A,B,C,b,c,D,E,F,G,H,I,J,K,L,M,N,P,Q,R,U,V,W,X,Y,Z,a0,a1,a2,a3]) S =
  ( some ([x0,x1,Value.slice none 0 0,.int .i64 61,x4,x5,x6,x7,x8,x9,a,d,f,g,i,k,l,m,n,o,p,q,r,s,t,u,w,x,y,z,A,B,C,b,c,D,E,F,G,H,I,J,K,L,M,N,P,Q,R,U,V,W,X,Y,Z,a0,a1,a2,a3],S)):=by
 kernel_rfl
theorem zW.r4 :jF zi ⟨false,false,false⟩ (jd zi O) (reg Try.f65 4) (reg Try.f65 4).toList ([x0,x1,x2,x3,x4,x5,x6,x7,x8,x9,a,d,f,g,i,k,l,m,n,o,p,q,r,s,t,u,w,x,y,z,A,B,C,b,c,D,E,F,G,H,I,J,K,L,M,N,P,Q,R,U,V,W,X,Y,Z,a0,a1,a2,a3]) S =
  ( some ([x0,x1,x2,x3,x4,x5,x6,Value.slice none 0 0,x8,x9,a,d,f,g,i,k,l,m,n,o,p,q,r,s,t,u,w,x,y,z,A,B,C,b,c,D,E,F,G,H,I,J,K,L,M,N,P,Q,R,U,V,W,X,Y,Z,a0,a1,a2,a3],S)):=by
 kernel_rfl
theorem zW.r5 :jF zi ⟨false,false,false⟩ (jd zi O) (reg Try.f65 5) (reg Try.f65 5).toList ([x0,x1,x2,x3,x4,x5,x6,x7,x8,x9,a,d,f,g,i,k,l,m,n,o,p,q,r,s,t,u,w,x,y,z,A,B,C,b,c,D,E,F,G,H,I,J,K,L,M,N,P,Q,R,U,V,W,X,Y,Z,a0,a1,a2,a3]) S =
  (zN (jr zi 24 (dem x4) (.int .i64 0) S) (fun v1 S1=>zN (jl zi false 3 v1 S1) (fun v2 S2=>some ([x0,x1,x2,x3,x4,x5,x6,x7,x8,x9,a,d,f,g,i,k,l,m,n,o,p,q,r,s,t,u,w,x,y,z,A,dem x4,v1,v2,.int .i64 0,D,E,F,G,H,I,J,K,L,M,N,P,Q,R,U,V,W,X,Y,Z,a0,a1,a2,a3],S2)) ()) ()):=by
 kernel_rfl
theorem zW.r6 :jF zi ⟨false,false,false⟩ (jd zi O) (reg Try.f65 6) (reg Try.f65 6).toList ([x0,x1,x2,x3,x4,x5,x6,x7,x8,x9,a,d,f,g,i,k,l,m,n,o,p,q,r,s,t,u,w,x,y,z,A,B,C,b,c,D,E,F,G,H,I,J,K,L,M,N,P,Q,R,U,V,W,X,Y,Z,a0,a1,a2,a3]) S =
  (zN (wH zi BinOp.lss 3 c b S) (fun v0 S1=>some ([x0,x1,x2,x3,x4,x5,x6,x7,x8,x9,a,d,f,g,i,k,l,m,n,o,p,q,r,s,t,u,w,x,y,z,A,B,C,b,c,v0,E,F,G,H,I,J,K,L,M,N,P,Q,R,U,V,W,X,Y,Z,a0,a1,a2,a3],S1)) ()):=by
 kernel_rfl
theorem zW.r7 :jF zi ⟨false,false,false⟩ (jd zi O) (reg Try.f65 7) (reg Try.f65 7).toList ([x0,x1,x2,x3,x4,x5,x6,x7,x8,x9,a,d,f,g,i,k,l,m,n,o,p,q,r,s,t,u,w,x,y,z,A,B,C,b,c,D,E,F,G,H,I,J,K,L,M,N,P,Q,R,U,V,W,X,Y,Z,a0,a1,a2,a3]) S =
  (zN ((jd zi O) 64 [(dem (dem x5))] S) (fun v1 S1=>zN (zZ v1 0 S1) (fun v3 S2=>zN (zZ (zV 0 v1) 1 S2) (fun v4 S3=>zN (zZ (zV 1 (zV 0 v1)) 2 S3) (fun v5 S4=>zN (yR zi 43 S4) (fun v6 S5=>zN (wS zi 43 v6 (dem v3) S5) (fun v7 S6=>some ([x0,x1,x2,x3,x4,x5,x6,x7,v6,v4,v5,d,f,g,i,k,l,m,n,o,p,q,r,s,t,u,w,x,y,z,A,B,C,b,c,D,zV 2 (zV 1 (zV 0 v1)),dem x5,dem v1,v3,dem v4,dem v5,K,L,M,N,P,Q,R,U,V,W,X,Y,Z,a0,a1,a2,a3],S6)) ()) ()) ()) ()) ()) ()):=by
 kernel_rfl
theorem zW.r8 :jF zi ⟨false,false,false⟩ (jd zi O) (reg Try.f65 8) (reg Try.f65 8).toList ([x0,x1,x2,x3,x4,x5,x6,x7,x8,x9,a,d,f,g,i,k,l,m,n,o,p,q,r,s,t,u,w,x,y,z,A,B,C,b,c,D,E,F,G,H,I,J,K,L,M,N,P,Q,R,U,V,W,X,Y,Z,a0,a1,a2,a3]) S =
  (zN (aUn zi UnOp.not (dem a) S) (fun v1 S1=>some ([x0,x1,x2,x3,x4,x5,x6,x7,x8,x9,a,d,f,g,i,k,l,m,n,o,p,q,r,s,t,u,w,x,y,z,A,B,C,b,c,D,E,F,G,H,I,J,dem a,v1,M,N,P,Q,R,U,V,W,X,Y,Z,a0,a1,a2,a3],S1)) ()):=by
 kernel_rfl
theorem zW.r9 :jF zi ⟨false,false,false⟩ (jd zi O) (reg Try.f65 9) (reg Try.f65 9).toList ([x0,x1,x2,x3,x4,x5,x6,x7,x8,x9,a,d,f,g,i,k,l,m,n,o,p,q,r,s,t,u,w,x,y,z,A,B,C,b,c,D,E,F,G,H,I,J,K,L,M,N,P,Q,R,U,V,W,X,Y,Z,a0,a1,a2,a3]) S =
  ( some ([x0,x1,Value.slice none 0 0,.int .i64 61,x4,x5,x6,x7,x8,x9,a,d,f,g,i,k,l,m,n,o,p,q,r,s,t,u,w,x,y,z,A,B,C,b,c,D,E,F,G,H,I,J,K,L,M,N,P,Q,R,U,V,W,X,Y,Z,a0,a1,a2,a3],S)):=by
 kernel_rfl
theorem zW.r10 :jF zi ⟨false,false,false⟩ (jd zi O) (reg Try.f65 10) (reg Try.f65 10).toList ([x0,x1,x2,x3,x4,x5,x6,x7,x8,x9,a,d,f,g,i,k,l,m,n,o,p,q,r,s,t,u,w,x,y,z,A,B,C,b,c,D,E,F,G,H,I,J,K,L,M,N,P,Q,R,U,V,W,X,Y,Z,a0,a1,a2,a3]) S =
  (zN (jl zi false 43 x8 S) (fun v1 S1=>zN (jU zi 44 1 [(0,v1)] S1) (fun v2 S2=>zN (yB zi 44 44 x7 v2 S2) (fun v3 S3=>some ([x0,x1,x2,x3,x4,x5,x6,v3,x8,x9,a,d,f,g,i,k,l,m,n,o,p,q,r,s,t,u,w,x,y,z,A,B,C,b,c,D,E,F,G,H,I,J,K,L,dem x7,v1,v2,dem v3,R,U,V,W,X,Y,Z,a0,a1,a2,a3],S3)) ()) ()) ()):=by
 kernel_rfl
theorem zW.r11 :jF zi ⟨false,false,false⟩ (jd zi O) (reg Try.f65 11) (reg Try.f65 11).toList ([x0,x1,x2,x3,x4,x5,x6,x7,x8,x9,a,d,f,g,i,k,l,m,n,o,p,q,r,s,t,u,w,x,y,z,A,B,C,b,c,D,E,F,G,H,I,J,K,L,M,N,P,Q,R,U,V,W,X,Y,Z,a0,a1,a2,a3]) S =
  ( some ([x0,x1,x2,x3,x4,x9,x6,x7,x8,dem x9,a,d,f,g,i,k,l,m,n,o,p,q,r,s,t,u,w,x,y,z,A,B,C,b,c,D,E,F,G,H,I,J,K,L,M,N,P,Q,dem x9,U,V,W,X,Y,Z,a0,a1,a2,a3],S)):=by
 kernel_rfl
theorem zW.r12 :jF zi ⟨false,false,false⟩ (jd zi O) (reg Try.f65 12) (reg Try.f65 12).toList ([x0,x1,x2,x3,x4,x5,x6,x7,x8,x9,a,d,f,g,i,k,l,m,n,o,p,q,r,s,t,u,w,x,y,z,A,B,C,b,c,D,E,F,G,H,I,J,K,L,M,N,P,Q,R,U,V,W,X,Y,Z,a0,a1,a2,a3]) S =
  (zN (wH zi BinOp.add 3 c (.int .i64 1) S) (fun v0 S1=>some ([x0,x1,x2,x3,x4,x5,x6,x7,x8,x9,a,d,f,g,i,k,l,m,n,o,p,q,r,s,t,u,w,x,y,z,A,B,C,b,dem v0,D,E,F,G,H,I,J,K,L,M,N,P,Q,R,v0,V,W,X,Y,Z,a0,a1,a2,a3],S1)) ()):=by
 kernel_rfl
theorem zW.r13 :jF zi ⟨false,false,false⟩ (jd zi O) (reg Try.f65 13) (reg Try.f65 13).toList ([x0,x1,x2,x3,x4,x5,x6,x7,x8,x9,a,d,f,g,i,k,l,m,n,o,p,q,r,s,t,u,w,x,y,z,A,B,C,b,c,D,E,F,G,H,I,J,K,L,M,N,P,Q,R,U,V,W,X,Y,Z,a0,a1,a2,a3]) S =
  (zN (ZY zi 33 (dem x5) S) (fun v1 S1=>zN (wH zi BinOp.gtr 3 v1 (.int .i64 0) S1) (fun v2 S2=>gdK (dem v2) false (ret x7) S2 (fun v4 S3=>gdK (dem v2) false ((jd zi O) 70 [(dem (dem v4))]) S3 (fun v5 S4=>gdK (dem v2) false (aUn zi UnOp.not v5) S4 (fun v6 S5=>zN (wW (dem v2) (Value.bool true) v6 S5) (fun v7 S6=>some ([x0,x1,x2,x3,x4,x5,x6,x7,x8,x9,a,d,f,g,i,k,l,m,n,o,p,q,r,s,t,u,w,x,y,z,A,B,C,b,c,D,E,F,G,H,I,J,K,L,M,N,P,Q,R,U,dem x5,v1,v2,dem v2,dem v4,v5,v6,v7,a3],S6)) ()) ()) ()) ()) ()) ()):=by
 refine sP Try.f65 13 0 (v:=x5) ?_
 refine sD Try.f65 13 1 (fun v1 S1=>?_)
 refine sD Try.f65 13 2 (fun v2 S2=>?_)
 refine sP Try.f65 13 3 (v:=v2) ?_
 refine sG Try.f65 13 4 (j:=3) (fun v4 S3=>?_)
 refine sG Try.f65 13 5 (j:=3) (fun v5 S4=>?_)
 refine sG Try.f65 13 6 (j:=3) (fun v6 S5=>?_)
 refine sD Try.f65 13 7 (fun v7 S6=>?_)
 kernel_rfl
theorem zW.r14 :jF zi ⟨false,false,false⟩ (jd zi O) (reg Try.f65 14) (reg Try.f65 14).toList ([x0,x1,x2,x3,x4,x5,x6,x7,x8,x9,a,d,f,g,i,k,l,m,n,o,p,q,r,s,t,u,w,x,y,z,A,B,C,b,c,D,E,F,G,H,I,J,K,L,M,N,P,Q,R,U,V,W,X,Y,Z,a0,a1,a2,a3]) S =
  ( some ([x0,x1,Value.slice none 0 0,.int .i64 61,x4,x5,x6,x7,x8,x9,a,d,f,g,i,k,l,m,n,o,p,q,r,s,t,u,w,x,y,z,A,B,C,b,c,D,E,F,G,H,I,J,K,L,M,N,P,Q,R,U,V,W,X,Y,Z,a0,a1,a2,a3],S)):=by
 kernel_rfl
theorem zW.r15 :jF zi ⟨false,false,false⟩ (jd zi O) (reg Try.f65 15) (reg Try.f65 15).toList ([x0,x1,x2,x3,x4,x5,x6,x7,x8,x9,a,d,f,g,i,k,l,m,n,o,p,q,r,s,t,u,w,x,y,z,A,B,C,b,c,D,E,F,G,H,I,J,K,L,M,N,P,Q,R,U,V,W,X,Y,Z,a0,a1,a2,a3]) S =
  ( some ([x0,x1,x7,.int .i64 0,x4,x5,x6,dem x7,x8,x9,a,d,f,g,i,k,l,m,n,o,p,q,r,s,t,u,w,x,y,z,A,B,C,b,c,D,E,F,G,H,I,J,K,L,M,N,P,Q,R,U,V,W,X,Y,Z,a0,a1,a2,dem x7],S)):=by
 kernel_rfl
theorem zW.rs:type_of% (alY @zW.r0 (alY @zW.r1 (alY @zW.r2 (alY @zW.r3 (alY @zW.r4 (alY @zW.r5 (alY @zW.r6 (alY @zW.r7 (alY @zW.r8 (alY @zW.r9 (alY @zW.r10 (alY @zW.r11 (alY @zW.r12 (alY @zW.r13 (alY @zW.r14 (@zW.r15)))))))))))))))):=alY @zW.r0 (alY @zW.r1 (alY @zW.r2 (alY @zW.r3 (alY @zW.r4 (alY @zW.r5 (alY @zW.r6 (alY @zW.r7 (alY @zW.r8 (alY @zW.r9 (alY @zW.r10 (alY @zW.r11 (alY @zW.r12 (alY @zW.r13 (alY @zW.r14 (@zW.r15)))))))))))))))
theorem zW.runs {x0:Value} {S S1:zx} {e:AEx} {T:List Value} (h:zL zi O false zW.code ([x0,zh,zh,zh,zh,zh,zh,zh,zh,zh,zh,zh,zh,zh,zh,zh,zh,zh,zh,zh,zh,zh,zh,zh,zh,zh,zh,zh,zh,zh,zh,zh,zh,zh,zh,zh,zh,zh,zh,zh,zh,zh,zh,zh,zh,zh,zh,zh,zh,zh,zh,zh,zh,zh,zh,zh,zh,zh,zh]) zx.empty=some (e,T,S1)) (he:e=.normal∨e=.ret)  (h0:wE (T.getD 2 zh)=true) (h1:wE (T.getD 3 zh)=true) (hca:[x0].all (jL 16)=true) (hcv:jL 16 (Value.tuple #[T.getD 2 zh,T.getD 3 zh])=true):jd zi O 65 [x0] S=some (Value.tuple #[T.getD 2 zh,T.getD 3 zh],S) :=
 yD rfl rfl Try.func65 (by decide) zW.body (by exact h) he ((qj ((show zQ zi T S1 Try.f65.results.toList=zQ zi T S1 [(ResultVar.tmp 2),(ResultVar.tmp 3)] from by kernel_rfl).trans (by simp only [zQ])) (by kernel_rfl) (by simp only [List.all_cons,List.all_nil,h0,h1,Bool.and_true])).trans rfl) hca hcv
end Go.Proofs.Ytfjogganfjkckaa
namespace Go.Proofs.Ytfjogganfjkckaa
open Go.Abs
abbrev zy.id:FuncId:=49
noncomputable def zy.jS:Code:=(.seq (.seq (.region 8 (reg Try.f49 8) false) (.cond (.tmp 35) Code.skip (.exit 2))) (.seq (.block 3 (.region 10 (reg Try.f49 10) true)) (.region 9 (reg Try.f49 9) false)))
noncomputable def zy.Za:Code:=(.seq (.seq (.region 2 (reg Try.f49 2) false) (.cond (.tmp 13) Code.skip (.exit 0))) (.seq (.block 1 (.seq (.region 4 (reg Try.f49 4) false) (.seq (.seq (.region 5 (reg Try.f49 5) false) (.cond (.tmp 31) (.exit 1) Code.skip)) (.seq (.region 6 (reg Try.f49 6) false) (.seq (.seq (.region 7 (reg Try.f49 7) false) (.block 2 (.loop zy.jS))) (.seq (.region 11 (reg Try.f49 11) false) (.seq (.region 12 (reg Try.f49 12) false) (.cond (.tmp 67) (.seq (.region 13 (reg Try.f49 13) false) Code.ret) Code.skip)))))))) (.region 3 (reg Try.f49 3) false)))
noncomputable def zy.code:Code:=(.seq (.region 0 (reg Try.f49 0) false) (.seq (.seq (.region 1 (reg Try.f49 1) false) (.block 0 (.loop zy.Za))) (.seq (.region 14 (reg Try.f49 14) false) Code.ret)))
theorem zy.body:Try.f49.body=some zy.code:=by kernel_rfl
theorem zy.eta {T:List Value} (h:T.length=69):T=[T.getD 0 zh,T.getD 1 zh,T.getD 2 zh,T.getD 3 zh,T.getD 4 zh,T.getD 5 zh,T.getD 6 zh,T.getD 7 zh,T.getD 8 zh,T.getD 9 zh,T.getD 10 zh,T.getD 11 zh,T.getD 12 zh,T.getD 13 zh,T.getD 14 zh,T.getD 15 zh,T.getD 16 zh,T.getD 17 zh,T.getD 18 zh,T.getD 19 zh,T.getD 20 zh,T.getD 21 zh,T.getD 22 zh,T.getD 23 zh,T.getD 24 zh,T.getD 25 zh,T.getD 26 zh,T.getD 27 zh,T.getD 28 zh,T.getD 29 zh,T.getD 30 zh,T.getD 31 zh,T.getD 32 zh,T.getD 33 zh,T.getD 34 zh,T.getD 35 zh,T.getD 36 zh,T.getD 37 zh,T.getD 38 zh,T.getD 39 zh,T.getD 40 zh,T.getD 41 zh,T.getD 42 zh,T.getD 43 zh,T.getD 44 zh,T.getD 45 zh,T.getD 46 zh,T.getD 47 zh,T.getD 48 zh,T.getD 49 zh,T.getD 50 zh,T.getD 51 zh,T.getD 52 zh,T.getD 53 zh,T.getD 54 zh,T.getD 55 zh,T.getD 56 zh,T.getD 57 zh,T.getD 58 zh,T.getD 59 zh,T.getD 60 zh,T.getD 61 zh,T.getD 62 zh,T.getD 63 zh,T.getD 64 zh,T.getD 65 zh,T.getD 66 zh,T.getD 67 zh,T.getD 68 zh]:=(qQ T 69 h).trans (by kernel_rfl)
variable (x0 x1 x2 x3 x4 x5 x6 x7 x8 x9 b a c d f g i k l m n o p q r s t u w x y z A B C D E F G H I J K L M N P Q R U V W X Y Z a0 a1 a2 a3 a4 a5 a6 a7 a8 a9 b0 b1 b2 b3:Value) (S:zx)
theorem zy.r0 :jF zi ⟨false,false,false⟩ (jd zi O) (reg Try.f49 0) (reg Try.f49 0).toList ([x0,x1,x2,x3,x4,x5,x6,x7,x8,x9,b,a,c,d,f,g,i,k,l,m,n,o,p,q,r,s,t,u,w,x,y,z,A,B,C,D,E,F,G,H,I,J,K,L,M,N,P,Q,R,U,V,W,X,Y,Z,a0,a1,a2,a3,a4,a5,a6,a7,a8,a9,b0,b1,b2,b3]) S =
  ( some ([x0,x1,Value.slice none 0 0,.int .i64 0,x4,x5,x6,x7,x8,x9,b,a,c,d,f,g,i,k,l,m,n,o,p,q,r,s,t,u,w,x,y,z,A,B,C,D,E,F,G,H,I,J,K,L,M,N,P,Q,R,U,V,W,X,Y,Z,a0,a1,a2,a3,a4,a5,a6,a7,a8,a9,b0,b1,b2,b3],S)):=by
 kernel_rfl
theorem zy.r1 :jF zi ⟨false,false,false⟩ (jd zi O) (reg Try.f49 1) (reg Try.f49 1).toList ([x0,x1,x2,x3,x4,x5,x6,x7,x8,x9,b,a,c,d,f,g,i,k,l,m,n,o,p,q,r,s,t,u,w,x,y,z,A,B,C,D,E,F,G,H,I,J,K,L,M,N,P,Q,R,U,V,W,X,Y,Z,a0,a1,a2,a3,a4,a5,a6,a7,a8,a9,b0,b1,b2,b3]) S =
  ( some ([x0,x1,x2,x3,.int .i64 0,x5,x6,x7,x8,x9,b,a,c,d,f,g,i,k,l,m,n,o,p,q,r,s,t,u,w,x,y,z,A,B,C,D,E,F,G,H,I,J,K,L,M,N,P,Q,R,U,V,W,X,Y,Z,a0,a1,a2,a3,a4,a5,a6,a7,a8,a9,b0,b1,b2,b3],S)):=by
 kernel_rfl
theorem zy.r2 :jF zi ⟨false,false,false⟩ (jd zi O) (reg Try.f49 2) (reg Try.f49 2).toList ([x0,x1,x2,x3,x4,x5,x6,x7,x8,x9,b,a,c,d,f,g,i,k,l,m,n,o,p,q,r,s,t,u,w,x,y,z,A,B,C,D,E,F,G,H,I,J,K,L,M,N,P,Q,R,U,V,W,X,Y,Z,a0,a1,a2,a3,a4,a5,a6,a7,a8,a9,b0,b1,b2,b3]) S =
  (zN (wH zi BinOp.leq 3 (dem x4) (.int .i64 3) S) (fun v1 S1=>some ([x0,x1,x2,x3,x4,x5,x6,x7,x8,x9,b,a,dem x4,v1,f,g,i,k,l,m,n,o,p,q,r,s,t,u,w,x,y,z,A,B,C,D,E,F,G,H,I,J,K,L,M,N,P,Q,R,U,V,W,X,Y,Z,a0,a1,a2,a3,a4,a5,a6,a7,a8,a9,b0,b1,b2,b3],S1)) ()):=by
 kernel_rfl
theorem zy.r4 :jF zi ⟨false,false,false⟩ (jd zi O) (reg Try.f49 4) (reg Try.f49 4).toList ([x0,x1,x2,x3,x4,x5,x6,x7,x8,x9,b,a,c,d,f,g,i,k,l,m,n,o,p,q,r,s,t,u,w,x,y,z,A,B,C,D,E,F,G,H,I,J,K,L,M,N,P,Q,R,U,V,W,X,Y,Z,a0,a1,a2,a3,a4,a5,a6,a7,a8,a9,b0,b1,b2,b3]) S =
  (zN (wH zi BinOp.mul 3 (.int .i64 2) (dem x4) S) (fun v2 S1=>zN (wH zi BinOp.add 3 (.int .i64 1) v2 S1) (fun v3 S2=>zN ((jd zi O) 29 [(dem (dem x0)),(dem v3)] S2) (fun v4 S3=>zN (zZ v4 0 S3) (fun v6 S4=>zN (zZ (zV 0 v4) 1 S4) (fun v7 S5=>zN (zZ (zV 1 (zV 0 v4)) 2 S5) (fun v8 S6=>some ([x0,x1,x2,x3,x4,v6,v7,v8,x8,x9,b,a,c,d,f,g,zV 2 (zV 1 (zV 0 v4)),dem x0,dem x4,v2,v3,dem v4,dem v6,dem v7,dem v8,s,t,u,w,x,y,z,A,B,C,D,E,F,G,H,I,J,K,L,M,N,P,Q,R,U,V,W,X,Y,Z,a0,a1,a2,a3,a4,a5,a6,a7,a8,a9,b0,b1,b2,b3],S6)) ()) ()) ()) ()) ()) ()):=by
 kernel_rfl
theorem zy.r5 :jF zi ⟨false,false,false⟩ (jd zi O) (reg Try.f49 5) (reg Try.f49 5).toList ([x0,x1,x2,x3,x4,x5,x6,x7,x8,x9,b,a,c,d,f,g,i,k,l,m,n,o,p,q,r,s,t,u,w,x,y,z,A,B,C,D,E,F,G,H,I,J,K,L,M,N,P,Q,R,U,V,W,X,Y,Z,a0,a1,a2,a3,a4,a5,a6,a7,a8,a9,b0,b1,b2,b3]) S =
  (zN (wH zi BinOp.neq 3 (dem x7) (.int .i64 0) S) (fun v1 S1=>gdK (dem v1) false (ret x6) S1 (fun v3 S2=>gdK (dem v1) false (ZY zi 33 (dem v3)) S2 (fun v4 S3=>gdK (dem v1) false (wH zi BinOp.gtr 3 v4 (.int .i64 0)) S3 (fun v5 S4=>zN (wW (dem v1) (Value.bool true) v5 S4) (fun v6 S5=>some ([x0,x1,x2,x3,x4,x5,x6,x7,x8,x9,b,a,c,d,f,g,i,k,l,m,n,o,p,q,r,dem x7,v1,dem v1,dem v3,v4,v5,v6,A,B,C,D,E,F,G,H,I,J,K,L,M,N,P,Q,R,U,V,W,X,Y,Z,a0,a1,a2,a3,a4,a5,a6,a7,a8,a9,b0,b1,b2,b3],S5)) ()) ()) ()) ()) ()):=by
 refine sP Try.f49 5 0 (v:=x7) ?_
 refine sD Try.f49 5 1 (fun v1 S1=>?_)
 refine sP Try.f49 5 2 (v:=v1) ?_
 refine sG Try.f49 5 3 (j:=2) (fun v3 S2=>?_)
 refine sG Try.f49 5 4 (j:=2) (fun v4 S3=>?_)
 refine sG Try.f49 5 5 (j:=2) (fun v5 S4=>?_)
 refine sD Try.f49 5 6 (fun v6 S5=>?_)
 kernel_rfl
theorem zy.r6 :jF zi ⟨false,false,false⟩ (jd zi O) (reg Try.f49 6) (reg Try.f49 6).toList ([x0,x1,x2,x3,x4,x5,x6,x7,x8,x9,b,a,c,d,f,g,i,k,l,m,n,o,p,q,r,s,t,u,w,x,y,z,A,B,C,D,E,F,G,H,I,J,K,L,M,N,P,Q,R,U,V,W,X,Y,Z,a0,a1,a2,a3,a4,a5,a6,a7,a8,a9,b0,b1,b2,b3]) S =
  (zN (jU zi 44 0 [] S) (fun v0 S1=>some ([x0,x1,x2,x3,x4,x5,x6,x7,v0,x9,b,a,c,d,f,g,i,k,l,m,n,o,p,q,r,s,t,u,w,x,y,z,dem v0,B,C,D,E,F,G,H,I,J,K,L,M,N,P,Q,R,U,V,W,X,Y,Z,a0,a1,a2,a3,a4,a5,a6,a7,a8,a9,b0,b1,b2,b3],S1)) ()):=by
 kernel_rfl
theorem zy.r7 :jF zi ⟨false,false,false⟩ (jd zi O) (reg Try.f49 7) (reg Try.f49 7).toList ([x0,x1,x2,x3,x4,x5,x6,x7,x8,x9,b,a,c,d,f,g,i,k,l,m,n,o,p,q,r,s,t,u,w,x,y,z,A,B,C,D,E,F,G,H,I,J,K,L,M,N,P,Q,R,U,V,W,X,Y,Z,a0,a1,a2,a3,a4,a5,a6,a7,a8,a9,b0,b1,b2,b3]) S =
  ( some ([x0,x1,x2,x3,x4,x5,x6,x7,x8,.int .i64 0,b,a,c,d,f,g,i,k,l,m,n,o,p,q,r,s,t,u,w,x,y,z,A,B,C,D,E,F,G,H,I,J,K,L,M,N,P,Q,R,U,V,W,X,Y,Z,a0,a1,a2,a3,a4,a5,a6,a7,a8,a9,b0,b1,b2,b3],S)):=by
 kernel_rfl
theorem zy.r8 :jF zi ⟨false,false,false⟩ (jd zi O) (reg Try.f49 8) (reg Try.f49 8).toList ([x0,x1,x2,x3,x4,x5,x6,x7,x8,x9,b,a,c,d,f,g,i,k,l,m,n,o,p,q,r,s,t,u,w,x,y,z,A,B,C,D,E,F,G,H,I,J,K,L,M,N,P,Q,R,U,V,W,X,Y,Z,a0,a1,a2,a3,a4,a5,a6,a7,a8,a9,b0,b1,b2,b3]) S =
  (zN (wH zi BinOp.lss 3 (dem x9) (dem x4) S) (fun v2 S1=>some ([x0,x1,x2,x3,x4,x5,x6,x7,x8,x9,b,a,c,d,f,g,i,k,l,m,n,o,p,q,r,s,t,u,w,x,y,z,A,dem x9,dem x4,v2,E,F,G,H,I,J,K,L,M,N,P,Q,R,U,V,W,X,Y,Z,a0,a1,a2,a3,a4,a5,a6,a7,a8,a9,b0,b1,b2,b3],S1)) ()):=by
 kernel_rfl
theorem zy.d10:kC zi (reg Try.f49 10)=true:=by kernel_rfl
theorem zy.alV:fixed zi (reg Try.f49 10)=false:=by kernel_rfl
theorem zy.k10:checked zi (reg Try.f49 10)=[0]:=by kernel_rfl
theorem zy.g10:again zi (reg Try.f49 10)=[]:=by kernel_rfl
theorem zy.r10 :zL zi O false (.region 10 (reg Try.f49 10) true) ([x0,x1,x2,x3,x4,x5,x6,x7,x8,x9,b,a,c,d,f,g,i,k,l,m,n,o,p,q,r,s,t,u,w,x,y,z,A,B,C,D,E,F,G,H,I,J,K,L,M,N,P,Q,R,U,V,W,X,Y,Z,a0,a1,a2,a3,a4,a5,a6,a7,a8,a9,b0,b1,b2,b3]) S =
  Z8 (okK x8 ( zN (wH zi BinOp.mul 3 (.int .i64 2) (dem x9) S) (fun v3 S1=>zN (wH zi BinOp.add 3 (.int .i64 1) v3 S1) (fun v4 S2=>zN (jr zi 24 (dem x5) v4 S2) (fun v5 S3=>zN (jl zi false 3 v5 S3) (fun v6 S4=>zN (wH zi BinOp.mul 3 (.int .i64 2) (dem x9) S4) (fun v9 S5=>zN (wH zi BinOp.add 3 (.int .i64 2) v9 S5) (fun b5 S6=>zN (jr zi 24 (dem x5) b5 S6) (fun b6 S7=>zN (jl zi false 3 b6 S7) (fun b7 S8=>zN (yw zi 43 [(0,(dem v6)),(1,(dem b7))] S8) (fun b8 S9=>zN (jU zi 44 1 [(0,b8)] S9) (fun b9 c0=>zN (yB zi 44 44 x8 b9 c0) (fun b4 c1=>some ([x0,x1,x2,x3,x4,x5,x6,x7,b4,x9,b,a,c,d,f,g,i,k,l,m,n,o,p,q,r,s,t,u,w,x,y,z,A,B,C,D,E,F,dem x8,dem x5,dem x9,v3,v4,v5,v6,dem x5,dem x9,v9,b5,b6,b7,b8,b9,dem b4,Z,a0,a1,a2,a3,a4,a5,a6,a7,a8,a9,b0,b1,b2,b3],c1)) ()) ()) ()) ()) ()) ()) ()) ()) ()) ()) ()) ()):=by
 rw [yM zy.d10 zy.alV zy.k10 zy.g10]
 refine congrArg Z8 ?_
 refine tPC Try.f49 10 0 (v:=x8) ?_
 refine tP Try.f49 10 1 (v:=x5) ?_
 refine tP Try.f49 10 2 (v:=x9) ?_
 refine tD Try.f49 10 3 (fun v3 S1=>?_)
 refine tD Try.f49 10 4 (fun v4 S2=>?_)
 refine tD Try.f49 10 5 (fun v5 S3=>?_)
 refine tD Try.f49 10 6 (fun v6 S4=>?_)
 refine tP Try.f49 10 7 (v:=x5) ?_
 refine tP Try.f49 10 8 (v:=x9) ?_
 refine tD Try.f49 10 9 (fun v9 S5=>?_)
 refine tD Try.f49 10 10 (fun b5 S6=>?_)
 refine tD Try.f49 10 11 (fun b6 S7=>?_)
 refine tD Try.f49 10 12 (fun b7 S8=>?_)
 refine tD Try.f49 10 13 (fun b8 S9=>?_)
 refine tD Try.f49 10 14 (fun b9 c0=>?_)
 refine tD Try.f49 10 15 (fun b4 c1=>?_)
 refine tP Try.f49 10 16 (v:=b4) ?_
 kernel_rfl
theorem zy.r9 :jF zi ⟨false,false,false⟩ (jd zi O) (reg Try.f49 9) (reg Try.f49 9).toList ([x0,x1,x2,x3,x4,x5,x6,x7,x8,x9,b,a,c,d,f,g,i,k,l,m,n,o,p,q,r,s,t,u,w,x,y,z,A,B,C,D,E,F,G,H,I,J,K,L,M,N,P,Q,R,U,V,W,X,Y,Z,a0,a1,a2,a3,a4,a5,a6,a7,a8,a9,b0,b1,b2,b3]) S =
  (zN (wH zi BinOp.add 3 (dem x9) (.int .i64 1) S) (fun v1 S1=>some ([x0,x1,x2,x3,x4,x5,x6,x7,x8,v1,b,a,c,d,f,g,i,k,l,m,n,o,p,q,r,s,t,u,w,x,y,z,A,B,C,D,dem x9,dem v1,G,H,I,J,K,L,M,N,P,Q,R,U,V,W,X,Y,Z,a0,a1,a2,a3,a4,a5,a6,a7,a8,a9,b0,b1,b2,b3],S1)) ()):=by
 kernel_rfl
theorem zy.r11 :jF zi ⟨false,false,false⟩ (jd zi O) (reg Try.f49 11) (reg Try.f49 11).toList ([x0,x1,x2,x3,x4,x5,x6,x7,x8,x9,b,a,c,d,f,g,i,k,l,m,n,o,p,q,r,s,t,u,w,x,y,z,A,B,C,D,E,F,G,H,I,J,K,L,M,N,P,Q,R,U,V,W,X,Y,Z,a0,a1,a2,a3,a4,a5,a6,a7,a8,a9,b0,b1,b2,b3]) S =
  (zN ((jd zi O) 50 [(dem (dem x8))] S) (fun v1 S1=>zN (zZ v1 0 S1) (fun v3 S2=>zN (zZ (zV 0 v1) 1 S2) (fun v4 S3=>some ([x0,x1,x2,x3,x4,x5,x6,x7,x8,x9,v3,v4,c,d,f,g,i,k,l,m,n,o,p,q,r,s,t,u,w,x,y,z,A,B,C,D,E,F,G,H,I,J,K,L,M,N,P,Q,R,U,V,W,X,Y,zV 1 (zV 0 v1),dem x8,dem v1,dem v3,dem v4,a4,a5,a6,a7,a8,a9,b0,b1,b2,b3],S3)) ()) ()) ()):=by
 kernel_rfl
theorem zy.r12 :jF zi ⟨false,false,false⟩ (jd zi O) (reg Try.f49 12) (reg Try.f49 12).toList ([x0,x1,x2,x3,x4,x5,x6,x7,x8,x9,b,a,c,d,f,g,i,k,l,m,n,o,p,q,r,s,t,u,w,x,y,z,A,B,C,D,E,F,G,H,I,J,K,L,M,N,P,Q,R,U,V,W,X,Y,Z,a0,a1,a2,a3,a4,a5,a6,a7,a8,a9,b0,b1,b2,b3]) S =
  (zN (wH zi BinOp.eql 3 (dem a) (.int .i64 0) S) (fun v1 S1=>gdK (dem v1) true (ret b) S1 (fun v3 S2=>gdK (dem v1) true (qL zi false false 33 9 (dem v3)) S2 (fun v4 S3=>gdK (dem v1) true (ret x0) S3 (fun v5 S4=>gdK (dem v1) true (qL zi false false 33 9 (dem v5)) S4 (fun v6 S5=>gdK (dem v1) true (wH zi BinOp.eql 9 v4 v6) S5 (fun v7 S6=>zN (wW (dem v1) v7 (Value.bool false) S6) (fun v8 S7=>some ([x0,x1,x2,x3,x4,x5,x6,x7,x8,x9,b,a,c,d,f,g,i,k,l,m,n,o,p,q,r,s,t,u,w,x,y,z,A,B,C,D,E,F,G,H,I,J,K,L,M,N,P,Q,R,U,V,W,X,Y,Z,a0,a1,a2,a3,dem a,v1,dem v1,dem v3,v4,dem v5,v6,v7,v8,b3],S7)) ()) ()) ()) ()) ()) ()) ()):=by
 refine sP Try.f49 12 0 (v:=a) ?_
 refine sD Try.f49 12 1 (fun v1 S1=>?_)
 refine sP Try.f49 12 2 (v:=v1) ?_
 refine sG Try.f49 12 3 (j:=2) (fun v3 S2=>?_)
 refine sG Try.f49 12 4 (j:=2) (fun v4 S3=>?_)
 refine sG Try.f49 12 5 (j:=2) (fun v5 S4=>?_)
 refine sG Try.f49 12 6 (j:=2) (fun v6 S5=>?_)
 refine sG Try.f49 12 7 (j:=2) (fun v7 S6=>?_)
 refine sD Try.f49 12 8 (fun v8 S7=>?_)
 kernel_rfl
theorem zy.r13 :jF zi ⟨false,false,false⟩ (jd zi O) (reg Try.f49 13) (reg Try.f49 13).toList ([x0,x1,x2,x3,x4,x5,x6,x7,x8,x9,b,a,c,d,f,g,i,k,l,m,n,o,p,q,r,s,t,u,w,x,y,z,A,B,C,D,E,F,G,H,I,J,K,L,M,N,P,Q,R,U,V,W,X,Y,Z,a0,a1,a2,a3,a4,a5,a6,a7,a8,a9,b0,b1,b2,b3]) S =
  ( some ([x0,x1,x8,.int .i64 0,x4,x5,x6,x7,dem x8,x9,b,a,c,d,f,g,i,k,l,m,n,o,p,q,r,s,t,u,w,x,y,z,A,B,C,D,E,F,G,H,I,J,K,L,M,N,P,Q,R,U,V,W,X,Y,Z,a0,a1,a2,a3,a4,a5,a6,a7,a8,a9,b0,b1,b2,dem x8],S)):=by
 kernel_rfl
theorem zy.r3 :jF zi ⟨false,false,false⟩ (jd zi O) (reg Try.f49 3) (reg Try.f49 3).toList ([x0,x1,x2,x3,x4,x5,x6,x7,x8,x9,b,a,c,d,f,g,i,k,l,m,n,o,p,q,r,s,t,u,w,x,y,z,A,B,C,D,E,F,G,H,I,J,K,L,M,N,P,Q,R,U,V,W,X,Y,Z,a0,a1,a2,a3,a4,a5,a6,a7,a8,a9,b0,b1,b2,b3]) S =
  (zN (wH zi BinOp.add 3 (dem x4) (.int .i64 1) S) (fun v1 S1=>some ([x0,x1,x2,x3,v1,x5,x6,x7,x8,x9,b,a,c,d,dem x4,dem v1,i,k,l,m,n,o,p,q,r,s,t,u,w,x,y,z,A,B,C,D,E,F,G,H,I,J,K,L,M,N,P,Q,R,U,V,W,X,Y,Z,a0,a1,a2,a3,a4,a5,a6,a7,a8,a9,b0,b1,b2,b3],S1)) ()):=by
 kernel_rfl
theorem zy.r14 :jF zi ⟨false,false,false⟩ (jd zi O) (reg Try.f49 14) (reg Try.f49 14).toList ([x0,x1,x2,x3,x4,x5,x6,x7,x8,x9,b,a,c,d,f,g,i,k,l,m,n,o,p,q,r,s,t,u,w,x,y,z,A,B,C,D,E,F,G,H,I,J,K,L,M,N,P,Q,R,U,V,W,X,Y,Z,a0,a1,a2,a3,a4,a5,a6,a7,a8,a9,b0,b1,b2,b3]) S =
  ( some ([x0,x1,Value.slice none 0 0,.int .i64 61,x4,x5,x6,x7,x8,x9,b,a,c,d,f,g,i,k,l,m,n,o,p,q,r,s,t,u,w,x,y,z,A,B,C,D,E,F,G,H,I,J,K,L,M,N,P,Q,R,U,V,W,X,Y,Z,a0,a1,a2,a3,a4,a5,a6,a7,a8,a9,b0,b1,b2,b3],S)):=by
 kernel_rfl
theorem zy.rs:type_of% (alY @zy.r0 (alY @zy.r1 (alY @zy.r2 (alY @zy.r4 (alY @zy.r5 (alY @zy.r6 (alY @zy.r7 (alY @zy.r8 (alY @zy.r10 (alY @zy.r9 (alY @zy.r11 (alY @zy.r12 (alY @zy.r13 (alY @zy.r3 (@zy.r14))))))))))))))):=alY @zy.r0 (alY @zy.r1 (alY @zy.r2 (alY @zy.r4 (alY @zy.r5 (alY @zy.r6 (alY @zy.r7 (alY @zy.r8 (alY @zy.r10 (alY @zy.r9 (alY @zy.r11 (alY @zy.r12 (alY @zy.r13 (alY @zy.r3 (@zy.r14))))))))))))))
theorem zy.runs {x0:Value} {S S1:zx} {e:AEx} {T:List Value} (h:zL zi O false zy.code ([x0,zh,zh,zh,zh,zh,zh,zh,zh,zh,zh,zh,zh,zh,zh,zh,zh,zh,zh,zh,zh,zh,zh,zh,zh,zh,zh,zh,zh,zh,zh,zh,zh,zh,zh,zh,zh,zh,zh,zh,zh,zh,zh,zh,zh,zh,zh,zh,zh,zh,zh,zh,zh,zh,zh,zh,zh,zh,zh,zh,zh,zh,zh,zh,zh,zh,zh,zh,zh]) S=some (e,T,S1)) (he:e=.normal∨e=.ret)  (h0:wE (T.getD 2 zh)=true) (h1:wE (T.getD 3 zh)=true):jd zi O 49 [x0] S=some (Value.tuple #[T.getD 2 zh,T.getD 3 zh],S1) :=
 yK rfl rfl Try.func49 (by decide) zy.body (by exact h) he ((qj ((show zQ zi T S1 Try.f49.results.toList=zQ zi T S1 [(ResultVar.tmp 2),(ResultVar.tmp 3)] from by kernel_rfl).trans (by simp only [zQ])) (by kernel_rfl) (by simp only [List.all_cons,List.all_nil,h0,h1,Bool.and_true])).trans rfl)
end Go.Proofs.Ytfjogganfjkckaa
namespace Go.Proofs.Ytfjogganfjkckaa
open Go.Abs
abbrev zK.id:FuncId:=33
noncomputable def zK.jS:Code:=(.seq (.region 4 (reg Try.f33 4) false) (.seq (.cond (.tmp 14) Code.skip (.exit 0)) (.seq (.block 1 (.seq (.region 5 (reg Try.f33 5) false) (.seq (.region 6 (reg Try.f33 6) true) (.cond (.tmp 24) (.seq (.region 7 (reg Try.f33 7) false) Code.ret) Code.skip)))) (.region 8 (reg Try.f33 8) false))))
noncomputable def zK.code:Code:=(.seq (.region 0 (reg Try.f33 0) false) (.seq (.seq (.region 1 (reg Try.f33 1) false) (.cond (.tmp 10) (.seq (.region 2 (reg Try.f33 2) false) Code.ret) Code.skip)) (.seq (.seq (.region 3 (reg Try.f33 3) false) (.block 0 (.loop zK.jS))) (.seq (.region 9 (reg Try.f33 9) false) Code.ret))))
theorem zK.body:Try.f33.body=some zK.code:=by kernel_rfl
theorem zK.eta {T:List Value} (h:T.length=26):T=[T.getD 0 zh,T.getD 1 zh,T.getD 2 zh,T.getD 3 zh,T.getD 4 zh,T.getD 5 zh,T.getD 6 zh,T.getD 7 zh,T.getD 8 zh,T.getD 9 zh,T.getD 10 zh,T.getD 11 zh,T.getD 12 zh,T.getD 13 zh,T.getD 14 zh,T.getD 15 zh,T.getD 16 zh,T.getD 17 zh,T.getD 18 zh,T.getD 19 zh,T.getD 20 zh,T.getD 21 zh,T.getD 22 zh,T.getD 23 zh,T.getD 24 zh,T.getD 25 zh]:=(qQ T 26 h).trans (by kernel_rfl)
variable (d u x y D w z A B C f g c b i j k l m n o p q r s t:Value) (S:zx)
theorem zK.r0 :jF zi ⟨false,false,false⟩ (jd zi O) (reg Try.f33 0) (reg Try.f33 0).toList ([d,u,x,y,D,w,z,A,B,C,f,g,c,b,i,j,k,l,m,n,o,p,q,r,s,t]) S =
  ( some ([d,u,x,y,Value.bool false,w,z,A,B,C,f,g,c,b,i,j,k,l,m,n,o,p,q,r,s,t],S)):=by
 kernel_rfl
theorem zK.r1 :jF zi ⟨false,false,false⟩ (jd zi O) (reg Try.f33 1) (reg Try.f33 1).toList ([d,u,x,y,D,w,z,A,B,C,f,g,c,b,i,j,k,l,m,n,o,p,q,r,s,t]) S =
  (zN (ZY zi 44 (dem d) S) (fun G E=>zN (ZY zi 44 (dem u) E) (fun F H=>zN (wH zi BinOp.neq 3 G F H) (fun R I=>some ([d,u,x,y,D,w,dem d,G,dem u,F,R,g,c,b,i,j,k,l,m,n,o,p,q,r,s,t],I)) ()) ()) ()):=by
 kernel_rfl
theorem zK.r2 :jF zi ⟨false,false,false⟩ (jd zi O) (reg Try.f33 2) (reg Try.f33 2).toList ([d,u,x,y,D,w,z,A,B,C,f,g,c,b,i,j,k,l,m,n,o,p,q,r,s,t]) S =
  ( some ([d,u,x,y,Value.bool false,w,z,A,B,C,f,g,c,b,i,j,k,l,m,n,o,p,q,r,s,t],S)):=by
 kernel_rfl
theorem zK.r3 :jF zi ⟨false,false,false⟩ (jd zi O) (reg Try.f33 3) (reg Try.f33 3).toList ([d,u,x,y,D,w,z,A,B,C,f,g,c,b,i,j,k,l,m,n,o,p,q,r,s,t]) S =
  (zN (ZY zi 44 (dem d) S) (fun G E=>some ([d,u,x,y,D,w,z,A,B,C,f,dem d,G,.int .i64 0,i,j,k,l,m,n,o,p,q,r,s,t],E)) ()):=by
 kernel_rfl
theorem zK.r4 :jF zi ⟨false,false,false⟩ (jd zi O) (reg Try.f33 4) (reg Try.f33 4).toList ([d,u,x,y,D,w,z,A,B,C,f,g,c,b,i,j,k,l,m,n,o,p,q,r,s,t]) S =
  (zN (wH zi BinOp.lss 3 b c S) (fun J E=>some ([d,u,x,y,D,w,z,A,B,C,f,g,c,b,J,j,k,l,m,n,o,p,q,r,s,t],E)) ()):=by
 kernel_rfl
theorem zK.r5 :jF zi ⟨false,false,false⟩ (jd zi O) (reg Try.f33 5) (reg Try.f33 5).toList ([d,u,x,y,D,w,z,A,B,C,f,g,c,b,i,j,k,l,m,n,o,p,q,r,s,t]) S =
  ( some ([d,u,x,y,D,b,z,A,B,C,f,g,c,dem b,i,dem b,k,l,m,n,o,p,q,r,s,t],S)):=by
 kernel_rfl
theorem zK.d6:kC zi (reg Try.f33 6)=true:=by kernel_rfl
theorem zK.ff6:fixed zi (reg Try.f33 6)=false:=by kernel_rfl
theorem zK.k6:checked zi (reg Try.f33 6)=[]:=by kernel_rfl
theorem zK.g6:again zi (reg Try.f33 6)=[]:=by kernel_rfl
theorem zK.r6 :zL zi O false (.region 6 (reg Try.f33 6) true) ([d,u,x,y,D,w,z,A,B,C,f,g,c,b,i,j,k,l,m,n,o,p,q,r,s,t]) S =
  Z8 (zN (jr zi 44 (dem d) (dem w) S) (fun K E=>zN (jl zi false 43 K E) (fun F H=>zN (jr zi 44 (dem u) (dem w) H) (fun L I=>zN (jl zi false 43 L I) (fun M N=>zN (wH zi BinOp.neq 43 F M N) (fun P Q=>some ([d,u,x,y,D,w,z,A,B,C,f,g,c,b,i,j,dem d,dem w,K,F,dem u,dem w,L,M,P,t],Q)) ()) ()) ()) ()) ()):=by
 rw [yM zK.d6 zK.ff6 zK.k6 zK.g6]
 refine congrArg Z8 ?_
 refine tP Try.f33 6 0 (v:=d) ?_
 refine tP Try.f33 6 1 (v:=w) ?_
 refine tD Try.f33 6 2 (fun K E=>?_)
 refine tD Try.f33 6 3 (fun F H=>?_)
 refine tP Try.f33 6 4 (v:=u) ?_
 refine tP Try.f33 6 5 (v:=w) ?_
 refine tD Try.f33 6 6 (fun L I=>?_)
 refine tD Try.f33 6 7 (fun M N=>?_)
 refine tD Try.f33 6 8 (fun P Q=>?_)
 kernel_rfl
theorem zK.r7 :jF zi ⟨false,false,false⟩ (jd zi O) (reg Try.f33 7) (reg Try.f33 7).toList ([d,u,x,y,D,w,z,A,B,C,f,g,c,b,i,j,k,l,m,n,o,p,q,r,s,t]) S =
  ( some ([d,u,x,y,Value.bool false,w,z,A,B,C,f,g,c,b,i,j,k,l,m,n,o,p,q,r,s,t],S)):=by
 kernel_rfl
theorem zK.r8 :jF zi ⟨false,false,false⟩ (jd zi O) (reg Try.f33 8) (reg Try.f33 8).toList ([d,u,x,y,D,w,z,A,B,C,f,g,c,b,i,j,k,l,m,n,o,p,q,r,s,t]) S =
  (zN (wH zi BinOp.add 3 b (.int .i64 1) S) (fun J E=>some ([d,u,x,y,D,w,z,A,B,C,f,g,c,dem J,i,j,k,l,m,n,o,p,q,r,s,J],E)) ()):=by
 kernel_rfl
theorem zK.r9 :jF zi ⟨false,false,false⟩ (jd zi O) (reg Try.f33 9) (reg Try.f33 9).toList ([d,u,x,y,D,w,z,A,B,C,f,g,c,b,i,j,k,l,m,n,o,p,q,r,s,t]) S =
  ( some ([d,u,x,y,Value.bool true,w,z,A,B,C,f,g,c,b,i,j,k,l,m,n,o,p,q,r,s,t],S)):=by
 kernel_rfl
theorem zK.rs:type_of% (alY @zK.r0 (alY @zK.r1 (alY @zK.r2 (alY @zK.r3 (alY @zK.r4 (alY @zK.r5 (alY @zK.r6 (alY @zK.r7 (alY @zK.r8 (@zK.r9)))))))))):=alY @zK.r0 (alY @zK.r1 (alY @zK.r2 (alY @zK.r3 (alY @zK.r4 (alY @zK.r5 (alY @zK.r6 (alY @zK.r7 (alY @zK.r8 (@zK.r9)))))))))
theorem zK.runs {d u:Value} {S E:zx} {e:AEx} {T:List Value} (h:zL zi O false zK.code ([d,u,zh,zh,zh,zh,zh,zh,zh,zh,zh,zh,zh,zh,zh,zh,zh,zh,zh,zh,zh,zh,zh,zh,zh,zh]) S=some (e,T,E)) (he:e=.normal∨e=.ret):jd zi O 33 [d,u] S=some (T.getD 4 zh,E) :=
 yK rfl rfl Try.func33 (by decide) zK.body (by exact h) he (yG (a:=T.getD 4 zh) ((show zQ zi T E Try.f33.results.toList=zQ zi T E [(ResultVar.tmp 4)] from by kernel_rfl).trans (by simp only [zQ])) (by kernel_rfl))
end Go.Proofs.Ytfjogganfjkckaa
namespace Go.Proofs.Ytfjogganfjkckaa
open Go.Abs
abbrev slices_Equal.id:FuncId:=75
noncomputable def slices_Equal.jS:Code:=(.seq (.region 4 (reg Try.f75 4) false) (.seq (.cond (.tmp 14) Code.skip (.exit 0)) (.seq (.block 1 (.seq (.region 5 (reg Try.f75 5) false) (.seq (.region 6 (reg Try.f75 6) true) (.cond (.tmp 24) (.seq (.region 7 (reg Try.f75 7) false) Code.ret) Code.skip)))) (.region 8 (reg Try.f75 8) false))))
noncomputable def slices_Equal.code:Code:=(.seq (.region 0 (reg Try.f75 0) false) (.seq (.seq (.region 1 (reg Try.f75 1) false) (.cond (.tmp 10) (.seq (.region 2 (reg Try.f75 2) false) Code.ret) Code.skip)) (.seq (.seq (.region 3 (reg Try.f75 3) false) (.block 0 (.loop slices_Equal.jS))) (.seq (.region 9 (reg Try.f75 9) false) Code.ret))))
theorem slices_Equal.body:Try.f75.body=some slices_Equal.code:=by kernel_rfl
theorem slices_Equal.eta {T:List Value} (h:T.length=26):T=[T.getD 0 zh,T.getD 1 zh,T.getD 2 zh,T.getD 3 zh,T.getD 4 zh,T.getD 5 zh,T.getD 6 zh,T.getD 7 zh,T.getD 8 zh,T.getD 9 zh,T.getD 10 zh,T.getD 11 zh,T.getD 12 zh,T.getD 13 zh,T.getD 14 zh,T.getD 15 zh,T.getD 16 zh,T.getD 17 zh,T.getD 18 zh,T.getD 19 zh,T.getD 20 zh,T.getD 21 zh,T.getD 22 zh,T.getD 23 zh,T.getD 24 zh,T.getD 25 zh]:=(qQ T 26 h).trans (by kernel_rfl)
variable (d u x y D w z A B C f g c b i j k l m n o p q r s t:Value) (S:zx)
theorem slices_Equal.r0 :jF zi ⟨false,false,false⟩ (jd zi O) (reg Try.f75 0) (reg Try.f75 0).toList ([d,u,x,y,D,w,z,A,B,C,f,g,c,b,i,j,k,l,m,n,o,p,q,r,s,t]) S =
  ( some ([d,u,x,y,Value.bool false,w,z,A,B,C,f,g,c,b,i,j,k,l,m,n,o,p,q,r,s,t],S)):=by
 kernel_rfl
theorem slices_Equal.r1 :jF zi ⟨false,false,false⟩ (jd zi O) (reg Try.f75 1) (reg Try.f75 1).toList ([d,u,x,y,D,w,z,A,B,C,f,g,c,b,i,j,k,l,m,n,o,p,q,r,s,t]) S =
  (zN (ZY zi 44 (dem d) S) (fun G E=>zN (ZY zi 44 (dem u) E) (fun F H=>zN (wH zi BinOp.neq 3 G F H) (fun R I=>some ([d,u,x,y,D,w,dem d,G,dem u,F,R,g,c,b,i,j,k,l,m,n,o,p,q,r,s,t],I)) ()) ()) ()):=by
 kernel_rfl
theorem slices_Equal.r2 :jF zi ⟨false,false,false⟩ (jd zi O) (reg Try.f75 2) (reg Try.f75 2).toList ([d,u,x,y,D,w,z,A,B,C,f,g,c,b,i,j,k,l,m,n,o,p,q,r,s,t]) S =
  ( some ([d,u,x,y,Value.bool false,w,z,A,B,C,f,g,c,b,i,j,k,l,m,n,o,p,q,r,s,t],S)):=by
 kernel_rfl
theorem slices_Equal.r3 :jF zi ⟨false,false,false⟩ (jd zi O) (reg Try.f75 3) (reg Try.f75 3).toList ([d,u,x,y,D,w,z,A,B,C,f,g,c,b,i,j,k,l,m,n,o,p,q,r,s,t]) S =
  (zN (ZY zi 44 (dem d) S) (fun G E=>some ([d,u,x,y,D,w,z,A,B,C,f,dem d,G,.int .i64 0,i,j,k,l,m,n,o,p,q,r,s,t],E)) ()):=by
 kernel_rfl
theorem slices_Equal.r4 :jF zi ⟨false,false,false⟩ (jd zi O) (reg Try.f75 4) (reg Try.f75 4).toList ([d,u,x,y,D,w,z,A,B,C,f,g,c,b,i,j,k,l,m,n,o,p,q,r,s,t]) S =
  (zN (wH zi BinOp.lss 3 b c S) (fun J E=>some ([d,u,x,y,D,w,z,A,B,C,f,g,c,b,J,j,k,l,m,n,o,p,q,r,s,t],E)) ()):=by
 kernel_rfl
theorem slices_Equal.r5 :jF zi ⟨false,false,false⟩ (jd zi O) (reg Try.f75 5) (reg Try.f75 5).toList ([d,u,x,y,D,w,z,A,B,C,f,g,c,b,i,j,k,l,m,n,o,p,q,r,s,t]) S =
  ( some ([d,u,x,y,D,b,z,A,B,C,f,g,c,dem b,i,dem b,k,l,m,n,o,p,q,r,s,t],S)):=by
 kernel_rfl
theorem slices_Equal.d6:kC zi (reg Try.f75 6)=true:=by kernel_rfl
theorem slices_Equal.ff6:fixed zi (reg Try.f75 6)=false:=by kernel_rfl
theorem slices_Equal.k6:checked zi (reg Try.f75 6)=[]:=by kernel_rfl
theorem slices_Equal.g6:again zi (reg Try.f75 6)=[]:=by kernel_rfl
theorem slices_Equal.r6 :zL zi O false (.region 6 (reg Try.f75 6) true) ([d,u,x,y,D,w,z,A,B,C,f,g,c,b,i,j,k,l,m,n,o,p,q,r,s,t]) S =
  Z8 (zN (jr zi 44 (dem d) (dem w) S) (fun K E=>zN (jl zi false 43 K E) (fun F H=>zN (jr zi 44 (dem u) (dem w) H) (fun L I=>zN (jl zi false 43 L I) (fun M N=>zN (wH zi BinOp.neq 43 F M N) (fun P Q=>some ([d,u,x,y,D,w,z,A,B,C,f,g,c,b,i,j,dem d,dem w,K,F,dem u,dem w,L,M,P,t],Q)) ()) ()) ()) ()) ()):=by
 rw [yM slices_Equal.d6 slices_Equal.ff6 slices_Equal.k6 slices_Equal.g6]
 refine congrArg Z8 ?_
 refine tP Try.f75 6 0 (v:=d) ?_
 refine tP Try.f75 6 1 (v:=w) ?_
 refine tD Try.f75 6 2 (fun K E=>?_)
 refine tD Try.f75 6 3 (fun F H=>?_)
 refine tP Try.f75 6 4 (v:=u) ?_
 refine tP Try.f75 6 5 (v:=w) ?_
 refine tD Try.f75 6 6 (fun L I=>?_)
 refine tD Try.f75 6 7 (fun M N=>?_)
 refine tD Try.f75 6 8 (fun P Q=>?_)
 kernel_rfl
theorem slices_Equal.r7 :jF zi ⟨false,false,false⟩ (jd zi O) (reg Try.f75 7) (reg Try.f75 7).toList ([d,u,x,y,D,w,z,A,B,C,f,g,c,b,i,j,k,l,m,n,o,p,q,r,s,t]) S =
  ( some ([d,u,x,y,Value.bool false,w,z,A,B,C,f,g,c,b,i,j,k,l,m,n,o,p,q,r,s,t],S)):=by
 kernel_rfl
theorem slices_Equal.r8 :jF zi ⟨false,false,false⟩ (jd zi O) (reg Try.f75 8) (reg Try.f75 8).toList ([d,u,x,y,D,w,z,A,B,C,f,g,c,b,i,j,k,l,m,n,o,p,q,r,s,t]) S =
  (zN (wH zi BinOp.add 3 b (.int .i64 1) S) (fun J E=>some ([d,u,x,y,D,w,z,A,B,C,f,g,c,dem J,i,j,k,l,m,n,o,p,q,r,s,J],E)) ()):=by
 kernel_rfl
theorem slices_Equal.r9 :jF zi ⟨false,false,false⟩ (jd zi O) (reg Try.f75 9) (reg Try.f75 9).toList ([d,u,x,y,D,w,z,A,B,C,f,g,c,b,i,j,k,l,m,n,o,p,q,r,s,t]) S =
  ( some ([d,u,x,y,Value.bool true,w,z,A,B,C,f,g,c,b,i,j,k,l,m,n,o,p,q,r,s,t],S)):=by
 kernel_rfl
theorem slices_Equal.rs:type_of% (alY @slices_Equal.r0 (alY @slices_Equal.r1 (alY @slices_Equal.r2 (alY @slices_Equal.r3 (alY @slices_Equal.r4 (alY @slices_Equal.r5 (alY @slices_Equal.r6 (alY @slices_Equal.r7 (alY @slices_Equal.r8 (@slices_Equal.r9)))))))))):=alY @slices_Equal.r0 (alY @slices_Equal.r1 (alY @slices_Equal.r2 (alY @slices_Equal.r3 (alY @slices_Equal.r4 (alY @slices_Equal.r5 (alY @slices_Equal.r6 (alY @slices_Equal.r7 (alY @slices_Equal.r8 (@slices_Equal.r9)))))))))
theorem slices_Equal.runs {d u:Value} {S E:zx} {e:AEx} {T:List Value} (h:zL zi O false slices_Equal.code ([d,u,zh,zh,zh,zh,zh,zh,zh,zh,zh,zh,zh,zh,zh,zh,zh,zh,zh,zh,zh,zh,zh,zh,zh,zh]) S=some (e,T,E)) (he:e=.normal∨e=.ret):jd zi O 75 [d,u] S=some (T.getD 4 zh,E) :=
 yK rfl rfl Try.func75 (by decide) slices_Equal.body (by exact h) he (yG (a:=T.getD 4 zh) ((show zQ zi T E Try.f75.results.toList=zQ zi T E [(ResultVar.tmp 4)] from by kernel_rfl).trans (by simp only [zQ])) (by kernel_rfl))
end Go.Proofs.Ytfjogganfjkckaa
namespace Go.Proofs.Ytfjogganfjkckaa
open Go.Abs
abbrev jM.id:FuncId:=70
noncomputable def jM.jS:Code:=(.seq (.region 3 (reg Try.f70 3) false) (.seq (.cond (.tmp 10) Code.skip (.exit 0)) (.seq (.block 1 (.seq (.region 4 (reg Try.f70 4) false) (.seq (.seq (.region 5 (reg Try.f70 5) false) (.cond (.tmp 16) (.seq (.region 6 (reg Try.f70 6) false) Code.ret) Code.skip)) (.region 7 (reg Try.f70 7) false)))) (.region 8 (reg Try.f70 8) false))))
noncomputable def jM.code:Code:=(.seq (.region 0 (reg Try.f70 0) false) (.seq (.region 1 (reg Try.f70 1) false) (.seq (.seq (.region 2 (reg Try.f70 2) false) (.block 0 (.loop jM.jS))) (.seq (.region 9 (reg Try.f70 9) false) Code.ret))))
theorem jM.body:Try.f70.body=some jM.code:=by kernel_rfl
theorem jM.eta {T:List Value} (h:T.length=24):T=[T.getD 0 zh,T.getD 1 zh,T.getD 2 zh,T.getD 3 zh,T.getD 4 zh,T.getD 5 zh,T.getD 6 zh,T.getD 7 zh,T.getD 8 zh,T.getD 9 zh,T.getD 10 zh,T.getD 11 zh,T.getD 12 zh,T.getD 13 zh,T.getD 14 zh,T.getD 15 zh,T.getD 16 zh,T.getD 17 zh,T.getD 18 zh,T.getD 19 zh,T.getD 20 zh,T.getD 21 zh,T.getD 22 zh,T.getD 23 zh]:=(qQ T 24 h).trans (by kernel_rfl)
variable (r v B s w t z x y u b c d f g i j k l m n o p q:Value) (S:zx)
theorem jM.r0 :jF zi ⟨false,false,false⟩ (jd zi O) (reg Try.f70 0) (reg Try.f70 0).toList ([r,v,B,s,w,t,z,x,y,u,b,c,d,f,g,i,j,k,l,m,n,o,p,q]) S =
  ( some ([r,v,Value.bool false,s,w,t,z,x,y,u,b,c,d,f,g,i,j,k,l,m,n,o,p,q],S)):=by
 kernel_rfl
theorem jM.r1 :jF zi ⟨false,false,false⟩ (jd zi O) (reg Try.f70 1) (reg Try.f70 1).toList ([r,v,B,s,w,t,z,x,y,u,b,c,d,f,g,i,j,k,l,m,n,o,p,q]) S =
  (zN (Zg zi 126 none S) (fun E A=>some ([r,v,B,E,w,t,dem E,x,y,u,b,c,d,f,g,i,j,k,l,m,n,o,p,q],A)) ()):=by
 kernel_rfl
theorem jM.r2 :jF zi ⟨false,false,false⟩ (jd zi O) (reg Try.f70 2) (reg Try.f70 2).toList ([r,v,B,s,w,t,z,x,y,u,b,c,d,f,g,i,j,k,l,m,n,o,p,q]) S =
  (zN (ZY zi 44 (dem r) S) (fun C A=>some ([r,v,B,s,w,t,z,dem r,C,.int .i64 0,b,c,d,f,g,i,j,k,l,m,n,o,p,q],A)) ()):=by
 kernel_rfl
theorem jM.r3 :jF zi ⟨false,false,false⟩ (jd zi O) (reg Try.f70 3) (reg Try.f70 3).toList ([r,v,B,s,w,t,z,x,y,u,b,c,d,f,g,i,j,k,l,m,n,o,p,q]) S =
  (zN (wH zi BinOp.lss 3 u y S) (fun E A=>some ([r,v,B,s,w,t,z,x,y,u,E,c,d,f,g,i,j,k,l,m,n,o,p,q],A)) ()):=by
 kernel_rfl
theorem jM.r4 :jF zi ⟨false,false,false⟩ (jd zi O) (reg Try.f70 4) (reg Try.f70 4).toList ([r,v,B,s,w,t,z,x,y,u,b,c,d,f,g,i,j,k,l,m,n,o,p,q]) S =
  (zN (jr zi 44 x u S) (fun E A=>zN (jl zi false 43 E A) (fun C F=>zN (yR zi 43 F) (fun D G=>zN (wS zi 43 D (dem C) G) (fun H I=>some ([r,v,B,s,w,D,z,x,y,u,b,E,C,f,g,i,j,k,l,m,n,o,p,q],I)) ()) ()) ()) ()):=by
 kernel_rfl
theorem jM.r5 :jF zi ⟨false,false,false⟩ (jd zi O) (reg Try.f70 5) (reg Try.f70 5).toList ([r,v,B,s,w,t,z,x,y,u,b,c,d,f,g,i,j,k,l,m,n,o,p,q]) S =
  (zN (zG zi 43 t 0 S) (fun C A=>zN (jl zi false 3 C A) (fun D F=>zN (vY zi false 126 (dem s) D false F) (fun H G=>some ([r,v,B,s,w,t,z,x,y,u,b,c,d,dem s,C,D,H,k,l,m,n,o,p,q],G)) ()) ()) ()):=by
 kernel_rfl
theorem jM.r6 :jF zi ⟨false,false,false⟩ (jd zi O) (reg Try.f70 6) (reg Try.f70 6).toList ([r,v,B,s,w,t,z,x,y,u,b,c,d,f,g,i,j,k,l,m,n,o,p,q]) S =
  ( some ([r,v,Value.bool false,s,w,t,z,x,y,u,b,c,d,f,g,i,j,k,l,m,n,o,p,q],S)):=by
 kernel_rfl
theorem jM.r7 :jF zi ⟨false,false,false⟩ (jd zi O) (reg Try.f70 7) (reg Try.f70 7).toList ([r,v,B,s,w,t,z,x,y,u,b,c,d,f,g,i,j,k,l,m,n,o,p,q]) S =
  (zN (zG zi 43 t 0 S) (fun C A=>zN (jl zi false 3 C A) (fun D F=>zN (yZ zi 126 (dem s) D (Value.bool true) F) (fun H G=>some ([r,v,B,s,w,t,z,x,y,u,b,c,d,f,g,i,j,dem s,C,D,n,o,p,q],G)) ()) ()) ()):=by
 kernel_rfl
theorem jM.r8 :jF zi ⟨false,false,false⟩ (jd zi O) (reg Try.f70 8) (reg Try.f70 8).toList ([r,v,B,s,w,t,z,x,y,u,b,c,d,f,g,i,j,k,l,m,n,o,p,q]) S =
  (zN (wH zi BinOp.add 3 u (.int .i64 1) S) (fun E A=>some ([r,v,B,s,w,t,z,x,y,dem E,b,c,d,f,g,i,j,k,l,m,E,o,p,q],A)) ()):=by
 kernel_rfl
theorem jM.r9 :jF zi ⟨false,false,false⟩ (jd zi O) (reg Try.f70 9) (reg Try.f70 9).toList ([r,v,B,s,w,t,z,x,y,u,b,c,d,f,g,i,j,k,l,m,n,o,p,q]) S =
  (zN (ZY zi 44 (dem r) S) (fun C A=>zN (wH zi BinOp.leq 3 C (.int .i64 3) A) (fun D F=>some ([r,v,D,s,w,t,z,x,y,u,b,c,d,f,g,i,j,k,l,m,n,dem r,C,dem D],F)) ()) ()):=by
 kernel_rfl
theorem jM.rs:type_of% (alY @jM.r0 (alY @jM.r1 (alY @jM.r2 (alY @jM.r3 (alY @jM.r4 (alY @jM.r5 (alY @jM.r6 (alY @jM.r7 (alY @jM.r8 (@jM.r9)))))))))):=alY @jM.r0 (alY @jM.r1 (alY @jM.r2 (alY @jM.r3 (alY @jM.r4 (alY @jM.r5 (alY @jM.r6 (alY @jM.r7 (alY @jM.r8 (@jM.r9)))))))))
theorem jM.runs {r:Value} {S A:zx} {e:AEx} {T:List Value} (h:zL zi O false jM.code ([r,zh,zh,zh,zh,zh,zh,zh,zh,zh,zh,zh,zh,zh,zh,zh,zh,zh,zh,zh,zh,zh,zh,zh]) zx.empty=some (e,T,A)) (he:e=.normal∨e=.ret) (hca:[r].all (jL 16)=true) (hcv:jL 16 (T.getD 2 zh)=true):jd zi O 70 [r] S=some (T.getD 2 zh,S) :=
 yD rfl rfl Try.func70 (by decide) jM.body (by exact h) he (yG (a:=T.getD 2 zh) ((show zQ zi T A Try.f70.results.toList=zQ zi T A [(ResultVar.tmp 2)] from by kernel_rfl).trans (by simp only [zQ])) (by kernel_rfl)) hca hcv
end Go.Proofs.Ytfjogganfjkckaa
namespace Go.Proofs.Ytfjogganfjkckaa
open Go.Abs
abbrev wB.id:FuncId:=62
noncomputable def wB.jS:Code:=(.seq (.region 5 (reg Try.f62 5) false) (.seq (.cond (.tmp 23) Code.skip (.exit 0)) (.seq (.block 1 (.seq (.region 6 (reg Try.f62 6) false) (.seq (.region 7 (reg Try.f62 7) false) (.seq (.seq (.region 8 (reg Try.f62 8) false) (.cond (.tmp 32) (.seq (.region 9 (reg Try.f62 9) false) Code.ret) Code.skip)) (.region 10 (reg Try.f62 10) false))))) (.region 11 (reg Try.f62 11) false))))
noncomputable def wB.code:Code:=(.seq (.region 0 (reg Try.f62 0) false) (.seq (.seq (.region 1 (reg Try.f62 1) false) (.cond (.tmp 12) (.seq (.region 2 (reg Try.f62 2) false) Code.ret) Code.skip)) (.seq (.region 3 (reg Try.f62 3) false) (.seq (.seq (.region 4 (reg Try.f62 4) false) (.block 0 (.loop wB.jS))) (.seq (.region 12 (reg Try.f62 12) false) Code.ret)))))
theorem wB.body:Try.f62.body=some wB.code:=by kernel_rfl
theorem wB.eta {T:List Value} (h:T.length=39):T=[T.getD 0 zh,T.getD 1 zh,T.getD 2 zh,T.getD 3 zh,T.getD 4 zh,T.getD 5 zh,T.getD 6 zh,T.getD 7 zh,T.getD 8 zh,T.getD 9 zh,T.getD 10 zh,T.getD 11 zh,T.getD 12 zh,T.getD 13 zh,T.getD 14 zh,T.getD 15 zh,T.getD 16 zh,T.getD 17 zh,T.getD 18 zh,T.getD 19 zh,T.getD 20 zh,T.getD 21 zh,T.getD 22 zh,T.getD 23 zh,T.getD 24 zh,T.getD 25 zh,T.getD 26 zh,T.getD 27 zh,T.getD 28 zh,T.getD 29 zh,T.getD 30 zh,T.getD 31 zh,T.getD 32 zh,T.getD 33 zh,T.getD 34 zh,T.getD 35 zh,T.getD 36 zh,T.getD 37 zh,T.getD 38 zh]:=(qQ T 39 h).trans (by kernel_rfl)
variable (F J N P H M K L I G d f g i j k l m n o b c a p q r s t u v w x y z A B C D E:Value) (S:zx)
theorem wB.r0 :jF zi ⟨false,false,false⟩ (jd zi O) (reg Try.f62 0) (reg Try.f62 0).toList ([F,J,N,P,H,M,K,L,I,G,d,f,g,i,j,k,l,m,n,o,b,c,a,p,q,r,s,t,u,v,w,x,y,z,A,B,C,D,E]) S =
  ( some ([F,J,Value.slice none 0 0,.int .i64 0,H,M,K,L,I,G,d,f,g,i,j,k,l,m,n,o,b,c,a,p,q,r,s,t,u,v,w,x,y,z,A,B,C,D,E],S)):=by
 kernel_rfl
theorem wB.r1 :jF zi ⟨false,false,false⟩ (jd zi O) (reg Try.f62 1) (reg Try.f62 1).toList ([F,J,N,P,H,M,K,L,I,G,d,f,g,i,j,k,l,m,n,o,b,c,a,p,q,r,s,t,u,v,w,x,y,z,A,B,C,D,E]) S =
  (zN ((jd zi O) 70 [(dem (dem F))] S) (fun R Q=>zN (aUn zi UnOp.not R Q) (fun U X=>some ([F,J,N,P,H,M,K,L,I,G,dem F,R,U,i,j,k,l,m,n,o,b,c,a,p,q,r,s,t,u,v,w,x,y,z,A,B,C,D,E],X)) ()) ()):=by
 kernel_rfl
theorem wB.r2 :jF zi ⟨false,false,false⟩ (jd zi O) (reg Try.f62 2) (reg Try.f62 2).toList ([F,J,N,P,H,M,K,L,I,G,d,f,g,i,j,k,l,m,n,o,b,c,a,p,q,r,s,t,u,v,w,x,y,z,A,B,C,D,E]) S =
  ( some ([F,J,Value.slice none 0 0,.int .i64 61,H,M,K,L,I,G,d,f,g,i,j,k,l,m,n,o,b,c,a,p,q,r,s,t,u,v,w,x,y,z,A,B,C,D,E],S)):=by
 kernel_rfl
theorem wB.r3 :jF zi ⟨false,false,false⟩ (jd zi O) (reg Try.f62 3) (reg Try.f62 3).toList ([F,J,N,P,H,M,K,L,I,G,d,f,g,i,j,k,l,m,n,o,b,c,a,p,q,r,s,t,u,v,w,x,y,z,A,B,C,D,E]) S =
  (zN (ZY zi 44 (dem F) S) (fun R Q=>zN (jU zi 24 1 [(0,R)] Q) (fun U X=>zN ((jd zi O) 63 [(dem U)] X) (fun W Y=>zN (zZ W 0 Y) (fun v5 Z=>zN (zZ (zV 0 W) 1 Z) (fun v6 S5=>some ([F,J,N,P,v5,v6,K,L,I,G,d,f,g,zV 1 (zV 0 W),dem F,R,U,dem W,dem v5,dem v6,b,c,a,p,q,r,s,t,u,v,w,x,y,z,A,B,C,D,E],S5)) ()) ()) ()) ()) ()):=by
 kernel_rfl
theorem wB.r4 :jF zi ⟨false,false,false⟩ (jd zi O) (reg Try.f62 4) (reg Try.f62 4).toList ([F,J,N,P,H,M,K,L,I,G,d,f,g,i,j,k,l,m,n,o,b,c,a,p,q,r,s,t,u,v,w,x,y,z,A,B,C,D,E]) S =
  (zN (ZY zi 44 (dem F) S) (fun R Q=>some ([F,J,N,P,H,M,K,L,I,G,d,f,g,i,j,k,l,m,n,o,dem F,R,.int .i64 0,p,q,r,s,t,u,v,w,x,y,z,A,B,C,D,E],Q)) ()):=by
 kernel_rfl
theorem wB.r5 :jF zi ⟨false,false,false⟩ (jd zi O) (reg Try.f62 5) (reg Try.f62 5).toList ([F,J,N,P,H,M,K,L,I,G,d,f,g,i,j,k,l,m,n,o,b,c,a,p,q,r,s,t,u,v,w,x,y,z,A,B,C,D,E]) S =
  (zN (wH zi BinOp.lss 3 a c S) (fun V Q=>some ([F,J,N,P,H,M,K,L,I,G,d,f,g,i,j,k,l,m,n,o,b,c,a,V,q,r,s,t,u,v,w,x,y,z,A,B,C,D,E],Q)) ()):=by
 kernel_rfl
theorem wB.r6 :jF zi ⟨false,false,false⟩ (jd zi O) (reg Try.f62 6) (reg Try.f62 6).toList ([F,J,N,P,H,M,K,L,I,G,d,f,g,i,j,k,l,m,n,o,b,c,a,p,q,r,s,t,u,v,w,x,y,z,A,B,C,D,E]) S =
  (zN (jr zi 44 b a S) (fun V Q=>zN (jl zi false 43 V Q) (fun R X=>zN (yR zi 43 X) (fun U Y=>zN (wS zi 43 U (dem R) Y) (fun W Z=>some ([F,J,N,P,H,M,K,U,I,G,d,f,g,i,j,k,l,m,n,o,b,c,a,p,V,R,s,t,u,v,w,x,y,z,A,B,C,D,E],Z)) ()) ()) ()) ()):=by
 kernel_rfl
theorem wB.r7 :jF zi ⟨false,false,false⟩ (jd zi O) (reg Try.f62 7) (reg Try.f62 7).toList ([F,J,N,P,H,M,K,L,I,G,d,f,g,i,j,k,l,m,n,o,b,c,a,p,q,r,s,t,u,v,w,x,y,z,A,B,C,D,E]) S =
  (zN (jl zi false 43 L S) (fun V Q=>zN ((jd zi O) 71 [(dem V)] Q) (fun R X=>zN (zZ R 0 X) (fun W Y=>zN (zZ (zV 0 R) 1 Y) (fun v4 Z=>some ([F,J,N,P,H,M,K,L,W,v4,d,f,g,i,j,k,l,m,n,o,b,c,a,p,q,r,zV 1 (zV 0 R),V,dem R,dem W,dem v4,x,y,z,A,B,C,D,E],Z)) ()) ()) ()) ()):=by
 kernel_rfl
theorem wB.r8 :jF zi ⟨false,false,false⟩ (jd zi O) (reg Try.f62 8) (reg Try.f62 8).toList ([F,J,N,P,H,M,K,L,I,G,d,f,g,i,j,k,l,m,n,o,b,c,a,p,q,r,s,t,u,v,w,x,y,z,A,B,C,D,E]) S =
  (zN (wH zi BinOp.neq 64 (dem G) (.int .i64 0) S) (fun R Q=>some ([F,J,N,P,H,M,K,L,I,G,d,f,g,i,j,k,l,m,n,o,b,c,a,p,q,r,s,t,u,v,w,dem G,R,z,A,B,C,D,E],Q)) ()):=by
 kernel_rfl
theorem wB.r9 :jF zi ⟨false,false,false⟩ (jd zi O) (reg Try.f62 9) (reg Try.f62 9).toList ([F,J,N,P,H,M,K,L,I,G,d,f,g,i,j,k,l,m,n,o,b,c,a,p,q,r,s,t,u,v,w,x,y,z,A,B,C,D,E]) S =
  ( some ([F,J,Value.slice none 0 0,G,H,M,K,L,I,dem G,d,f,g,i,j,k,l,m,n,o,b,c,a,p,q,r,s,t,u,v,w,x,y,dem G,A,B,C,D,E],S)):=by
 kernel_rfl
theorem wB.r10 :jF zi ⟨false,false,false⟩ (jd zi O) (reg Try.f62 10) (reg Try.f62 10).toList ([F,J,N,P,H,M,K,L,I,G,d,f,g,i,j,k,l,m,n,o,b,c,a,p,q,r,s,t,u,v,w,x,y,z,A,B,C,D,E]) S =
  (zN (yB zi 33 33 H (dem I) S) (fun U Q=>some ([F,J,N,P,U,M,K,L,I,G,d,f,g,i,j,k,l,m,n,o,b,c,a,p,q,r,s,t,u,v,w,x,y,z,dem H,dem I,dem U,D,E],Q)) ()):=by
 kernel_rfl
theorem wB.r11 :jF zi ⟨false,false,false⟩ (jd zi O) (reg Try.f62 11) (reg Try.f62 11).toList ([F,J,N,P,H,M,K,L,I,G,d,f,g,i,j,k,l,m,n,o,b,c,a,p,q,r,s,t,u,v,w,x,y,z,A,B,C,D,E]) S =
  (zN (wH zi BinOp.add 3 a (.int .i64 1) S) (fun V Q=>some ([F,J,N,P,H,M,K,L,I,G,d,f,g,i,j,k,l,m,n,o,b,c,dem V,p,q,r,s,t,u,v,w,x,y,z,A,B,C,V,E],Q)) ()):=by
 kernel_rfl
theorem wB.r12 :jF zi ⟨false,false,false⟩ (jd zi O) (reg Try.f62 12) (reg Try.f62 12).toList ([F,J,N,P,H,M,K,L,I,G,d,f,g,i,j,k,l,m,n,o,b,c,a,p,q,r,s,t,u,v,w,x,y,z,A,B,C,D,E]) S =
  ( some ([F,J,H,.int .i64 0,dem H,M,K,L,I,G,d,f,g,i,j,k,l,m,n,o,b,c,a,p,q,r,s,t,u,v,w,x,y,z,A,B,C,D,dem H],S)):=by
 kernel_rfl
theorem wB.rs:type_of% (alY @wB.r0 (alY @wB.r1 (alY @wB.r2 (alY @wB.r3 (alY @wB.r4 (alY @wB.r5 (alY @wB.r6 (alY @wB.r7 (alY @wB.r8 (alY @wB.r9 (alY @wB.r10 (alY @wB.r11 (@wB.r12))))))))))))):=alY @wB.r0 (alY @wB.r1 (alY @wB.r2 (alY @wB.r3 (alY @wB.r4 (alY @wB.r5 (alY @wB.r6 (alY @wB.r7 (alY @wB.r8 (alY @wB.r9 (alY @wB.r10 (alY @wB.r11 (@wB.r12))))))))))))
theorem wB.runs {F:Value} {S Q:zx} {e:AEx} {T:List Value} (h:zL zi O false wB.code ([F,zh,zh,zh,zh,zh,zh,zh,zh,zh,zh,zh,zh,zh,zh,zh,zh,zh,zh,zh,zh,zh,zh,zh,zh,zh,zh,zh,zh,zh,zh,zh,zh,zh,zh,zh,zh,zh,zh]) zx.empty=some (e,T,Q)) (he:e=.normal∨e=.ret)  (h0:wE (T.getD 2 zh)=true) (h1:wE (T.getD 3 zh)=true) (hca:[F].all (jL 16)=true) (hcv:jL 16 (Value.tuple #[T.getD 2 zh,T.getD 3 zh])=true):jd zi O 62 [F] S=some (Value.tuple #[T.getD 2 zh,T.getD 3 zh],S) :=
 yD rfl rfl Try.func62 (by decide) wB.body (by exact h) he ((qj ((show zQ zi T Q Try.f62.results.toList=zQ zi T Q [(ResultVar.tmp 2),(ResultVar.tmp 3)] from by kernel_rfl).trans (by simp only [zQ])) (by kernel_rfl) (by simp only [List.all_cons,List.all_nil,h0,h1,Bool.and_true])).trans rfl) hca hcv
end Go.Proofs.Ytfjogganfjkckaa
namespace Go.Proofs.Ytfjogganfjkckaa
open Go.Abs
abbrev zB.id:FuncId:=50
noncomputable def zB.jS:Code:=(.seq (.region 10 (reg Try.f50 10) false) (.seq (.cond (.tmp 30) Code.skip (.exit 2)) (.seq (.block 3 (.seq (.region 11 (reg Try.f50 11) false) (.seq (.region 12 (reg Try.f50 12) false) (.cond (.tmp 37) (.seq (.region 13 (reg Try.f50 13) false) Code.ret) Code.skip)))) (.region 14 (reg Try.f50 14) false))))
noncomputable def zB.Za:Code:=(.seq (.region 5 (reg Try.f50 5) false) (.seq (.cond (.tmp 18) Code.skip (.exit 0)) (.seq (.block 1 (.seq (.region 6 (reg Try.f50 6) false) (.seq (.seq (.region 7 (reg Try.f50 7) false) (.cond (.tmp 24) (.seq (.region 8 (reg Try.f50 8) false) Code.ret) Code.skip)) (.seq (.seq (.region 9 (reg Try.f50 9) false) (.block 2 (.loop zB.jS))) (.region 15 (reg Try.f50 15) false))))) (.region 16 (reg Try.f50 16) false))))
noncomputable def zB.code:Code:=(.seq (.region 0 (reg Try.f50 0) false) (.seq (.seq (.region 1 (reg Try.f50 1) false) (.cond (.tmp 11) (.seq (.region 2 (reg Try.f50 2) false) Code.ret) Code.skip)) (.seq (.region 3 (reg Try.f50 3) false) (.seq (.seq (.region 4 (reg Try.f50 4) false) (.block 0 (.loop zB.Za))) (.seq (.region 17 (reg Try.f50 17) false) Code.ret)))))
theorem zB.body:Try.f50.body=some zB.code:=by kernel_rfl
theorem zB.eta {T:List Value} (h:T.length=51):T=[T.getD 0 zh,T.getD 1 zh,T.getD 2 zh,T.getD 3 zh,T.getD 4 zh,T.getD 5 zh,T.getD 6 zh,T.getD 7 zh,T.getD 8 zh,T.getD 9 zh,T.getD 10 zh,T.getD 11 zh,T.getD 12 zh,T.getD 13 zh,T.getD 14 zh,T.getD 15 zh,T.getD 16 zh,T.getD 17 zh,T.getD 18 zh,T.getD 19 zh,T.getD 20 zh,T.getD 21 zh,T.getD 22 zh,T.getD 23 zh,T.getD 24 zh,T.getD 25 zh,T.getD 26 zh,T.getD 27 zh,T.getD 28 zh,T.getD 29 zh,T.getD 30 zh,T.getD 31 zh,T.getD 32 zh,T.getD 33 zh,T.getD 34 zh,T.getD 35 zh,T.getD 36 zh,T.getD 37 zh,T.getD 38 zh,T.getD 39 zh,T.getD 40 zh,T.getD 41 zh,T.getD 42 zh,T.getD 43 zh,T.getD 44 zh,T.getD 45 zh,T.getD 46 zh,T.getD 47 zh,T.getD 48 zh,T.getD 49 zh,T.getD 50 zh]:=(qQ T 51 h).trans (by kernel_rfl)
variable (U Y x2 x3 W X V Z x8 x9 i j k l m c d a n o p q r s t u v f g b w x y z A B C D E F G H I J K L M N P Q R:Value) (S:zx)
theorem zB.r0 :jF zi ⟨false,false,false⟩ (jd zi O) (reg Try.f50 0) (reg Try.f50 0).toList ([U,Y,x2,x3,W,X,V,Z,x8,x9,i,j,k,l,m,c,d,a,n,o,p,q,r,s,t,u,v,f,g,b,w,x,y,z,A,B,C,D,E,F,G,H,I,J,K,L,M,N,P,Q,R]) S =
  ( some ([U,Y,Value.slice none 0 0,.int .i64 0,W,X,V,Z,x8,x9,i,j,k,l,m,c,d,a,n,o,p,q,r,s,t,u,v,f,g,b,w,x,y,z,A,B,C,D,E,F,G,H,I,J,K,L,M,N,P,Q,R],S)):=by
 kernel_rfl
theorem zB.r1 :jF zi ⟨false,false,false⟩ (jd zi O) (reg Try.f50 1) (reg Try.f50 1).toList ([U,Y,x2,x3,W,X,V,Z,x8,x9,i,j,k,l,m,c,d,a,n,o,p,q,r,s,t,u,v,f,g,b,w,x,y,z,A,B,C,D,E,F,G,H,I,J,K,L,M,N,P,Q,R]) S =
  (zN (ZY zi 44 (dem U) S) (fun v1 S1=>zN (wH zi BinOp.gtr 3 v1 (.int .i64 3) S1) (fun v2 S2=>some ([U,Y,x2,x3,W,X,V,Z,x8,dem U,v1,v2,k,l,m,c,d,a,n,o,p,q,r,s,t,u,v,f,g,b,w,x,y,z,A,B,C,D,E,F,G,H,I,J,K,L,M,N,P,Q,R],S2)) ()) ()):=by
 kernel_rfl
theorem zB.r2 :jF zi ⟨false,false,false⟩ (jd zi O) (reg Try.f50 2) (reg Try.f50 2).toList ([U,Y,x2,x3,W,X,V,Z,x8,x9,i,j,k,l,m,c,d,a,n,o,p,q,r,s,t,u,v,f,g,b,w,x,y,z,A,B,C,D,E,F,G,H,I,J,K,L,M,N,P,Q,R]) S =
  ( some ([U,Y,Value.slice none 0 0,.int .i64 61,W,X,V,Z,x8,x9,i,j,k,l,m,c,d,a,n,o,p,q,r,s,t,u,v,f,g,b,w,x,y,z,A,B,C,D,E,F,G,H,I,J,K,L,M,N,P,Q,R],S)):=by
 kernel_rfl
theorem zB.r3 :jF zi ⟨false,false,false⟩ (jd zi O) (reg Try.f50 3) (reg Try.f50 3).toList ([U,Y,x2,x3,W,X,V,Z,x8,x9,i,j,k,l,m,c,d,a,n,o,p,q,r,s,t,u,v,f,g,b,w,x,y,z,A,B,C,D,E,F,G,H,I,J,K,L,M,N,P,Q,R]) S =
  (zN (ZY zi 44 (dem U) S) (fun v1 S1=>zN (jU zi 24 1 [(0,v1)] S1) (fun v2 S2=>some ([U,Y,x2,x3,v2,X,V,Z,x8,x9,i,j,dem U,v1,dem v2,c,d,a,n,o,p,q,r,s,t,u,v,f,g,b,w,x,y,z,A,B,C,D,E,F,G,H,I,J,K,L,M,N,P,Q,R],S2)) ()) ()):=by
 kernel_rfl
theorem zB.r4 :jF zi ⟨false,false,false⟩ (jd zi O) (reg Try.f50 4) (reg Try.f50 4).toList ([U,Y,x2,x3,W,X,V,Z,x8,x9,i,j,k,l,m,c,d,a,n,o,p,q,r,s,t,u,v,f,g,b,w,x,y,z,A,B,C,D,E,F,G,H,I,J,K,L,M,N,P,Q,R]) S =
  (zN (ZY zi 44 (dem U) S) (fun v1 S1=>some ([U,Y,x2,x3,W,X,V,Z,x8,x9,i,j,k,l,m,dem U,v1,.int .i64 0,n,o,p,q,r,s,t,u,v,f,g,b,w,x,y,z,A,B,C,D,E,F,G,H,I,J,K,L,M,N,P,Q,R],S1)) ()):=by
 kernel_rfl
theorem zB.r5 :jF zi ⟨false,false,false⟩ (jd zi O) (reg Try.f50 5) (reg Try.f50 5).toList ([U,Y,x2,x3,W,X,V,Z,x8,x9,i,j,k,l,m,c,d,a,n,o,p,q,r,s,t,u,v,f,g,b,w,x,y,z,A,B,C,D,E,F,G,H,I,J,K,L,M,N,P,Q,R]) S =
  (zN (wH zi BinOp.lss 3 a d S) (fun v0 S1=>some ([U,Y,x2,x3,W,X,V,Z,x8,x9,i,j,k,l,m,c,d,a,v0,o,p,q,r,s,t,u,v,f,g,b,w,x,y,z,A,B,C,D,E,F,G,H,I,J,K,L,M,N,P,Q,R],S1)) ()):=by
 kernel_rfl
theorem zB.r6 :jF zi ⟨false,false,false⟩ (jd zi O) (reg Try.f50 6) (reg Try.f50 6).toList ([U,Y,x2,x3,W,X,V,Z,x8,x9,i,j,k,l,m,c,d,a,n,o,p,q,r,s,t,u,v,f,g,b,w,x,y,z,A,B,C,D,E,F,G,H,I,J,K,L,M,N,P,Q,R]) S =
  (zN (jr zi 44 c (dem a) S) (fun v1 S1=>zN (jl zi false 43 v1 S1) (fun v2 S2=>zN (yR zi 43 S2) (fun v3 S3=>zN (wS zi 43 v3 (dem v2) S3) (fun v5 S4=>some ([U,Y,x2,x3,W,a,v3,Z,x8,x9,i,j,k,l,m,c,d,dem a,n,dem a,v1,v2,r,s,t,u,v,f,g,b,w,x,y,z,A,B,C,D,E,F,G,H,I,J,K,L,M,N,P,Q,R],S4)) ()) ()) ()) ()):=by
 kernel_rfl
theorem zB.r7 :jF zi ⟨false,false,false⟩ (jd zi O) (reg Try.f50 7) (reg Try.f50 7).toList ([U,Y,x2,x3,W,X,V,Z,x8,x9,i,j,k,l,m,c,d,a,n,o,p,q,r,s,t,u,v,f,g,b,w,x,y,z,A,B,C,D,E,F,G,H,I,J,K,L,M,N,P,Q,R]) S =
  (zN (jl zi false 43 V S) (fun v0 S1=>zN ((jd zi O) 48 [(dem v0)] S1) (fun v1 S2=>zN (aUn zi UnOp.not v1 S2) (fun v2 S3=>some ([U,Y,x2,x3,W,X,V,Z,x8,x9,i,j,k,l,m,c,d,a,n,o,p,q,v0,v1,v2,u,v,f,g,b,w,x,y,z,A,B,C,D,E,F,G,H,I,J,K,L,M,N,P,Q,R],S3)) ()) ()) ()):=by
 kernel_rfl
theorem zB.r8 :jF zi ⟨false,false,false⟩ (jd zi O) (reg Try.f50 8) (reg Try.f50 8).toList ([U,Y,x2,x3,W,X,V,Z,x8,x9,i,j,k,l,m,c,d,a,n,o,p,q,r,s,t,u,v,f,g,b,w,x,y,z,A,B,C,D,E,F,G,H,I,J,K,L,M,N,P,Q,R]) S =
  ( some ([U,Y,Value.slice none 0 0,.int .i64 61,W,X,V,Z,x8,x9,i,j,k,l,m,c,d,a,n,o,p,q,r,s,t,u,v,f,g,b,w,x,y,z,A,B,C,D,E,F,G,H,I,J,K,L,M,N,P,Q,R],S)):=by
 kernel_rfl
theorem zB.r9 :jF zi ⟨false,false,false⟩ (jd zi O) (reg Try.f50 9) (reg Try.f50 9).toList ([U,Y,x2,x3,W,X,V,Z,x8,x9,i,j,k,l,m,c,d,a,n,o,p,q,r,s,t,u,v,f,g,b,w,x,y,z,A,B,C,D,E,F,G,H,I,J,K,L,M,N,P,Q,R]) S =
  (zN (ZQ zi false 44 (dem U) none (some (dem X)) S) (fun v2 S1=>zN (ZY zi 44 v2 S1) (fun v3 S2=>some ([U,Y,x2,x3,W,X,V,Z,x8,x9,i,j,k,l,m,c,d,a,n,o,p,q,r,s,t,dem U,dem X,v2,v3,.int .i64 0,w,x,y,z,A,B,C,D,E,F,G,H,I,J,K,L,M,N,P,Q,R],S2)) ()) ()):=by
 kernel_rfl
theorem zB.r10 :jF zi ⟨false,false,false⟩ (jd zi O) (reg Try.f50 10) (reg Try.f50 10).toList ([U,Y,x2,x3,W,X,V,Z,x8,x9,i,j,k,l,m,c,d,a,n,o,p,q,r,s,t,u,v,f,g,b,w,x,y,z,A,B,C,D,E,F,G,H,I,J,K,L,M,N,P,Q,R]) S =
  (zN (wH zi BinOp.lss 3 b g S) (fun v0 S1=>some ([U,Y,x2,x3,W,X,V,Z,x8,x9,i,j,k,l,m,c,d,a,n,o,p,q,r,s,t,u,v,f,g,b,v0,x,y,z,A,B,C,D,E,F,G,H,I,J,K,L,M,N,P,Q,R],S1)) ()):=by
 kernel_rfl
theorem zB.r11 :jF zi ⟨false,false,false⟩ (jd zi O) (reg Try.f50 11) (reg Try.f50 11).toList ([U,Y,x2,x3,W,X,V,Z,x8,x9,i,j,k,l,m,c,d,a,n,o,p,q,r,s,t,u,v,f,g,b,w,x,y,z,A,B,C,D,E,F,G,H,I,J,K,L,M,N,P,Q,R]) S =
  (zN (jr zi 44 f b S) (fun v0 S1=>zN (jl zi false 43 v0 S1) (fun v1 S2=>zN (yR zi 43 S2) (fun v2 S3=>zN (wS zi 43 v2 (dem v1) S3) (fun v3 S4=>some ([U,Y,x2,x3,W,X,V,Z,v2,x9,i,j,k,l,m,c,d,a,n,o,p,q,r,s,t,u,v,f,g,b,w,v0,v1,z,A,B,C,D,E,F,G,H,I,J,K,L,M,N,P,Q,R],S4)) ()) ()) ()) ()):=by
 kernel_rfl
theorem zB.r12 :jF zi ⟨false,false,false⟩ (jd zi O) (reg Try.f50 12) (reg Try.f50 12).toList ([U,Y,x2,x3,W,X,V,Z,x8,x9,i,j,k,l,m,c,d,a,n,o,p,q,r,s,t,u,v,f,g,b,w,x,y,z,A,B,C,D,E,F,G,H,I,J,K,L,M,N,P,Q,R]) S =
  (zN (zG zi 43 x8 0 S) (fun v0 S1=>zN (jl zi false 3 v0 S1) (fun v1 S2=>zN (zG zi 43 V 0 S2) (fun v2 S3=>zN (jl zi false 3 v2 S3) (fun v3 S4=>zN (wH zi BinOp.eql 3 v1 v3 S4) (fun v4 S5=>some ([U,Y,x2,x3,W,X,V,Z,x8,x9,i,j,k,l,m,c,d,a,n,o,p,q,r,s,t,u,v,f,g,b,w,x,y,v0,v1,v2,v3,v4,E,F,G,H,I,J,K,L,M,N,P,Q,R],S5)) ()) ()) ()) ()) ()):=by
 kernel_rfl
theorem zB.r13 :jF zi ⟨false,false,false⟩ (jd zi O) (reg Try.f50 13) (reg Try.f50 13).toList ([U,Y,x2,x3,W,X,V,Z,x8,x9,i,j,k,l,m,c,d,a,n,o,p,q,r,s,t,u,v,f,g,b,w,x,y,z,A,B,C,D,E,F,G,H,I,J,K,L,M,N,P,Q,R]) S =
  ( some ([U,Y,Value.slice none 0 0,.int .i64 61,W,X,V,Z,x8,x9,i,j,k,l,m,c,d,a,n,o,p,q,r,s,t,u,v,f,g,b,w,x,y,z,A,B,C,D,E,F,G,H,I,J,K,L,M,N,P,Q,R],S)):=by
 kernel_rfl
theorem zB.r14 :jF zi ⟨false,false,false⟩ (jd zi O) (reg Try.f50 14) (reg Try.f50 14).toList ([U,Y,x2,x3,W,X,V,Z,x8,x9,i,j,k,l,m,c,d,a,n,o,p,q,r,s,t,u,v,f,g,b,w,x,y,z,A,B,C,D,E,F,G,H,I,J,K,L,M,N,P,Q,R]) S =
  (zN (wH zi BinOp.add 3 b (.int .i64 1) S) (fun v0 S1=>some ([U,Y,x2,x3,W,X,V,Z,x8,x9,i,j,k,l,m,c,d,a,n,o,p,q,r,s,t,u,v,f,g,dem v0,w,x,y,z,A,B,C,D,v0,F,G,H,I,J,K,L,M,N,P,Q,R],S1)) ()):=by
 kernel_rfl
theorem zB.r15 :jF zi ⟨false,false,false⟩ (jd zi O) (reg Try.f50 15) (reg Try.f50 15).toList ([U,Y,x2,x3,W,X,V,Z,x8,x9,i,j,k,l,m,c,d,a,n,o,p,q,r,s,t,u,v,f,g,b,w,x,y,z,A,B,C,D,E,F,G,H,I,J,K,L,M,N,P,Q,R]) S =
  (zN (zG zi 43 V 0 S) (fun v1 S1=>zN (jl zi false 3 v1 S1) (fun v2 S2=>zN (zG zi 43 V 1 S2) (fun v3 S3=>zN (jl zi false 3 v3 S3) (fun v4 S4=>zN (jU zi 24 2 [(0,v2),(1,v4)] S4) (fun v5 S5=>zN (yB zi 24 24 W v5 S5) (fun v6 S6=>some ([U,Y,x2,x3,v6,X,V,Z,x8,x9,i,j,k,l,m,c,d,a,n,o,p,q,r,s,t,u,v,f,g,b,w,x,y,z,A,B,C,D,E,dem W,v1,v2,v3,v4,v5,dem v6,M,N,P,Q,R],S6)) ()) ()) ()) ()) ()) ()):=by
 kernel_rfl
theorem zB.r16 :jF zi ⟨false,false,false⟩ (jd zi O) (reg Try.f50 16) (reg Try.f50 16).toList ([U,Y,x2,x3,W,X,V,Z,x8,x9,i,j,k,l,m,c,d,a,n,o,p,q,r,s,t,u,v,f,g,b,w,x,y,z,A,B,C,D,E,F,G,H,I,J,K,L,M,N,P,Q,R]) S =
  (zN (wH zi BinOp.add 3 a (.int .i64 1) S) (fun v0 S1=>some ([U,Y,x2,x3,W,X,V,Z,x8,x9,i,j,k,l,m,c,d,dem v0,n,o,p,q,r,s,t,u,v,f,g,b,w,x,y,z,A,B,C,D,E,F,G,H,I,J,K,L,v0,N,P,Q,R],S1)) ()):=by
 kernel_rfl
theorem zB.r17 :jF zi ⟨false,false,false⟩ (jd zi O) (reg Try.f50 17) (reg Try.f50 17).toList ([U,Y,x2,x3,W,X,V,Z,x8,x9,i,j,k,l,m,c,d,a,n,o,p,q,r,s,t,u,v,f,g,b,w,x,y,z,A,B,C,D,E,F,G,H,I,J,K,L,M,N,P,Q,R]) S =
  (zN ((jd zi O) 35 [(dem (dem W))] S) (fun v1 S1=>zN (zZ v1 0 S1) (fun v2 S2=>zN (zZ (zV 0 v1) 1 S2) (fun v3 S3=>some ([U,Y,v2,v3,W,X,V,Z,x8,x9,i,j,k,l,m,c,d,a,n,o,p,q,r,s,t,u,v,f,g,b,w,x,y,z,A,B,C,D,E,F,G,H,I,J,K,L,M,dem W,zV 1 (zV 0 v1),dem v2,dem v3],S3)) ()) ()) ()):=by
 kernel_rfl
theorem zB.rs:type_of% (alY @zB.r0 (alY @zB.r1 (alY @zB.r2 (alY @zB.r3 (alY @zB.r4 (alY @zB.r5 (alY @zB.r6 (alY @zB.r7 (alY @zB.r8 (alY @zB.r9 (alY @zB.r10 (alY @zB.r11 (alY @zB.r12 (alY @zB.r13 (alY @zB.r14 (alY @zB.r15 (alY @zB.r16 (@zB.r17)))))))))))))))))):=alY @zB.r0 (alY @zB.r1 (alY @zB.r2 (alY @zB.r3 (alY @zB.r4 (alY @zB.r5 (alY @zB.r6 (alY @zB.r7 (alY @zB.r8 (alY @zB.r9 (alY @zB.r10 (alY @zB.r11 (alY @zB.r12 (alY @zB.r13 (alY @zB.r14 (alY @zB.r15 (alY @zB.r16 (@zB.r17)))))))))))))))))
theorem zB.runs {U:Value} {S S1:zx} {e:AEx} {T:List Value} (h:zL zi O false zB.code ([U,zh,zh,zh,zh,zh,zh,zh,zh,zh,zh,zh,zh,zh,zh,zh,zh,zh,zh,zh,zh,zh,zh,zh,zh,zh,zh,zh,zh,zh,zh,zh,zh,zh,zh,zh,zh,zh,zh,zh,zh,zh,zh,zh,zh,zh,zh,zh,zh,zh,zh]) zx.empty=some (e,T,S1)) (he:e=.normal∨e=.ret)  (h0:wE (T.getD 2 zh)=true) (h1:wE (T.getD 3 zh)=true) (hca:[U].all (jL 16)=true) (hcv:jL 16 (Value.tuple #[T.getD 2 zh,T.getD 3 zh])=true):jd zi O 50 [U] S=some (Value.tuple #[T.getD 2 zh,T.getD 3 zh],S) :=
 yD rfl rfl Try.func50 (by decide) zB.body (by exact h) he ((qj ((show zQ zi T S1 Try.f50.results.toList=zQ zi T S1 [(ResultVar.tmp 2),(ResultVar.tmp 3)] from by kernel_rfl).trans (by simp only [zQ])) (by kernel_rfl) (by simp only [List.all_cons,List.all_nil,h0,h1,Bool.and_true])).trans rfl) hca hcv
end Go.Proofs.Ytfjogganfjkckaa
namespace Go.Proofs.Ytfjogganfjkckaa
open Go.Abs
abbrev yU.id:FuncId:=71
noncomputable def yU.code:Code:=(.seq (.region 0 (reg Try.f71 0) false) (.seq (.seq (.region 1 (reg Try.f71 1) false) (.cond (.tmp 8) (.seq (.region 2 (reg Try.f71 2) false) Code.ret) Code.skip)) (.seq (.region 3 (reg Try.f71 3) false) (.seq (.region 4 (reg Try.f71 4) false) Code.ret))))
theorem yU.body:Try.f71.body=some yU.code:=by kernel_rfl
variable (a m u v n o p q r s b c d f g i j k l:Value) (S:zx)
theorem yU.r0 :jF zi ⟨false,false,false⟩ (jd zi O) (reg Try.f71 0) (reg Try.f71 0).toList ([a,m,u,v,n,o,p,q,r,s,b,c,d,f,g,i,j,k,l]) S =
  (zN (JK (dem a) S) (fun w t=>some ([a,w,Value.slice none 0 0,.int .i64 0,n,o,p,q,r,s,b,c,d,f,g,i,j,k,l],t)) ()):=by
 kernel_rfl
theorem yU.r1 :jF zi ⟨false,false,false⟩ (jd zi O) (reg Try.f71 1) (reg Try.f71 1).toList ([a,m,u,v,n,o,p,q,r,s,b,c,d,f,g,i,j,k,l]) S =
  (zN (jl zi false 43 m S) (fun w t=>zN ((jd zi O) 68 [(dem w)] t) (fun x A=>zN (aUn zi UnOp.not x A) (fun y B=>some ([a,m,u,v,n,o,w,x,y,s,b,c,d,f,g,i,j,k,l],B)) ()) ()) ()):=by
 kernel_rfl
theorem yU.r2 :jF zi ⟨false,false,false⟩ (jd zi O) (reg Try.f71 2) (reg Try.f71 2).toList ([a,m,u,v,n,o,p,q,r,s,b,c,d,f,g,i,j,k,l]) S =
  ( some ([a,m,Value.slice none 0 0,.int .i64 61,n,o,p,q,r,s,b,c,d,f,g,i,j,k,l],S)):=by
 kernel_rfl
theorem yU.r3 :jF zi ⟨false,false,false⟩ (jd zi O) (reg Try.f71 3) (reg Try.f71 3).toList ([a,m,u,v,n,o,p,q,r,s,b,c,d,f,g,i,j,k,l]) S =
  (zN (zG zi 43 m 0 S) (fun w t=>zN (jl zi false 3 w t) (fun x A=>zN (zG zi 43 m 1 A) (fun y B=>zN (jl zi false 3 y B) (fun C G=>zN (jU zi 24 2 [(0,x),(1,C)] G) (fun D H=>zN ((jd zi O) 63 [(dem D)] H) (fun z I=>zN (zZ z 0 I) (fun E J=>zN (zZ (zV 0 z) 1 J) (fun F K=>some ([a,m,u,v,E,F,p,q,r,zV 1 (zV 0 z),w,x,y,C,D,dem z,dem E,dem F,l],K)) ()) ()) ()) ()) ()) ()) ()) ()):=by
 kernel_rfl
theorem yU.r4 :jF zi ⟨false,false,false⟩ (jd zi O) (reg Try.f71 4) (reg Try.f71 4).toList ([a,m,u,v,n,o,p,q,r,s,b,c,d,f,g,i,j,k,l]) S =
  ( some ([a,m,n,.int .i64 0,dem n,o,p,q,r,s,b,c,d,f,g,i,j,k,dem n],S)):=by
 kernel_rfl
theorem yU.rs:type_of% (alY @yU.r0 (alY @yU.r1 (alY @yU.r2 (alY @yU.r3 (@yU.r4))))):=alY @yU.r0 (alY @yU.r1 (alY @yU.r2 (alY @yU.r3 (@yU.r4))))
theorem yU.runs {a:Value} {S t:zx} {e:AEx} {T:List Value} (h:zL zi O false yU.code ([a,zh,zh,zh,zh,zh,zh,zh,zh,zh,zh,zh,zh,zh,zh,zh,zh,zh,zh]) zx.empty=some (e,T,t)) (he:e=.normal∨e=.ret)  (h0:wE (T.getD 2 zh)=true) (h1:wE (T.getD 3 zh)=true) (hca:[a].all (jL 16)=true) (hcv:jL 16 (Value.tuple #[T.getD 2 zh,T.getD 3 zh])=true):jd zi O 71 [a] S=some (Value.tuple #[T.getD 2 zh,T.getD 3 zh],S) :=
 yD rfl rfl Try.func71 (by decide) yU.body (by exact h) he ((qj ((show zQ zi T t Try.f71.results.toList=zQ zi T t [(ResultVar.tmp 2),(ResultVar.tmp 3)] from by kernel_rfl).trans (by simp only [zQ])) (by kernel_rfl) (by simp only [List.all_cons,List.all_nil,h0,h1,Bool.and_true])).trans rfl) hca hcv
end Go.Proofs.Ytfjogganfjkckaa
namespace Go.Proofs.Ytfjogganfjkckaa
open Go.Abs
abbrev jI.id:FuncId:=36
noncomputable def jI.code:Code:=(.seq (.region 0 (reg Try.f36 0) false) (.seq (.seq (.region 1 (reg Try.f36 1) false) (.cond (.tmp 6) (.seq (.region 2 (reg Try.f36 2) false) Code.ret) Code.skip)) (.seq (.region 3 (reg Try.f36 3) false) Code.ret)))
theorem jI.body:Try.f36.body=some jI.code:=by kernel_rfl
variable (a i r s k l m n o p b c d f g:Value) (S:zx)
theorem jI.r0 :jF zi ⟨false,false,false⟩ (jd zi O) (reg Try.f36 0) (reg Try.f36 0).toList ([a,i,r,s,k,l,m,n,o,p,b,c,d,f,g]) S =
  (zN (JK (dem a) S) (fun q j=>some ([a,q,Value.slice none 0 0,.int .i64 0,k,l,m,n,o,p,b,c,d,f,g],j)) ()):=by
 kernel_rfl
theorem jI.r1 :jF zi ⟨false,false,false⟩ (jd zi O) (reg Try.f36 1) (reg Try.f36 1).toList ([a,i,r,s,k,l,m,n,o,p,b,c,d,f,g]) S =
  (zN (jl zi false 43 i S) (fun q j=>zN ((jd zi O) 48 [(dem q)] j) (fun t v=>zN (aUn zi UnOp.not t v) (fun u w=>some ([a,i,r,s,q,t,u,n,o,p,b,c,d,f,g],w)) ()) ()) ()):=by
 kernel_rfl
theorem jI.r2 :jF zi ⟨false,false,false⟩ (jd zi O) (reg Try.f36 2) (reg Try.f36 2).toList ([a,i,r,s,k,l,m,n,o,p,b,c,d,f,g]) S =
  ( some ([a,i,Value.slice none 0 0,.int .i64 61,k,l,m,n,o,p,b,c,d,f,g],S)):=by
 kernel_rfl
theorem jI.r3 :jF zi ⟨false,false,false⟩ (jd zi O) (reg Try.f36 3) (reg Try.f36 3).toList ([a,i,r,s,k,l,m,n,o,p,b,c,d,f,g]) S =
  (zN (zG zi 43 i 0 S) (fun q j=>zN (jl zi false 3 q j) (fun t v=>zN (zG zi 43 i 1 v) (fun u w=>zN (jl zi false 3 u w) (fun y C=>zN (jU zi 24 2 [(0,t),(1,y)] C) (fun z D=>zN ((jd zi O) 35 [(dem z)] D) (fun x E=>zN (zZ x 0 E) (fun A F=>zN (zZ (zV 0 x) 1 F) (fun B G=>some ([a,i,A,B,k,l,m,q,t,u,y,z,zV 1 (zV 0 x),dem A,dem B],G)) ()) ()) ()) ()) ()) ()) ()) ()):=by
 kernel_rfl
theorem jI.rs:type_of% (alY @jI.r0 (alY @jI.r1 (alY @jI.r2 (@jI.r3)))):=alY @jI.r0 (alY @jI.r1 (alY @jI.r2 (@jI.r3)))
theorem jI.runs {a:Value} {S j:zx} {e:AEx} {T:List Value} (h:zL zi O false jI.code ([a,zh,zh,zh,zh,zh,zh,zh,zh,zh,zh,zh,zh,zh,zh]) zx.empty=some (e,T,j)) (he:e=.normal∨e=.ret)  (h0:wE (T.getD 2 zh)=true) (h1:wE (T.getD 3 zh)=true) (hca:[a].all (jL 16)=true) (hcv:jL 16 (Value.tuple #[T.getD 2 zh,T.getD 3 zh])=true):jd zi O 36 [a] S=some (Value.tuple #[T.getD 2 zh,T.getD 3 zh],S) :=
 yD rfl rfl Try.func36 (by decide) jI.body (by exact h) he ((qj ((show zQ zi T j Try.f36.results.toList=zQ zi T j [(ResultVar.tmp 2),(ResultVar.tmp 3)] from by kernel_rfl).trans (by simp only [zQ])) (by kernel_rfl) (by simp only [List.all_cons,List.all_nil,h0,h1,Bool.and_true])).trans rfl) hca hcv
end Go.Proofs.Ytfjogganfjkckaa
namespace Go.Proofs.Ytfjogganfjkckaa
open Go.Abs
abbrev yj.id:FuncId:=64
noncomputable def yj.code:Code:=(.seq (.region 0 (reg Try.f64 0) false) (.seq (.region 1 (reg Try.f64 1) false) (.seq (.seq (.region 2 (reg Try.f64 2) false) (.cond (.tmp 16) (.seq (.region 3 (reg Try.f64 3) false) Code.ret) Code.skip)) (.seq (.region 4 (reg Try.f64 4) true) (.seq (.region 5 (reg Try.f64 5) true) Code.ret)))))
theorem yj.body:Try.f64.body=some yj.code:=by kernel_rfl
variable (c E C H I b z D A F d f g i j k l m n o p q r s t u w x y:Value) (S:zx)
theorem yj.r0 :jF zi ⟨false,false,false⟩ (jd zi O) (reg Try.f64 0) (reg Try.f64 0).toList ([c,E,C,H,I,b,z,D,A,F,d,f,g,i,j,k,l,m,n,o,p,q,r,s,t,u,w,x,y]) S =
  (zN (yR zi 43 S) (fun J a=>some ([c,E,J,Value.slice none 0 0,Value.bool false,b,z,D,A,F,d,f,g,i,j,k,l,m,n,o,p,q,r,s,t,u,w,x,y],a)) ()):=by
 kernel_rfl
theorem yj.r1 :jF zi ⟨false,false,false⟩ (jd zi O) (reg Try.f64 1) (reg Try.f64 1).toList ([c,E,C,H,I,b,z,D,A,F,d,f,g,i,j,k,l,m,n,o,p,q,r,s,t,u,w,x,y]) S =
  (zN ((jd zi O) 55 [(dem (dem c)),(.int .i64 2)] S) (fun B a=>zN (zZ B 0 a) (fun N K=>zN (zZ (zV 0 B) 1 K) (fun G L=>zN (zZ (zV 1 (zV 0 B)) 2 L) (fun P Q=>some ([c,E,C,H,I,N,G,P,A,zV 2 (zV 1 (zV 0 B)),dem c,dem B,dem N,dem G,dem P,k,l,m,n,o,p,q,r,s,t,u,w,x,y],Q)) ()) ()) ()) ()):=by
 kernel_rfl
theorem yj.r2 :jF zi ⟨false,false,false⟩ (jd zi O) (reg Try.f64 2) (reg Try.f64 2).toList ([c,E,C,H,I,b,z,D,A,F,d,f,g,i,j,k,l,m,n,o,p,q,r,s,t,u,w,x,y]) S =
  (zN (wH zi BinOp.neq 64 (dem D) (.int .i64 0) S) (fun B a=>some ([c,E,C,H,I,b,z,D,A,F,d,f,g,i,j,dem D,B,m,n,o,p,q,r,s,t,u,w,x,y],a)) ()):=by
 kernel_rfl
theorem yj.r3 :jF zi ⟨false,false,false⟩ (jd zi O) (reg Try.f64 3) (reg Try.f64 3).toList ([c,E,C,H,I,b,z,D,A,F,d,f,g,i,j,k,l,m,n,o,p,q,r,s,t,u,w,x,y]) S =
  (zN (yw zi 43 [] S) (fun J a=>zN (wS zi 43 C (dem J) a) (fun B K=>some ([c,E,C,Value.slice none 0 0,Value.bool false,b,z,D,A,F,d,f,g,i,j,k,l,J,n,o,p,q,r,s,t,u,w,x,y],K)) ()) ()):=by
 kernel_rfl
theorem yj.d4:kC zi (reg Try.f64 4)=true:=by kernel_rfl
theorem yj.ff4:fixed zi (reg Try.f64 4)=false:=by kernel_rfl
theorem yj.k4:checked zi (reg Try.f64 4)=[0,1,2,3,4,5,6]:=by kernel_rfl
theorem yj.g4:again zi (reg Try.f64 4)=[(2,7),(5,7)]:=by kernel_rfl
theorem yj.r4 :zL zi O false (.region 4 (reg Try.f64 4) true) ([c,E,C,H,I,b,z,D,A,F,d,f,g,i,j,k,l,m,n,o,p,q,r,s,t,u,w,x,y]) S =
  Z8 (okK b ( zN (jr zi 24 (dem b) (.int .i64 0) S) (fun B a=>okK B ( zN (jl zi false 3 B a) (fun M K=>okK M ( okK b ( zN (jr zi 24 (dem b) (.int .i64 1) K) (fun G L=>okK G ( zN (jl zi false 3 G L) (fun P Q=>okK P ( zN (yw zi 43 [(0,(dem M)),(1,(dem P))] Q) (fun R W=>okK R ( zN (yR zi 43 W) (fun V U=>zN (wS zi 43 V (dem R) U) (fun Y X=>ckK (qV B a U && (qV G L U && (true))) (some ([c,E,C,H,I,b,z,D,V,F,d,f,g,i,j,k,l,m,dem b,B,M,dem b,G,P,R,u,w,x,y],X)) ()) ()) ()) ()) ()) ()) ()) ()) ()) ()) ()) ()) ()) ()) ()):=by
 rw [yM yj.d4 yj.ff4 yj.k4 yj.g4]
 refine congrArg Z8 ?_
 refine uPC Try.f64 4 0 (v:=b) (pe:=zh) ?_
 refine uDC Try.f64 4 1 (pe:=zh) (fun B a=>?_)
 refine uDC Try.f64 4 2 (pe:=B) (fun M K=>?_)
 refine uPC Try.f64 4 3 (v:=b) (pe:=zh) ?_
 refine uDC Try.f64 4 4 (pe:=zh) (fun G L=>?_)
 refine uDC Try.f64 4 5 (pe:=G) (fun P Q=>?_)
 refine uDC Try.f64 4 6 (pe:=zh) (fun R W=>?_)
 refine uD Try.f64 4 7 (pe:=zh) (fun V U=>?_)
 refine uD Try.f64 4 8 (pe:=zh) (fun Y X=>?_)
 kernel_rfl
theorem yj.d5:kC zi (reg Try.f64 5)=true:=by kernel_rfl
theorem yj.ff5:fixed zi (reg Try.f64 5)=false:=by kernel_rfl
theorem yj.k5:checked zi (reg Try.f64 5)=[0,1,1]:=by kernel_rfl
theorem yj.g5:again zi (reg Try.f64 5)=[(0,3)]:=by kernel_rfl
theorem yj.r5 :zL zi O false (.region 5 (reg Try.f64 5) true) ([c,E,C,H,I,b,z,D,A,F,d,f,g,i,j,k,l,m,n,o,p,q,r,s,t,u,w,x,y]) S =
  Z8 (zN (jl zi false 43 A S) (fun J a=>okK J ( okK z ( zN (jl zi false 43 A a) (fun M K=>zN ((jd zi O) 68 [(dem M)] K) (fun N L=>zN (wS zi 43 C (dem J) L) (fun G Q=>ckK (qV A S L && (true)) (some ([c,E,C,z,N,b,dem z,D,A,F,d,f,g,i,j,k,l,m,n,o,p,q,r,s,t,J,dem z,M,dem N],Q)) ()) ()) ()) ()) ()) ()) ()):=by
 rw [yM yj.d5 yj.ff5 yj.k5 yj.g5]
 refine congrArg Z8 ?_
 refine uDC Try.f64 5 0 (pe:=A) (fun J a=>?_)
 refine uPC Try.f64 5 1 (v:=z) (pe:=zh) ?_
 refine uD Try.f64 5 2 (pe:=A) (fun M K=>?_)
 refine uD Try.f64 5 3 (pe:=zh) (fun N L=>?_)
 refine uD Try.f64 5 4 (pe:=zh) (fun G Q=>?_)
 refine uP Try.f64 5 5 (v:=z) (pe:=zh) ?_
 refine uP Try.f64 5 6 (v:=N) (pe:=zh) ?_
 kernel_rfl
theorem yj.rs:type_of% (alY @yj.r0 (alY @yj.r1 (alY @yj.r2 (alY @yj.r3 (alY @yj.r4 (@yj.r5)))))):=alY @yj.r0 (alY @yj.r1 (alY @yj.r2 (alY @yj.r3 (alY @yj.r4 (@yj.r5)))))
theorem yj.runs {c:Value} {S a:zx} {e:AEx} {T:List Value} (h:zL zi O false yj.code ([c,zh,zh,zh,zh,zh,zh,zh,zh,zh,zh,zh,zh,zh,zh,zh,zh,zh,zh,zh,zh,zh,zh,zh,zh,zh,zh,zh,zh]) zx.empty=some (e,T,a)) (he:e=.normal∨e=.ret) {w0:Value} (c0:jl zi false 43 (T.getD 2 zh) a=some (w0,a)) (h0:wE (w0)=true) (h1:wE (T.getD 3 zh)=true) (h2:wE (T.getD 4 zh)=true) (hca:[c].all (jL 16)=true) (hcv:jL 16 (Value.tuple #[w0,T.getD 3 zh,T.getD 4 zh])=true):jd zi O 64 [c] S=some (Value.tuple #[w0,T.getD 3 zh,T.getD 4 zh],S) :=
 yD rfl rfl Try.func64 (by decide) yj.body (by exact h) he ((qj ((show zQ zi T a Try.f64.results.toList=zQ zi T a [(ResultVar.cell 2 43),(ResultVar.tmp 3),(ResultVar.tmp 4)] from by kernel_rfl).trans (by simp only [zQ,c0])) (by kernel_rfl) (by simp only [List.all_cons,List.all_nil,h0,h1,h2,Bool.and_true])).trans rfl) hca hcv
end Go.Proofs.Ytfjogganfjkckaa
namespace Go.Proofs.Ytfjogganfjkckaa
open Go.Abs
abbrev y7.id:FuncId:=56
noncomputable def y7.code:Code:=(.seq (.region 0 (reg Try.f56 0) false) (.seq (.region 1 (reg Try.f56 1) false) (.seq (.seq (.region 2 (reg Try.f56 2) false) (.cond (.tmp 19) (.seq (.region 3 (reg Try.f56 3) false) Code.ret) Code.skip)) (.seq (.region 4 (reg Try.f56 4) false) Code.ret))))
theorem y7.body:Try.f56.body=some y7.code:=by kernel_rfl
variable (a u t C w x s y z A d f g i k l m n o p q r:Value) (S:zx)
theorem y7.r0 :jF zi ⟨false,false,false⟩ (jd zi O) (reg Try.f56 0) (reg Try.f56 0).toList ([a,u,t,C,w,x,s,y,z,A,d,f,g,i,k,l,m,n,o,p,q,r]) S =
  (zN (yR zi 43 S) (fun D b=>some ([a,u,D,.int .i64 0,w,x,s,y,z,A,d,f,g,i,k,l,m,n,o,p,q,r],b)) ()):=by
 kernel_rfl
theorem y7.r1 :jF zi ⟨false,false,false⟩ (jd zi O) (reg Try.f56 1) (reg Try.f56 1).toList ([a,u,t,C,w,x,s,y,z,A,d,f,g,i,k,l,m,n,o,p,q,r]) S =
  (zN ((jd zi O) 64 [(dem (dem a))] S) (fun c b=>zN (zZ c 0 b) (fun E B=>zN (zZ (zV 0 c) 1 B) (fun F I=>zN (zZ (zV 1 (zV 0 c)) 2 I) (fun G J=>zN (yR zi 43 J) (fun H K=>zN (wS zi 43 H (dem E) K) (fun M L=>some ([a,u,t,C,H,F,G,zV 2 (zV 1 (zV 0 c)),dem a,dem c,E,dem F,dem G,i,k,l,m,n,o,p,q,r],L)) ()) ()) ()) ()) ()) ()):=by
 kernel_rfl
theorem y7.r2 :jF zi ⟨false,false,false⟩ (jd zi O) (reg Try.f56 2) (reg Try.f56 2).toList ([a,u,t,C,w,x,s,y,z,A,d,f,g,i,k,l,m,n,o,p,q,r]) S =
  (zN (aUn zi UnOp.not (dem s) S) (fun c b=>gdK (dem c) false (ret x) b (fun E B=>gdK (dem c) false (ZY zi 33 (dem E)) B (fun F I=>gdK (dem c) false (wH zi BinOp.gtr 3 F (.int .i64 0)) I (fun G J=>zN (wW (dem c) (Value.bool true) G J) (fun H K=>some ([a,u,t,C,w,x,s,y,z,A,d,f,g,dem s,c,dem c,dem E,F,G,H,q,r],K)) ()) ()) ()) ()) ()):=by
 refine sP Try.f56 2 0 (v:=s) ?_
 refine sD Try.f56 2 1 (fun c b=>?_)
 refine sP Try.f56 2 2 (v:=c) ?_
 refine sG Try.f56 2 3 (j:=2) (fun E B=>?_)
 refine sG Try.f56 2 4 (j:=2) (fun F I=>?_)
 refine sG Try.f56 2 5 (j:=2) (fun G J=>?_)
 refine sD Try.f56 2 6 (fun H K=>?_)
 kernel_rfl
theorem y7.r3 :jF zi ⟨false,false,false⟩ (jd zi O) (reg Try.f56 3) (reg Try.f56 3).toList ([a,u,t,C,w,x,s,y,z,A,d,f,g,i,k,l,m,n,o,p,q,r]) S =
  (zN (yw zi 43 [] S) (fun D b=>zN (wS zi 43 t (dem D) b) (fun c B=>some ([a,u,t,.int .i64 61,w,x,s,y,z,A,d,f,g,i,k,l,m,n,o,p,D,r],B)) ()) ()):=by
 kernel_rfl
theorem y7.r4 :jF zi ⟨false,false,false⟩ (jd zi O) (reg Try.f56 4) (reg Try.f56 4).toList ([a,u,t,C,w,x,s,y,z,A,d,f,g,i,k,l,m,n,o,p,q,r]) S =
  (zN (jl zi false 43 w S) (fun D b=>zN (wS zi 43 t (dem D) b) (fun c B=>some ([a,u,t,.int .i64 0,w,x,s,y,z,A,d,f,g,i,k,l,m,n,o,p,q,D],B)) ()) ()):=by
 kernel_rfl
theorem y7.rs:type_of% (alY @y7.r0 (alY @y7.r1 (alY @y7.r2 (alY @y7.r3 (@y7.r4))))):=alY @y7.r0 (alY @y7.r1 (alY @y7.r2 (alY @y7.r3 (@y7.r4))))
theorem y7.runs {a:Value} {S b:zx} {e:AEx} {T:List Value} (h:zL zi O false y7.code ([a,zh,zh,zh,zh,zh,zh,zh,zh,zh,zh,zh,zh,zh,zh,zh,zh,zh,zh,zh,zh,zh]) zx.empty=some (e,T,b)) (he:e=.normal∨e=.ret) {w0:Value} (c0:jl zi false 43 (T.getD 2 zh) b=some (w0,b)) (h0:wE (w0)=true) (h1:wE (T.getD 3 zh)=true) (hca:[a].all (jL 16)=true) (hcv:jL 16 (Value.tuple #[w0,T.getD 3 zh])=true):jd zi O 56 [a] S=some (Value.tuple #[w0,T.getD 3 zh],S) :=
 yD rfl rfl Try.func56 (by decide) y7.body (by exact h) he ((qj ((show zQ zi T b Try.f56.results.toList=zQ zi T b [(ResultVar.cell 2 43),(ResultVar.tmp 3)] from by kernel_rfl).trans (by simp only [zQ,c0])) (by kernel_rfl) (by simp only [List.all_cons,List.all_nil,h0,h1,Bool.and_true])).trans rfl) hca hcv
end Go.Proofs.Ytfjogganfjkckaa
namespace Go.Proofs.Ytfjogganfjkckaa
open Go.Abs
abbrev zX.id:FuncId:=30
noncomputable def zX.code:Code:=(.seq (.region 0 (reg Try.f30 0) false) (.seq (.region 1 (reg Try.f30 1) false) (.seq (.seq (.region 2 (reg Try.f30 2) true) (.cond (.tmp 30) (.seq (.region 3 (reg Try.f30 3) false) Code.ret) Code.skip)) (.seq (.region 4 (reg Try.f30 4) true) Code.ret))))
theorem zX.body:Try.f30.body=some zX.code:=by kernel_rfl
variable (f P N Z c Q M V W X g i k l m n o p q r s t u w x y z A B C D E F G H I J K L:Value) (S:zx)
theorem zX.r0 :jF zi ⟨false,false,false⟩ (jd zi O) (reg Try.f30 0) (reg Try.f30 0).toList ([f,P,N,Z,c,Q,M,V,W,X,g,i,k,l,m,n,o,p,q,r,s,t,u,w,x,y,z,A,B,C,D,E,F,G,H,I,J,K,L]) S =
  (zN (yR zi 43 S) (fun v0 d=>some ([f,P,v0,.int .i64 0,c,Q,M,V,W,X,g,i,k,l,m,n,o,p,q,r,s,t,u,w,x,y,z,A,B,C,D,E,F,G,H,I,J,K,L],d)) ()):=by
 kernel_rfl
theorem zX.r1 :jF zi ⟨false,false,false⟩ (jd zi O) (reg Try.f30 1) (reg Try.f30 1).toList ([f,P,N,Z,c,Q,M,V,W,X,g,i,k,l,m,n,o,p,q,r,s,t,u,w,x,y,z,A,B,C,D,E,F,G,H,I,J,K,L]) S =
  (zN ((jd zi O) 29 [(dem (dem f)),(.int .i64 2)] S) (fun a d=>zN (zZ a 0 d) (fun v3 Y=>zN (zZ (zV 0 a) 1 Y) (fun R S3=>zN (zZ (zV 1 (zV 0 a)) 2 S3) (fun U S4=>some ([f,P,N,Z,v3,R,U,zV 2 (zV 1 (zV 0 a)),dem f,dem a,dem v3,dem R,dem U,l,m,n,o,p,q,r,s,t,u,w,x,y,z,A,B,C,D,E,F,G,H,I,J,K,L],S4)) ()) ()) ()) ()):=by
 kernel_rfl
theorem zX.d2:kC zi (reg Try.f30 2)=true:=by kernel_rfl
theorem zX.ff2:fixed zi (reg Try.f30 2)=false:=by kernel_rfl
theorem zX.k2:checked zi (reg Try.f30 2)=[]:=by kernel_rfl
theorem zX.g2:again zi (reg Try.f30 2)=[]:=by kernel_rfl
theorem zX.r2 :zL zi O false (.region 2 (reg Try.f30 2) true) ([f,P,N,Z,c,Q,M,V,W,X,g,i,k,l,m,n,o,p,q,r,s,t,u,w,x,y,z,A,B,C,D,E,F,G,H,I,J,K,L]) S =
  Z8 (zN (wH zi BinOp.neq 3 (dem M) (.int .i64 0) S) (fun a d=>gdK (dem a) false (ret Q) d (fun v3 Y=>gdK (dem a) false (ZY zi 33 (dem v3)) Y (fun R S3=>gdK (dem a) false (wH zi BinOp.gtr 3 R (.int .i64 0)) S3 (fun U S4=>zN (wW (dem a) (Value.bool true) U S4) (fun b S5=>gdK (dem b) false (ret c) S5 (fun v8 S6=>gdK (dem b) false (jr zi 24 (dem v8) (.int .i64 0)) S6 (fun v9 S7=>gdK (dem b) false (jl zi false 3 v9) S7 (fun a0 S8=>gdK (dem b) false (ret c) S8 (fun a1 S9=>gdK (dem b) false (jr zi 24 (dem a1) (.int .i64 1)) S9 (fun a2 a7=>gdK (dem b) false (jl zi false 3 a2) a7 (fun a3 a8=>gdK (dem b) false (yw zi 43 [(0,(dem a0)),(1,(dem a3))]) a8 (fun a4 a9=>gdK (dem b) false ((jd zi O) 48 [(dem a4)]) a9 (fun a5 b0=>gdK (dem b) false (aUn zi UnOp.not a5) b0 (fun a6 b1=>zN (wW (dem b) (Value.bool true) a6 b1) (fun b2 b3=>some ([f,P,N,Z,c,Q,M,V,W,X,g,i,k,dem M,a,dem a,dem v3,R,U,b,dem b,dem v8,v9,a0,dem a1,a2,a3,a4,a5,a6,b2,E,F,G,H,I,J,K,L],b3)) ()) ()) ()) ()) ()) ()) ()) ()) ()) ()) ()) ()) ()) ()) ()):=by
 rw [yM zX.d2 zX.ff2 zX.k2 zX.g2]
 refine congrArg Z8 ?_
 refine tP Try.f30 2 0 (v:=M) ?_
 refine tD Try.f30 2 1 (fun a d=>?_)
 refine tP Try.f30 2 2 (v:=a) ?_
 refine tG Try.f30 2 3 (j:=2) (fun v3 Y=>?_)
 refine tG Try.f30 2 4 (j:=2) (fun R S3=>?_)
 refine tG Try.f30 2 5 (j:=2) (fun U S4=>?_)
 refine tD Try.f30 2 6 (fun b S5=>?_)
 refine tP Try.f30 2 7 (v:=b) ?_
 refine tG Try.f30 2 8 (j:=7) (fun v8 S6=>?_)
 refine tG Try.f30 2 9 (j:=7) (fun v9 S7=>?_)
 refine tG Try.f30 2 10 (j:=7) (fun a0 S8=>?_)
 refine tG Try.f30 2 11 (j:=7) (fun a1 S9=>?_)
 refine tG Try.f30 2 12 (j:=7) (fun a2 a7=>?_)
 refine tG Try.f30 2 13 (j:=7) (fun a3 a8=>?_)
 refine tG Try.f30 2 14 (j:=7) (fun a4 a9=>?_)
 refine tG Try.f30 2 15 (j:=7) (fun a5 b0=>?_)
 refine tG Try.f30 2 16 (j:=7) (fun a6 b1=>?_)
 refine tD Try.f30 2 17 (fun b2 b3=>?_)
 kernel_rfl
theorem zX.r3 :jF zi ⟨false,false,false⟩ (jd zi O) (reg Try.f30 3) (reg Try.f30 3).toList ([f,P,N,Z,c,Q,M,V,W,X,g,i,k,l,m,n,o,p,q,r,s,t,u,w,x,y,z,A,B,C,D,E,F,G,H,I,J,K,L]) S =
  (zN (yw zi 43 [] S) (fun v0 d=>zN (wS zi 43 N (dem v0) d) (fun a Y=>some ([f,P,N,.int .i64 61,c,Q,M,V,W,X,g,i,k,l,m,n,o,p,q,r,s,t,u,w,x,y,z,A,B,C,D,v0,F,G,H,I,J,K,L],Y)) ()) ()):=by
 kernel_rfl
theorem zX.d4:kC zi (reg Try.f30 4)=true:=by kernel_rfl
theorem zX.ff4:fixed zi (reg Try.f30 4)=false:=by kernel_rfl
theorem zX.k4:checked zi (reg Try.f30 4)=[]:=by kernel_rfl
theorem zX.g4:again zi (reg Try.f30 4)=[]:=by kernel_rfl
theorem zX.r4 :zL zi O false (.region 4 (reg Try.f30 4) true) ([f,P,N,Z,c,Q,M,V,W,X,g,i,k,l,m,n,o,p,q,r,s,t,u,w,x,y,z,A,B,C,D,E,F,G,H,I,J,K,L]) S =
  Z8 (zN (jr zi 24 (dem c) (.int .i64 0) S) (fun a d=>zN (jl zi false 3 a d) (fun v2 Y=>zN (jr zi 24 (dem c) (.int .i64 1) Y) (fun R S3=>zN (jl zi false 3 R S3) (fun U S4=>zN (yw zi 43 [(0,(dem v2)),(1,(dem U))] S4) (fun b S5=>zN (wS zi 43 N (dem b) S5) (fun v7 S6=>some ([f,P,N,.int .i64 0,c,Q,M,V,W,X,g,i,k,l,m,n,o,p,q,r,s,t,u,w,x,y,z,A,B,C,D,E,dem c,a,v2,dem c,R,U,b],S6)) ()) ()) ()) ()) ()) ()):=by
 rw [yM zX.d4 zX.ff4 zX.k4 zX.g4]
 refine congrArg Z8 ?_
 refine tP Try.f30 4 0 (v:=c) ?_
 refine tD Try.f30 4 1 (fun a d=>?_)
 refine tD Try.f30 4 2 (fun v2 Y=>?_)
 refine tP Try.f30 4 3 (v:=c) ?_
 refine tD Try.f30 4 4 (fun R S3=>?_)
 refine tD Try.f30 4 5 (fun U S4=>?_)
 refine tD Try.f30 4 6 (fun b S5=>?_)
 refine tD Try.f30 4 7 (fun v7 S6=>?_)
 refine tP Try.f30 4 8 (v:=(.int .i64 0)) ?_
 kernel_rfl
theorem zX.rs:type_of% (alY @zX.r0 (alY @zX.r1 (alY @zX.r2 (alY @zX.r3 (@zX.r4))))):=alY @zX.r0 (alY @zX.r1 (alY @zX.r2 (alY @zX.r3 (@zX.r4))))
theorem zX.runs {f:Value} {S d:zx} {e:AEx} {T:List Value} (h:zL zi O false zX.code ([f,zh,zh,zh,zh,zh,zh,zh,zh,zh,zh,zh,zh,zh,zh,zh,zh,zh,zh,zh,zh,zh,zh,zh,zh,zh,zh,zh,zh,zh,zh,zh,zh,zh,zh,zh,zh,zh,zh]) zx.empty=some (e,T,d)) (he:e=.normal∨e=.ret) {w0:Value} (c0:jl zi false 43 (T.getD 2 zh) d=some (w0,d)) (h0:wE (w0)=true) (h1:wE (T.getD 3 zh)=true) (hca:[f].all (jL 16)=true) (hcv:jL 16 (Value.tuple #[w0,T.getD 3 zh])=true):jd zi O 30 [f] S=some (Value.tuple #[w0,T.getD 3 zh],S) :=
 yD rfl rfl Try.func30 (by decide) zX.body (by exact h) he ((qj ((show zQ zi T d Try.f30.results.toList=zQ zi T d [(ResultVar.cell 2 43),(ResultVar.tmp 3)] from by kernel_rfl).trans (by simp only [zQ,c0])) (by kernel_rfl) (by simp only [List.all_cons,List.all_nil,h0,h1,Bool.and_true])).trans rfl) hca hcv
end Go.Proofs.Ytfjogganfjkckaa
namespace Go.Proofs.Ytfjogganfjkckaa
open Go.Abs
abbrev qI.id:FuncId:=68
noncomputable def qI.code:Code:=(.seq (.region 0 (reg Try.f68 0) false) (.seq (.region 1 (reg Try.f68 1) false) Code.ret))
theorem qI.body:Try.f68.body=some qI.code:=by kernel_rfl
variable (c i Y J K L M N P Q l m n o p q r s t u w:Value) (S:zx)
theorem qI.r0 :jF zi ⟨false,false,false⟩ (jd zi O) (reg Try.f68 0) (reg Try.f68 0).toList ([c,i,Y,J,K,L,M,N,P,Q,l,m,n,o,p,q,r,s,t,u,w]) S =
  (zN (JK (dem c) S) (fun x d=>some ([c,x,Value.bool false,J,K,L,M,N,P,Q,l,m,n,o,p,q,r,s,t,u,w],d)) ()):=by
 kernel_rfl
theorem qI.r1 :jF zi ⟨false,false,false⟩ (jd zi O) (reg Try.f68 1) (reg Try.f68 1).toList ([c,i,Y,J,K,L,M,N,P,Q,l,m,n,o,p,q,r,s,t,u,w]) S =
  (zN (zG zi 43 i 0 S) (fun x d=>zN (jl zi false 3 x d) (fun R Z=>zN (wH zi BinOp.geq 3 R (.int .i64 1) Z) (fun f S3=>gdK (dem f) true (zG zi 43 i 0) S3 (fun U S4=>gdK (dem f) true (jl zi false 3 U) S4 (fun V S5=>gdK (dem f) true (wH zi BinOp.leq 3 V (.int .i64 1000000)) S5 (fun W S6=>zN (wW (dem f) W (Value.bool false) S6) (fun g S7=>gdK (dem g) true (zG zi 43 i 1) S7 (fun X S8=>gdK (dem g) true (jl zi false 3 X) S8 (fun y S9=>gdK (dem g) true (wH zi BinOp.geq 3 y (.int .i64 0)) S9 (fun z D=>zN (wW (dem g) z (Value.bool false) D) (fun b E=>gdK (dem b) true (zG zi 43 i 1) E (fun A F=>gdK (dem b) true (jl zi false 3 A) F (fun B G=>gdK (dem b) true (wH zi BinOp.leq 3 B (.int .i64 1000)) G (fun C H=>zN (wW (dem b) C (Value.bool false) H) (fun k I=>some ([c,i,k,x,R,f,dem f,U,V,W,g,dem g,X,y,z,b,dem b,A,B,C,dem k],I)) ()) ()) ()) ()) ()) ()) ()) ()) ()) ()) ()) ()) ()) ()) ()):=by
 refine sD Try.f68 1 0 (fun x d=>?_)
 refine sD Try.f68 1 1 (fun R Z=>?_)
 refine sD Try.f68 1 2 (fun f S3=>?_)
 refine sP Try.f68 1 3 (v:=f) ?_
 refine sG Try.f68 1 4 (j:=3) (fun U S4=>?_)
 refine sG Try.f68 1 5 (j:=3) (fun V S5=>?_)
 refine sG Try.f68 1 6 (j:=3) (fun W S6=>?_)
 refine sD Try.f68 1 7 (fun g S7=>?_)
 refine sP Try.f68 1 8 (v:=g) ?_
 refine sG Try.f68 1 9 (j:=8) (fun X S8=>?_)
 refine sG Try.f68 1 10 (j:=8) (fun y S9=>?_)
 refine sG Try.f68 1 11 (j:=8) (fun z D=>?_)
 refine sD Try.f68 1 12 (fun b E=>?_)
 refine sP Try.f68 1 13 (v:=b) ?_
 refine sG Try.f68 1 14 (j:=13) (fun A F=>?_)
 refine sG Try.f68 1 15 (j:=13) (fun B G=>?_)
 refine sG Try.f68 1 16 (j:=13) (fun C H=>?_)
 refine sD Try.f68 1 17 (fun k I=>?_)
 refine sP Try.f68 1 18 (v:=k) ?_
 kernel_rfl
theorem qI.rs:type_of% (alY @qI.r0 (@qI.r1)):=alY @qI.r0 (@qI.r1)
theorem qI.runs {c:Value} {S d:zx} {e:AEx} {T:List Value} (h:zL zi O false qI.code ([c,zh,zh,zh,zh,zh,zh,zh,zh,zh,zh,zh,zh,zh,zh,zh,zh,zh,zh,zh,zh]) zx.empty=some (e,T,d)) (he:e=.normal∨e=.ret) (hca:[c].all (jL 16)=true) (hcv:jL 16 (T.getD 2 zh)=true):jd zi O 68 [c] S=some (T.getD 2 zh,S) :=
 yD rfl rfl Try.func68 (by decide) qI.body (by exact h) he (yG (a:=T.getD 2 zh) ((show zQ zi T d Try.f68.results.toList=zQ zi T d [(ResultVar.tmp 2)] from by kernel_rfl).trans (by simp only [zQ])) (by kernel_rfl)) hca hcv
end Go.Proofs.Ytfjogganfjkckaa
namespace Go.Proofs.Ytfjogganfjkckaa
open Go.Abs
abbrev jC.id:FuncId:=48
noncomputable def jC.code:Code:=(.seq (.region 0 (reg Try.f48 0) false) (.seq (.region 1 (reg Try.f48 1) false) Code.ret))
theorem jC.body:Try.f48.body=some jC.code:=by kernel_rfl
variable (c i Y J K L M N P Q l m n o p q r s t u w:Value) (S:zx)
theorem jC.r0 :jF zi ⟨false,false,false⟩ (jd zi O) (reg Try.f48 0) (reg Try.f48 0).toList ([c,i,Y,J,K,L,M,N,P,Q,l,m,n,o,p,q,r,s,t,u,w]) S =
  (zN (JK (dem c) S) (fun x d=>some ([c,x,Value.bool false,J,K,L,M,N,P,Q,l,m,n,o,p,q,r,s,t,u,w],d)) ()):=by
 kernel_rfl
theorem jC.r1 :jF zi ⟨false,false,false⟩ (jd zi O) (reg Try.f48 1) (reg Try.f48 1).toList ([c,i,Y,J,K,L,M,N,P,Q,l,m,n,o,p,q,r,s,t,u,w]) S =
  (zN (zG zi 43 i 0 S) (fun x d=>zN (jl zi false 3 x d) (fun R Z=>zN (wH zi BinOp.gtr 3 R (.int .i64 0) Z) (fun f S3=>gdK (dem f) true (zG zi 43 i 0) S3 (fun U S4=>gdK (dem f) true (jl zi false 3 U) S4 (fun V S5=>gdK (dem f) true (wH zi BinOp.leq 3 V (.int .i64 1000000)) S5 (fun W S6=>zN (wW (dem f) W (Value.bool false) S6) (fun g S7=>gdK (dem g) true (zG zi 43 i 1) S7 (fun X S8=>gdK (dem g) true (jl zi false 3 X) S8 (fun y S9=>gdK (dem g) true (wH zi BinOp.geq 3 y (.int .i64 0)) S9 (fun z D=>zN (wW (dem g) z (Value.bool false) D) (fun b E=>gdK (dem b) true (zG zi 43 i 1) E (fun A F=>gdK (dem b) true (jl zi false 3 A) F (fun B G=>gdK (dem b) true (wH zi BinOp.leq 3 B (.int .i64 1000)) G (fun C H=>zN (wW (dem b) C (Value.bool false) H) (fun k I=>some ([c,i,k,x,R,f,dem f,U,V,W,g,dem g,X,y,z,b,dem b,A,B,C,dem k],I)) ()) ()) ()) ()) ()) ()) ()) ()) ()) ()) ()) ()) ()) ()) ()):=by
 refine sD Try.f48 1 0 (fun x d=>?_)
 refine sD Try.f48 1 1 (fun R Z=>?_)
 refine sD Try.f48 1 2 (fun f S3=>?_)
 refine sP Try.f48 1 3 (v:=f) ?_
 refine sG Try.f48 1 4 (j:=3) (fun U S4=>?_)
 refine sG Try.f48 1 5 (j:=3) (fun V S5=>?_)
 refine sG Try.f48 1 6 (j:=3) (fun W S6=>?_)
 refine sD Try.f48 1 7 (fun g S7=>?_)
 refine sP Try.f48 1 8 (v:=g) ?_
 refine sG Try.f48 1 9 (j:=8) (fun X S8=>?_)
 refine sG Try.f48 1 10 (j:=8) (fun y S9=>?_)
 refine sG Try.f48 1 11 (j:=8) (fun z D=>?_)
 refine sD Try.f48 1 12 (fun b E=>?_)
 refine sP Try.f48 1 13 (v:=b) ?_
 refine sG Try.f48 1 14 (j:=13) (fun A F=>?_)
 refine sG Try.f48 1 15 (j:=13) (fun B G=>?_)
 refine sG Try.f48 1 16 (j:=13) (fun C H=>?_)
 refine sD Try.f48 1 17 (fun k I=>?_)
 refine sP Try.f48 1 18 (v:=k) ?_
 kernel_rfl
theorem jC.rs:type_of% (alY @jC.r0 (@jC.r1)):=alY @jC.r0 (@jC.r1)
theorem jC.runs {c:Value} {S d:zx} {e:AEx} {T:List Value} (h:zL zi O false jC.code ([c,zh,zh,zh,zh,zh,zh,zh,zh,zh,zh,zh,zh,zh,zh,zh,zh,zh,zh,zh,zh]) zx.empty=some (e,T,d)) (he:e=.normal∨e=.ret) (hca:[c].all (jL 16)=true) (hcv:jL 16 (T.getD 2 zh)=true):jd zi O 48 [c] S=some (T.getD 2 zh,S) :=
 yD rfl rfl Try.func48 (by decide) jC.body (by exact h) he (yG (a:=T.getD 2 zh) ((show zQ zi T d Try.f48.results.toList=zQ zi T d [(ResultVar.tmp 2)] from by kernel_rfl).trans (by simp only [zQ])) (by kernel_rfl)) hca hcv
end Go.Proofs.Ytfjogganfjkckaa
namespace Go.Proofs.Ytfjogganfjkckaa
open Go.Abs
theorem ahb {t:TypeId} {a b:List UInt8} {S:zx}:J7 zi .eql t (.string ⟨a.toArray⟩) (.string ⟨b.toArray⟩) S=some (.bool (decide (a=b)),S):=by rw [aeN]
end Go.Proofs.Ytfjogganfjkckaa
namespace Go.Proofs.Ytfjogganfjkckaa
open Go.Abs
structure TxV where
 id:Int
 fee:Int
 deriving DecidableEq
def fT (t:TxV):List Value:=[.int .i64 t.id,.int .i64 t.fee]
abbrev tv (t:TxV):Value:=.agg [Value.int .i64 t.id,.int .i64 t.fee].toArray
structure TxV.Ok (t:TxV):Prop where
 id:-9223372036854775808≤t.id∧t.id < 9223372036854775808
 fee:-9223372036854775808≤t.fee∧t.fee < 9223372036854775808
abbrev tTx:Ty:=.pair (.int .i64) (.pair (.int .i64) .unit)
def qF (t:TxV):Bool:=decide (1≤t.id) && decide (t.id≤1000000) && decide (0≤t.fee) && decide (t.fee≤1000)
theorem xC {t:TxV}:qF t=true ↔ 1≤t.id∧t.id≤1000000∧0≤t.fee∧t.fee≤1000:=by
 simp [qF,and_assoc]
abbrev mem1 (t:TxV):zx:=zx.empty.push (.cells [Value.int .i64 t.id,.int .i64 t.fee] (.own []) 0)
theorem box1 (t:TxV):JK (tv t) zx.empty=some (.pointer (some ⟨0,0,none⟩),mem1 t):=rfl
theorem ZG (t:TxV):(mem1 t).get 0=some (.cells [Value.int .i64 t.id,.int .i64 t.fee] (.own []) 0):=rfl
theorem qI.v (t:TxV) (S:zx):jd zi O qI.id [tv t] S=some (.bool (qF t),S):=by
 obtain ⟨T,hTe⟩:∃ T,T=(tv t::zh::zh::zh::zh::zh::zh::zh::zh::zh::zh::zh::zh::zh::zh::zh::zh::zh::zh::zh::zh::[]):=⟨_,rfl⟩
 have hr:zL zi O false qI.code T zx.empty=zL zi O false qI.code T zx.empty:=rfl
 have l0:=qK (t:=3) (o:=0+0) (ZG t) ZW rfl
 have l1:=qK (t:=3) (o:=0+1) (ZG t) ZW rfl
 by_cases h1:1≤t.id <;> by_cases h2:t.id≤1000000 <;> by_cases h3:0≤t.fee <;> by_cases h4:t.fee≤1000
 all_goals
  conv at hr =>
   rhs
   rw [hTe]
   simp only [qI.code,qI.rs,zSs,reduceIte,zk,zn,zo,zq,box1,kZ,Jf,l0,l1,h1,h2,h3,h4]
  rw [hTe] at hr
  simp only [qF,h1,h2,h3,h4,decide_true,decide_false,Bool.and_true,Bool.and_false,Bool.false_and]
  exact qI.runs hr (.inr rfl) rfl rfl
theorem jC.v (t:TxV) (S:zx):jd zi O jC.id [tv t] S=some (.bool (qF t),S):=by
 obtain ⟨T,hTe⟩:∃ T,T=(tv t::zh::zh::zh::zh::zh::zh::zh::zh::zh::zh::zh::zh::zh::zh::zh::zh::zh::zh::zh::zh::[]):=⟨_,rfl⟩
 have hr:zL zi O false jC.code T zx.empty=zL zi O false jC.code T zx.empty:=rfl
 have l0:=qK (t:=3) (o:=0+0) (ZG t) ZW rfl
 have l1:=qK (t:=3) (o:=0+1) (ZG t) ZW rfl
 have h0:decide (1≤t.id)=decide (0 < t.id):=decide_eq_decide.mpr (by omega)
 unfold qF
 rw [h0]
 by_cases h1:0 < t.id <;> by_cases h2:t.id≤1000000 <;> by_cases h3:0≤t.fee <;> by_cases h4:t.fee≤1000
 all_goals
  conv at hr =>
   rhs
   rw [hTe]
   simp only [jC.code,jC.rs,zSs,reduceIte,zk,zn,zo,zq,box1,kZ,Jf,l0,l1,h1,h2,h3,h4]
  rw [hTe] at hr
  simp only [h1,h2,h3,h4,decide_true,decide_false,Bool.and_true,Bool.and_false,Bool.false_and]
  exact jC.runs hr (.inr rfl) rfl rfl
theorem akY (x:tTx.Val) (hg:tTx.Good x):∃ t:TxV,tTx.Y2 x=fT t∧t.Ok:=by
 obtain ⟨a,b,u⟩:=x
 obtain ⟨h1,h2,_⟩:=hg
 exact ⟨⟨a,b⟩,rfl,YD h1,YD h2⟩
end Go.Proofs.Ytfjogganfjkckaa
namespace Go.Proofs.Ytfjogganfjkckaa
open Go.Abs
def txB (t:TxV):List UInt8:=encs [t.id,t.fee]
def akj (t:TxV):Value:=if qF t then .tuple #[by_ 2 (txB t),.int .i64 0] else .tuple #[.slice none 0 0,.int .i64 61]
theorem acd {t:TxV} (h:qF t=true):(txB t).length≤20:=by
 obtain ⟨h1,h2,h3,h4⟩:=xC.mp h
 have:=Jp (l:=[t.id,t.fee]) (by intro n hn;simp at hn;rcases hn with rfl | rfl <;> omega)
 exact this
theorem acw (x y:Int):sv 2 1 2 [.int .i64 x,.int .i64 y]=iz 2 [x,y]:=rfl
theorem yU.v (t:TxV) (S:zx):jd zi O yU.id [tv t] S=some (akj t,S):=by
 obtain ⟨T,hTe⟩:∃ T,T=(tv t::zh::zh::zh::zh::zh::zh::zh::zh::zh::zh::zh::zh::zh::zh::zh::zh::zh::zh::[]):=⟨_,rfl⟩
 have hr:zL zi O false yU.code T zx.empty=zL zi O false yU.code T zx.empty:=rfl
 have l0:=qK (t:=3) (o:=0+0) (ZG t) ZW rfl
 have l1:=qK (t:=3) (o:=0+1) (ZG t) ZW rfl
 have lt:=KR (ZG t)
 unfold akj
 by_cases h:qF t=true
 ·
  have hh:=xC.mp h
  have c1:=fun S=>jG.v (l:=[t.id,t.fee]) Okl.read (by decide) (by simp;omega) S
  conv at hr =>
   rhs
   rw [hTe]
   simp only [yU.code,yU.rs,zSs,reduceIte,zk,zn,zo,zq,box1,lt,Zp,qI.v,h,kZ,Jf,l0,l1,Qj,acw,c1,JR (l:=[t.id,t.fee]) (by simp) (by simp;omega) (by simp)]
  rw [hTe] at hr
  rw [if_pos h]
  exact yU.runs hr (.inr rfl) (by simp only [List.getD_cons_succ,List.getD_cons_zero,wG,wz,jQ,jT,wu]) rfl rfl (yV (all2 (qH (k:=2) (Nat.le_refl 2)) rfl))
 ·
  rw [Bool.not_eq_true] at h
  conv at hr =>
   rhs
   rw [hTe]
   simp only [yU.code,yU.rs,zSs,reduceIte,zk,zn,zo,zq,box1,lt,Zp,qI.v,h]
  rw [hTe] at hr
  rw [if_neg (by rw [h];decide)]
  exact yU.runs hr (.inr rfl) rfl rfl rfl rfl
theorem jI.v (t:TxV) (S:zx):jd zi O jI.id [tv t] S=some (akj t,S):=by
 obtain ⟨T,hTe⟩:∃ T,T=(tv t::zh::zh::zh::zh::zh::zh::zh::zh::zh::zh::zh::zh::zh::zh::[]):=⟨_,rfl⟩
 have hr:zL zi O false jI.code T zx.empty=zL zi O false jI.code T zx.empty:=rfl
 have l0:=qK (t:=3) (o:=0+0) (ZG t) ZW rfl
 have l1:=qK (t:=3) (o:=0+1) (ZG t) ZW rfl
 have lt:=KR (ZG t)
 unfold akj
 by_cases h:qF t=true
 ·
  have hh:=xC.mp h
  have c1:=fun S=>zJ.v (l:=[t.id,t.fee]) Okl.read (by decide) (by simp;omega) S
  conv at hr =>
   rhs
   rw [hTe]
   simp only [jI.code,jI.rs,zSs,reduceIte,zk,zn,zo,zq,box1,lt,Zp,jC.v,h,kZ,Jf,l0,l1,Qj,acw,c1,JR (l:=[t.id,t.fee]) (by simp) (by simp;omega) (by simp)]
  rw [hTe] at hr
  rw [if_pos h]
  exact jI.runs hr (.inr rfl) (by simp only [List.getD_cons_succ,List.getD_cons_zero,wG,wz,jQ,jT,wu]) rfl rfl (yV (all2 (qH (k:=2) (Nat.le_refl 2)) rfl))
 ·
  rw [Bool.not_eq_true] at h
  conv at hr =>
   rhs
   rw [hTe]
   simp only [jI.code,jI.rs,zSs,reduceIte,zk,zn,zo,zq,box1,lt,Zp,jC.v,h]
  rw [hTe] at hr
  rw [if_neg (by rw [h];decide)]
  exact jI.runs hr (.inr rfl) rfl rfl rfl rfl
theorem JY (S:zx):yR zi 43 S=some (.pointer (some ⟨S.next,0,none⟩),S.push (.cells (fT ⟨0,0⟩) (.own []) 0)):=by kernel_rfl
theorem XF (S:zx) (t:TxV):∃ S2,wS zi 43 (.pointer (some ⟨S.next,0,none⟩)) (tv t) (S.push (.cells (fT ⟨0,0⟩) (.own []) 0))=some (zh,S2)∧S2.get S.next=some (.cells (fT t) (.own []) 0)∧Ext S S2∧S.next < S2.next :=
 KG S (by rw [qG,List.toList_toArray];rfl) ZT rfl rfl
theorem abC {S S0:zx} {q:Nat} {u:TxV} (t:TxV) (hg:S.get q=some (.cells (fT u) (.own []) 0)) (hE:Ext S0 S) (hq:S0.next≤q):∃ S2,wS zi 43 (.pointer (some ⟨q,0,none⟩)) (tv t) S=some (zh,S2)∧S2.get q=some (.cells (fT t) (.own []) 0)∧Ext S0 S2∧S2.next=S.next∧∀ k,k≠q→S2.get k=S.get k :=
 Xx hg ZT rfl rfl (by simp [fT]) hE hq
theorem akU {R:Type} {a b:Int} (r:Option R) (p:Zf r):okK (.agg [Value.int .i64 a,.int .i64 b].toArray) r p=r:=kV rfl r p
theorem Wu {S:zx} {q:Nat} {t:TxV} (h:S.get q=some (.cells (fT t) (.own []) 0)):jl zi false 43 (.pointer (some ⟨q,0,none⟩)) S=some (tv t,S):=KR h
theorem KO {S:zx} {q:Nat} {t:TxV} (h:S.get q=some (.cells (fT t) (.own []) 0)):jl zi false 3 (.pointer (some ⟨q,0+0,none⟩)) S=some (.int .i64 t.id,S):=qK (t:=3) (o:=0+0) h ZW rfl
theorem alb {S:zx} {q:Nat} {t:TxV} (h:S.get q=some (.cells (fT t) (.own []) 0)):jl zi false 3 (.pointer (some ⟨q,0+1,none⟩)) S=some (.int .i64 t.fee,S):=qK (t:=3) (o:=0+1) h ZW rfl
theorem alK (k:Nat) (hk:k≤2) (a b:Int) (h:k≠0) (S:zx):jr zi 24 (iz k [a,b]) (.int .i64 0) S=some (EP [.int .i64 a],S):=acS ⟨hk,fun h0=>absurd h0 h⟩ (by decide) (by simp)
theorem alF (k:Nat) (hk:k≤2) (a b:Int) (h:k≠0) (S:zx):jr zi 24 (iz k [a,b]) (.int .i64 1) S=some (EP [.int .i64 b],S):=acS ⟨hk,fun h0=>absurd h0 h⟩ (by decide) (by simp)
def aix (l:List UInt8):Value:=match qm 2 l with
 | some ([a,b],r)=>.tuple #[tv ⟨a,b⟩,by_ 2 r,.bool (qF ⟨a,b⟩)]
 | _=>.tuple #[tv ⟨0,0⟩,.slice none 0 0,.bool false]
theorem KL (l:List UInt8):qm 2 l=none∨∃ a b r,qm 2 l=some ([a,b],r)∧r.length≤l.length:=by
 cases h:qm 2 l with
 | none=>exact .inl rfl
 | some ar =>
  obtain ⟨a,r⟩:=ar
  obtain ⟨h1,h2⟩:=WM h
  match a,h1 with
  | [x,y],_=>exact .inr ⟨x,y,r,rfl,h2⟩
theorem yj.v {k:Nat} {l:List UInt8} (hk:Okl k l) (k2:k≠2) (hl:l.length≤140737488355328) (S:zx):jd zi O yj.id [by_ k l] S=some (aix l,S):=by
 obtain ⟨T,hTe⟩:∃ T,T=(by_ k l::zh::zh::zh::zh::zh::zh::zh::zh::zh::zh::zh::zh::zh::zh::zh::zh::zh::zh::zh::zh::zh::zh::zh::zh::zh::zh::zh::zh::[]):=⟨_,rfl⟩
 have hr:zL zi O false yj.code T zx.empty=zL zi O false yj.code T zx.empty:=rfl
 have c1:=fun S=>zT.v (many:=2) hk k2 hl S
 have a1:=JY zx.empty
 have g1:(zx.empty.push (.cells (fT ⟨0,0⟩) (.own []) 0)).get 0=some (.cells (fT ⟨0,0⟩) (.own []) 0):=by kernel_rfl
 have n1:(zx.empty.push (.cells (fT ⟨0,0⟩) (.own []) 0)).next=1:=by kernel_rfl
 rw [show zx.empty.next=0 from rfl] at a1
 have r1:Zm 0 (if k=0 then 0 else 2) 2 l=_:=xU (m:=2) (by decide) (by decide)
 rw [r1] at c1
 unfold aix
 generalize hS1:zx.empty.push (.cells (fT ⟨0,0⟩) (.own []) 0)=S1 at a1 g1 n1
 rcases KL l with h | ⟨a,b,r,h,hlr⟩
 ·
  rw [h] at c1 ⊢
  obtain ⟨S2,p1,p2,p3,p4⟩:=abC ⟨0,0⟩ g1 (Ext.refl zx.empty |>.trans (hS1 ▸ Ext.push _ _)) (Nat.zero_le _)
  conv at hr =>
   rhs
   rw [hTe]
   simp only [yj.code,yj.rs,zSs,reduceIte,zk,zn,zo,zq,if_neg k2,a1,c1,wC,p1]
  rw [hTe] at hr
  exact yj.runs hr (.inr rfl) (Wu p2) rfl rfl rfl (all1 (qH (k:=k) hk.le)) rfl
 ·
  rw [h] at c1 ⊢
  have e0:=alK 1 (by decide) a b (by decide)
  have e1:=alF 1 (by decide) a b (by decide)
  have c2:∀ S,jd zi O 68 [.agg [Value.int .i64 a,.int .i64 b].toArray] S=some (.bool (qF ⟨a,b⟩),S):=fun S=>qI.v ⟨a,b⟩ S
  obtain ⟨S2,p1,p2,p3,p4⟩:=XF S1 ⟨a,b⟩
  have g2:S2.get 0=some (.cells (fT ⟨0,0⟩) (.own []) 0):=by rw [p3.get 0 (by omega),g1]
  obtain ⟨S3,q1,q2,q3,q4,q5⟩:=abC ⟨a,b⟩ g2 (Ext.trans (hS1 ▸ Ext.push _ _:Ext zx.empty S1) p3) (Nat.zero_le _)
  conv at hr =>
   rhs
   rw [hTe]
   simp only [yj.code,yj.rs,zSs,reduceIte,zk,zn,zo,zq,if_neg k2,a1,c1,e0,e1,qA,ZV (yS) (yS),JY,p1,Wu p2,q1,c2,qB p2,akU]
  rw [hTe] at hr
  exact yj.runs hr (.inr rfl) (Wu q2) rfl (by simp only [List.getD_cons_succ,List.getD_cons_zero,wG,wz,jQ,jT,wu]) rfl (all1 (qH (k:=k) hk.le)) (yV (alR rfl (qH (k:=2) (Nat.le_refl 2)) rfl))
noncomputable def af9 (l:List UInt8):Option TxV:=rd (fun t=>qF t=true) txB l
theorem af5 {a b:TxV} {r s:List UInt8} (ha:qF a=true) (hb:qF b=true) (h:txB a++r=txB b++s):a=b∧r=s:=by
 obtain ⟨a1,a2,a3,a4⟩:=xC.mp ha
 obtain ⟨b1,b2,b3,b4⟩:=xC.mp hb
 obtain ⟨h1,h2⟩:=WW (a:=[a.id,a.fee]) (c:=[b.id,b.fee]) rfl (by simp [Few];omega) (by simp [Few];omega) h
 refine ⟨?_,h2⟩
 cases a;cases b
 simp at h1
 rw [h1.1,h1.2]
theorem JX (l:List UInt8) (t:TxV):af9 l=some t ↔ qF t=true∧l=txB t :=
 afd (fun x y hx hy h=>(af5 (r:=[]) (s:=[]) hx hy (by simpa using h)).1) l t
theorem abU {l:List UInt8} (h:∀ t,¬ (qF t=true∧l=txB t)):af9 l=none:=by
 cases hr:af9 l with
 | none=>rfl
 | some t=>exact absurd ((JX l t).mp hr) (h t)
noncomputable def ad5 (l:List UInt8):Value:=match af9 l with
 | some t=>.tuple #[tv t,.int .i64 0]
 | none=>.tuple #[tv ⟨0,0⟩,.int .i64 61]
theorem afy {l r:List UInt8} {a b:Int} (h:qm 2 l=some ([a,b],r)):af9 l=if qF ⟨a,b⟩=true∧r=[] then some ⟨a,b⟩ else none:=by
 obtain ⟨_,h2,h3⟩:=(yY _ _ _ _).mp h
 split
 ·
  rename_i hc
  exact (JX _ _).mpr ⟨hc.1,by rw [h2,hc.2,List.append_nil];rfl⟩
 ·
  rename_i hc
  refine abU fun t ht=>hc ?_
  obtain ⟨b1,b2,b3,b4⟩:=xC.mp ht.1
  have h4:encs [t.id,t.fee]++[]=encs [a,b]++r:=by rw [List.append_nil,← h2];exact ht.2.symm
  obtain ⟨h5,h6⟩:=WW (a:=[t.id,t.fee]) (c:=[a,b]) rfl (by simp [Few];omega) h3 h4
  simp at h5
  rw [← h5.1,← h5.2]
  exact ⟨ht.1,h6.symm⟩
theorem QB {l:List UInt8} (h:qm 2 l=none):af9 l=none:=by
 refine abU fun t ht=>?_
 obtain ⟨b1,b2,b3,b4⟩:=xC.mp ht.1
 have:=(yY 2 l [t.id,t.fee] []).mpr ⟨rfl,by rw [List.append_nil];exact ht.2,by simp [Few];omega⟩
 rw [h] at this
 cases this
theorem y7.v {k:Nat} {l:List UInt8} (hk:Okl k l) (k2:k≠2) (hl:l.length≤140737488355328) (S:zx):jd zi O y7.id [by_ k l] S=some (ad5 l,S):=by
 obtain ⟨T,hTe⟩:∃ T,T=(by_ k l::zh::zh::zh::zh::zh::zh::zh::zh::zh::zh::zh::zh::zh::zh::zh::zh::zh::zh::zh::zh::zh::[]):=⟨_,rfl⟩
 have hr:zL zi O false y7.code T zx.empty=zL zi O false y7.code T zx.empty:=rfl
 have c1:=fun S=>yj.v hk k2 hl S
 have a1:=JY zx.empty
 have g1:(zx.empty.push (.cells (fT ⟨0,0⟩) (.own []) 0)).get 0=some (.cells (fT ⟨0,0⟩) (.own []) 0):=by kernel_rfl
 have n1:(zx.empty.push (.cells (fT ⟨0,0⟩) (.own []) 0)).next=1:=by kernel_rfl
 rw [show zx.empty.next=0 from rfl] at a1
 have hE1:Ext zx.empty (zx.empty.push (.cells (fT ⟨0,0⟩) (.own []) 0)):=Ext.push _ _
 generalize zx.empty.push (.cells (fT ⟨0,0⟩) (.own []) 0)=S1 at a1 g1 n1 hE1
 unfold aix at c1
 unfold ad5
 rcases KL l with h | ⟨a,b,r,h,hlr⟩
 ·
  rw [h] at c1
  rw [QB h]
  obtain ⟨S2,p1,p2,p3,p4⟩:=XF S1 ⟨0,0⟩
  have g2:S2.get 0=some (.cells (fT ⟨0,0⟩) (.own []) 0):=by rw [p3.get 0 (by omega),g1]
  obtain ⟨S3,q1,q2,q3,q4,q5⟩:=abC ⟨0,0⟩ g2 (Ext.trans hE1 p3) (Nat.zero_le _)
  conv at hr =>
   rhs
   rw [hTe]
   simp only [y7.code,y7.rs,zSs,reduceIte,zk,zn,zo,zq,if_neg k2,a1,c1,JY,p1,wC,q1]
  rw [hTe] at hr
  exact y7.runs hr (.inr rfl) (Wu q2) rfl rfl (all1 (qH (k:=k) hk.le)) rfl
 ·
  rw [h] at c1
  rw [afy h]
  by_cases hok:qF ⟨a,b⟩=true
  ·
   obtain ⟨S2,p1,p2,p3,p4⟩:=XF S1 ⟨a,b⟩
   have g2:S2.get 0=some (.cells (fT ⟨0,0⟩) (.own []) 0):=by rw [p3.get 0 (by omega),g1]
   by_cases h0:r=[]
   ·
    subst h0
    obtain ⟨S3,q1,q2,q3,q4,q5⟩:=abC ⟨a,b⟩ g2 (Ext.trans hE1 p3) (Nat.zero_le _)
    conv at hr =>
     rhs
     rw [hTe]
     simp only [y7.code,y7.rs,zSs,reduceIte,zk,zn,zo,zq,if_neg k2,a1,c1,JY,p1,hok,Zv Okl.read,goInt,List.length_nil,Int.ofNat_zero,Int.natCast_zero,Int.lt_irrefl,Wu p2,q1]
    rw [if_pos ⟨hok,rfl⟩]
    rw [hTe] at hr
    exact y7.runs hr (.inr rfl) (Wu q2) rfl rfl (all1 (qH (k:=k) hk.le)) rfl
   ·
    have hp:(0:Int) < (r.length:Int):=by have:=List.length_pos_iff.mpr h0;omega
    obtain ⟨S3,q1,q2,q3,q4,q5⟩:=abC ⟨0,0⟩ g2 (Ext.trans hE1 p3) (Nat.zero_le _)
    conv at hr =>
     rhs
     rw [hTe]
     simp only [y7.code,y7.rs,zSs,reduceIte,zk,zn,zo,zq,if_neg k2,a1,c1,JY,p1,hok,Zv Okl.read,goInt,decide_eq_true hp,wC,q1]
    rw [if_neg (fun h=>h0 h.2)]
    rw [hTe] at hr
    exact y7.runs hr (.inr rfl) (Wu q2) rfl rfl (all1 (qH (k:=k) hk.le)) rfl
  ·
   rw [if_neg (fun h=>hok h.1)]
   rw [Bool.not_eq_true] at hok
   obtain ⟨S2,p1,p2,p3,p4⟩:=XF S1 ⟨a,b⟩
   have g2:S2.get 0=some (.cells (fT ⟨0,0⟩) (.own []) 0):=by rw [p3.get 0 (by omega),g1]
   obtain ⟨S3,q1,q2,q3,q4,q5⟩:=abC ⟨0,0⟩ g2 (Ext.trans hE1 p3) (Nat.zero_le _)
   conv at hr =>
    rhs
    rw [hTe]
    simp only [y7.code,y7.rs,zSs,reduceIte,zk,zn,zo,zq,if_neg k2,a1,c1,JY,p1,hok,wC,q1]
   rw [hTe] at hr
   exact y7.runs hr (.inr rfl) (Wu q2) rfl rfl (all1 (qH (k:=k) hk.le)) rfl
theorem zX.v {k:Nat} {l:List UInt8} (hk:Okl k l) (k2:k≠2) (hl:l.length≤140737488355328) (S:zx):jd zi O zX.id [by_ k l] S=some (ad5 l,S):=by
 obtain ⟨T,hTe⟩:∃ T,T=(by_ k l::zh::zh::zh::zh::zh::zh::zh::zh::zh::zh::zh::zh::zh::zh::zh::zh::zh::zh::zh::zh::zh::zh::zh::zh::zh::zh::zh::zh::zh::zh::zh::zh::zh::zh::zh::zh::zh::zh::[]):=⟨_,rfl⟩
 have hr:zL zi O false zX.code T zx.empty=zL zi O false zX.code T zx.empty:=rfl
 have c1:=fun S=>zC.v (many:=2) hk k2 hl S
 have r1:Zm 2 2 2 l=_:=xU (m:=2) (by decide) (by decide)
 rw [r1] at c1
 have a1:=JY zx.empty
 have g1:(zx.empty.push (.cells (fT ⟨0,0⟩) (.own []) 0)).get 0=some (.cells (fT ⟨0,0⟩) (.own []) 0):=by kernel_rfl
 rw [show zx.empty.next=0 from rfl] at a1
 have hE1:Ext zx.empty (zx.empty.push (.cells (fT ⟨0,0⟩) (.own []) 0)):=Ext.push _ _
 generalize zx.empty.push (.cells (fT ⟨0,0⟩) (.own []) 0)=S1 at a1 g1 hE1
 obtain ⟨S3,q1,q2,q3,q4,q5⟩:=abC ⟨0,0⟩ g1 hE1 (Nat.zero_le _)
 unfold ad5
 rcases KL l with h | ⟨a,b,r,h,hlr⟩
 ·
  rw [h] at c1
  rw [QB h]
  conv at hr =>
   rhs
   rw [hTe]
   simp only [zX.code,zX.rs,zSs,reduceIte,zk,zn,zo,zq,if_neg k2,a1,c1,wC,q1]
  rw [hTe] at hr
  exact zX.runs hr (.inr rfl) (Wu q2) rfl rfl (all1 (qH (k:=k) hk.le)) rfl
 ·
  rw [h] at c1
  rw [afy h]
  have e0:=alK 1 (by decide) a b (by decide)
  have e1:=alF 1 (by decide) a b (by decide)
  have c2:∀ S,jd zi O 48 [.agg [Value.int .i64 a,.int .i64 b].toArray] S=some (.bool (qF ⟨a,b⟩),S):=fun S=>jC.v ⟨a,b⟩ S
  by_cases h0:r=[]
  ·
   subst h0
   by_cases hok:qF ⟨a,b⟩=true
   ·
    obtain ⟨S4,p1,p2,p3,p4⟩:=abC ⟨a,b⟩ g1 hE1 (Nat.zero_le _)
    conv at hr =>
     rhs
     rw [hTe]
     simp only [zX.code,zX.rs,zSs,reduceIte,zk,zn,zo,zq,if_neg k2,a1,c1,Zv Okl.read,goInt,List.length_nil,Int.ofNat_zero,Int.natCast_zero,Int.lt_irrefl,e0,e1,qA,ZV (yS) (yS),c2,hok,p1]
    rw [if_pos ⟨hok,rfl⟩]
    rw [hTe] at hr
    exact zX.runs hr (.inr rfl) (Wu p2) rfl rfl (all1 (qH (k:=k) hk.le)) rfl
   ·
    rw [if_neg (fun h=>hok h.1)]
    rw [Bool.not_eq_true] at hok
    conv at hr =>
     rhs
     rw [hTe]
     simp only [zX.code,zX.rs,zSs,reduceIte,zk,zn,zo,zq,if_neg k2,a1,c1,Zv Okl.read,goInt,List.length_nil,Int.ofNat_zero,Int.natCast_zero,Int.lt_irrefl,e0,e1,qA,ZV (yS) (yS),c2,hok,wC,q1]
    rw [hTe] at hr
    exact zX.runs hr (.inr rfl) (Wu q2) rfl rfl (all1 (qH (k:=k) hk.le)) rfl
  ·
   have hp:(0:Int) < (r.length:Int):=by have:=List.length_pos_iff.mpr h0;omega
   rw [if_neg (fun h=>h0 h.2)]
   conv at hr =>
    rhs
    rw [hTe]
    simp only [zX.code,zX.rs,zSs,reduceIte,zk,zn,zo,zq,if_neg k2,a1,c1,Zv Okl.read,goInt,decide_eq_true hp,wC,q1]
   rw [hTe] at hr
   exact zX.runs hr (.inr rfl) (Wu q2) rfl rfl (all1 (qH (k:=k) hk.le)) rfl
end Go.Proofs.Ytfjogganfjkckaa
namespace Go.Proofs.Ytfjogganfjkckaa
open Go.Abs
abbrev tl (k:Nat) (l:List TxV):Value:=vs fT 2 k l
theorem ac4 (t:TxV):(fT t).length=2:=rfl
theorem akD (t:TxV):(fT t).all (·.oneCell')=true:=rfl
theorem Jq {k:Nat} {l:List TxV} {S:zx} (h:Okl k l):ZY zi 44 (tl k l) S=some (.int .i64 l.length,S):=afI JH h
theorem Qy {k:Nat} {l pre suf:List TxV} {t:TxV} {S:zx} (h:Okl k l) (hl:l=pre++t::suf):jr zi 44 (tl k l) (.int .i64 pre.length) S=some (EP [.int .i64 t.id,.int .i64 t.fee],S):=by
 have h1:(pre.length:Int) < (l.length:Int):=by rw [hl];simp;omega
 rw [akp JH ZT ac4 h (by omega) h1,abJ hl];rfl
theorem ahq {k:Nat} {l:List TxV} {S:zx} {lo hi:Option Value} {i j:Int} (h:Okl k l) (hlo:ZA 0 lo=some i) (hhi:ZA l.length hi=some j) (h0:0≤i) (hij:i≤j) (hj:j≤l.length):Z9 zi 44 (tl k l) lo hi S=some (tl (if k=2 then 1 else k) ((l.drop i.toNat).take (j.toNat - i.toNat)),S):=adB JH ZT ac4 h hlo hhi h0 hij hj
theorem ag6 {k:Nat} {l:List TxV} {t:TxV} {S:zx} (h:Okl k l) (hk:k≠1) (hl:l.length≤8796093022000):yB zi 44 44 (tl k l) (tl 2 [t]) S=some (tl 2 (l++[t]),S):=by
 rw [Xz JH ZT ah8 rfl ahE (by omega) JH ac4 akD h hk Okl.own (by simp;omega) (by simp;omega),if_neg (fun h=>by have:=h.2;simp at this)]
theorem adG {α:Type} (g:α→Int) (v:Value) (l:List α) (k:Int):Vs (l.map fun t=>(g t,v)) k=if k ∈ l.map g then some v else none:=by
 induction l with
 | nil=>rfl
 | cons t l ih =>
  simp only [List.map_cons,Vs,ih,List.mem_cons]
  by_cases h:g t=k
  ·
   simp [h]
  ·
   have h':¬ k=g t:=fun e=>h e.symm
   simp [h,h']
abbrev kI:Int→Value:=fun n=>.int .i64 n
def unl (l:List TxV):Bool:=decide ((l.map TxV.id).Nodup) && decide (l.length≤3)
theorem jM.round {k:Nat} {l:List TxV} (hk:Okl k l) (hl:l.length≤8796093022208) {q:Nat}:∀ (suf pre:List TxV) {T:List Value} {S:zx} {r:St},qR (zL zi O false jM.jS) T S=r→T.length=24 →
  T.getD 0 zh=tl k l→T.getD 3 zh=.map (some q)→T.getD 7 zh=tl k l→T.getD 8 zh=.int .i64 l.length→T.getD 9 zh=.int .i64 pre.length→l=pre++suf →
  MapAt kI S q (pre.map fun t=>(t.id,.bool true))→q < S.next→(pre.map TxV.id).Nodup →
  ∃ e T' S',r=some (e,T',S')∧if (l.map TxV.id).Nodup then e=.exit 0∧T'.length=24∧T'.getD 0 zh=tl k l else e=.ret∧T'.getD 2 zh=.bool false:=by
 intro suf
 induction suf with
 | nil =>
  intro pre T S r hL hT h0 h3 h7 h8 h9 hpre hm hq hn
  have hTe:=jM.eta hT
  rw [h0,h3,h7,h8,h9] at hTe
  have hr:zL zi O false jM.jS T S=zL zi O false jM.jS T S:=rfl
  have d1:¬ (pre.length:Int) < (l.length:Int):=by rw [hpre];simp
  conv at hr =>
   rhs
   rw [hTe]
   simp only [jM.jS,jM.code,jM.rs,zSs,reduceIte,zk,zn,zo,zq,d1]
  refine ⟨_,_,_,hL.symm.trans (wI hr (by simp)),?_⟩
  rw [if_pos (by rw [hpre,List.append_nil];exact hn)]
  exact ⟨rfl,rfl,rfl⟩
 | cons t suf ih =>
  intro pre T S r hL hT h0 h3 h7 h8 h9 hpre hm hq hn
  have hTe:=jM.eta hT
  rw [h0,h3,h7,h8,h9] at hTe
  have hr:zL zi O false jM.jS T S=zL zi O false jM.jS T S:=rfl
  have d1:(pre.length:Int) < (l.length:Int):=by rw [hpre];simp;omega
  have e1:=fun S=>Qy (S:=S) hk hpre
  have wi:IntKind.i64.wrap ((pre.length:Int)+1)=((pre++[t]).length:Int):=by rw [wrap_i64 (by omega) (by omega)];simp
  obtain ⟨S2,p1,p2,p3,p4⟩:=XF S t
  have hm2:MapAt kI S2 q (pre.map fun t=>(t.id,.bool true)):=hm.keep (p3.get q hq)
  have m1:vY zi false 126 (.map (some q)) (.int .i64 t.id) false S2=_:=agJ Xi hm2 QG abv ai4 rfl t.id
  rw [adG] at m1
  by_cases ht:t.id ∈ pre.map TxV.id
  ·
   rw [if_pos ht] at m1
   conv at hr =>
    rhs
    rw [hTe]
    simp only [jM.jS,jM.code,jM.rs,zSs,reduceIte,zk,zn,zo,zq,d1,e1,xw,JY,p1,kZ,KO p2,m1,Option.getD_some]
   refine ⟨_,_,_,hL.symm.trans (wI hr (by simp)),?_⟩
   rw [if_neg (by rw [hpre];simp only [List.map_append,List.map_cons,List.nodup_append];intro h;exact h.2.2 _ ht _ (by simp) rfl)]
   exact ⟨rfl,rfl⟩
  ·
   rw [if_neg ht] at m1
   obtain ⟨S3,u1,u2,u3,u4,u5⟩:=ab7 Xi hm2 QG abv t.id (.bool true)
   have u1':yZ zi 126 (.map (some q)) (.int .i64 t.id) (.bool true) S2=some (zh,S3):=u1
   rw [aaQ (by rw [adG,if_neg ht])] at u2
   conv at hr =>
    rhs
    rw [hTe]
    simp only [jM.jS,jM.code,jM.rs,zSs,reduceIte,zk,zn,zo,zq,d1,e1,xw,JY,p1,kZ,KO p2,m1,Option.getD_none,u1',wi]
   refine ih (pre++[t]) ((yH hr).symm.trans hL) rfl rfl rfl rfl rfl rfl (by simp [hpre]) (by simpa using u2) (by omega) ?_
   simp only [List.map_append,List.map_cons,List.map_nil,List.nodup_append]
   exact ⟨hn,by simp,fun a ha b hb=>by simp at hb;subst hb;exact fun h=>ht (h ▸ ha)⟩
theorem jM.v {k:Nat} {l:List TxV} (hk:Okl k l) (k2:k≠2) (hl:l.length≤8796093022208) (S:zx):jd zi O jM.id [tl k l] S=some (.bool (unl l),S):=by
 obtain ⟨T,hTe⟩:∃ T,T=(tl k l::zh::zh::zh::zh::zh::zh::zh::zh::zh::zh::zh::zh::zh::zh::zh::zh::zh::zh::zh::zh::zh::zh::zh::[]):=⟨_,rfl⟩
 have hr:zL zi O false jM.code T zx.empty=zL zi O false jM.code T zx.empty:=rfl
 obtain ⟨S1,m1,m2,m3,m4,m5⟩:=acJ (P:=zi) (t:=126) kI zx.empty
 conv at hr =>
  rhs
  rw [hTe]
  simp only [jM.code,jM.rs,zSs,reduceIte,zk,zn,zo,zq,m1,if_neg k2,Jq hk]
 generalize hL:qR (zL zi O false jM.jS) _ _=r at hr
 obtain ⟨e,T',S',rfl,g⟩:=jM.round hk hl l [] hL rfl rfl rfl rfl rfl rfl rfl m2 (by omega) List.nodup_nil
 unfold unl
 by_cases h:(l.map TxV.id).Nodup
 ·
  rw [if_pos h] at g
  obtain ⟨rfl,g2,g3⟩:=g
  have hTe':=jM.eta g2
  rw [g3] at hTe'
  have d3:decide ((l.length:Int)≤3)=decide (l.length≤3):=decide_eq_decide.mpr (by omega)
  conv at hr =>
   rhs
   rw [hTe']
   simp only [jM.code,jM.rs,zSs,reduceIte,zk,zn,zo,zq,if_neg k2,Jq hk,d3]
  rw [hTe] at hr
  rw [decide_eq_true h,Bool.true_and]
  exact jM.runs hr (.inr rfl) (all1 (Jk hk.le fun _ _=>rfl)) rfl
 ·
  rw [if_neg h] at g
  obtain ⟨rfl,g2⟩:=g
  conv at hr =>
   rhs
   simp only [zSs,reduceIte,zk,zn,zo,zq]
  rw [hTe] at hr
  rw [decide_eq_false h,Bool.false_and]
  have hrun:=jM.runs (S:=S) hr (.inr rfl) (all1 (Jk hk.le fun _ _=>rfl)) (by rw [g2];rfl)
  rw [g2] at hrun
  exact hrun
def ZJ (l:List TxV):Bool:=unl l && l.all qF
def flat (l:List TxV):List Int:=l.flatMap fun t=>[t.id,t.fee]
def aaU (l:List TxV):List UInt8:=encs ((l.length:Int)::flat l)
def ahJ (l:List TxV):Value:=if ZJ l then .tuple #[by_ 2 (aaU l),.int .i64 0] else .tuple #[.slice none 0 0,.int .i64 61]
theorem Yy (a b:List TxV):flat (a++b)=flat a++flat b:=by simp [flat]
theorem JL (l:List TxV):(flat l).length=2 * l.length:=by
 induction l with
 | nil=>rfl
 | cons t l ih=>rw [show flat (t::l)=[t.id,t.fee]++flat l from rfl,List.length_append,ih];simp;omega
theorem aag {l:List TxV} (h:∀ t ∈ l,qF t=true):∀ n ∈ flat l,0≤n∧n≤1000000:=by
 intro n hn
 simp only [flat,List.mem_flatMap] at hn
 obtain ⟨t,h1,h2⟩:=hn
 obtain ⟨b1,b2,b3,b4⟩:=xC.mp (h t h1)
 simp at h2
 omega
theorem Zz (l:List TxV):aaU l=encs [(l.length:Int)]++encs (flat l):=ZE [(l.length:Int)] (flat l)
theorem YJ {l:List TxV} (h:∀ t ∈ l,qF t=true):(encs (flat l)).length≤20 * l.length:=by
 have h1:=Jp (l:=flat l) (fun n hn=>by have:=aag h n hn;omega)
 rw [JL] at h1
 omega
theorem wB.round {k:Nat} {l:List TxV} (hk:Okl k l) (hl:l.length≤3) {A:List UInt8} (hA:A.length≤100):∀ (suf pre:List TxV) {T:List Value} {S:zx} {r:St},qR (zL zi O false wB.jS) T S=r→T.length=39 →
  T.getD 4 zh=by_ 2 (A++encs (flat pre))→T.getD 20 zh=tl k l→T.getD 21 zh=.int .i64 l.length→T.getD 22 zh=.int .i64 pre.length→l=pre++suf→(∀ t ∈ pre,qF t=true) →
  ∃ e T' S',r=some (e,T',S')∧if l.all qF=true then e=.exit 0∧T'.length=39∧T'.getD 4 zh=by_ 2 (A++encs (flat l)) else e=.ret∧T'.getD 2 zh=.slice none 0 0∧T'.getD 3 zh=.int .i64 61:=by
 intro suf
 induction suf with
 | nil =>
  intro pre T S r hL hT h4 h20 h21 h22 hpre hp
  have hTe:=wB.eta hT
  rw [h4,h20,h21,h22] at hTe
  have hr:zL zi O false wB.jS T S=zL zi O false wB.jS T S:=rfl
  have d1:¬ (pre.length:Int) < (l.length:Int):=by rw [hpre];simp
  conv at hr =>
   rhs
   rw [hTe]
   simp only [wB.jS,wB.code,wB.rs,zSs,reduceIte,zk,zn,zo,zq,d1]
  refine ⟨_,_,_,hL.symm.trans (wI hr (by simp)),?_⟩
  rw [List.append_nil] at hpre
  rw [hpre,if_pos (List.all_eq_true.mpr hp)]
  exact ⟨rfl,rfl,rfl⟩
 | cons t suf ih =>
  intro pre T S r hL hT h4 h20 h21 h22 hpre hp
  have hTe:=wB.eta hT
  rw [h4,h20,h21,h22] at hTe
  have hr:zL zi O false wB.jS T S=zL zi O false wB.jS T S:=rfl
  have d1:(pre.length:Int) < (l.length:Int):=by rw [hpre];simp;omega
  have e1:=fun S=>Qy (S:=S) hk hpre
  have wi:IntKind.i64.wrap ((pre.length:Int)+1)=((pre++[t]).length:Int):=by rw [wrap_i64 (by omega) (by omega)];simp
  obtain ⟨S2,p1,p2,p3,p4⟩:=XF S t
  have c1:∀ S,jd zi O 71 [.agg [Value.int .i64 t.id,.int .i64 t.fee].toArray] S=some (akj t,S):=fun S=>yU.v t S
  unfold akj at c1
  by_cases ht:qF t=true
  ·
   rw [if_pos ht] at c1
   have hb:=acd ht
   have hf:=YJ hp
   have hpl:pre.length≤3:=by omega
   have ap:∀ S,yB zi 33 33 (by_ 2 (A++encs (flat pre))) (by_ 1 (txB t)) S=some (by_ 2 (A++encs (flat (pre++[t]))),S):=fun S=>by
    rw [xu Okl.own (by decide) Okl.read (by simp;omega),Yy,ZE,← List.append_assoc];rfl
   conv at hr =>
    rhs
    rw [hTe]
    simp only [wB.jS,wB.code,wB.rs,zSs,reduceIte,zk,zn,zo,zq,d1,e1,xw,JY,p1,Wu p2,c1,ap,wi]
   exact ih (pre++[t]) ((yH hr).symm.trans hL) rfl rfl rfl rfl rfl (by simp [hpre]) (fun x hx=>by rcases List.mem_append.1 hx with h | h;{ exact hp x h };{ simp at h;rw [h];exact ht })
  ·
   rw [if_neg ht] at c1
   conv at hr =>
    rhs
    rw [hTe]
    simp only [wB.jS,wB.code,wB.rs,zSs,reduceIte,zk,zn,zo,zq,d1,e1,xw,JY,p1,Wu p2,c1]
   refine ⟨_,_,_,hL.symm.trans (wI hr (by simp)),?_⟩
   rw [if_neg (by rw [hpre];simp [ht])]
   exact ⟨rfl,rfl,rfl⟩
theorem wB.v {k:Nat} {l:List TxV} (hk:Okl k l) (k2:k≠2) (hl:l.length≤8796093022208) (S:zx):jd zi O wB.id [tl k l] S=some (ahJ l,S):=by
 obtain ⟨T,hTe⟩:∃ T,T=(tl k l::zh::zh::zh::zh::zh::zh::zh::zh::zh::zh::zh::zh::zh::zh::zh::zh::zh::zh::zh::zh::zh::zh::zh::zh::zh::zh::zh::zh::zh::zh::zh::zh::zh::zh::zh::zh::zh::zh::[]):=⟨_,rfl⟩
 have hr:zL zi O false wB.code T zx.empty=zL zi O false wB.code T zx.empty:=rfl
 have c1:=fun S=>jM.v hk k2 hl S
 have cl:jL 16 (tl k l)=true:=Jk hk.le fun _ _=>rfl
 unfold ahJ ZJ
 by_cases hu:unl l=true
 ·
  have h3:l.length≤3:=by unfold unl at hu;simp at hu;exact hu.2
  have c2:=fun S=>jG.v (l:=[(l.length:Int)]) Okl.read (by decide) (by simp;omega) S
  have hA:(encs [(l.length:Int)]).length≤100:=by
   have:=Jp (l:=[(l.length:Int)]) (by simp;omega)
   simp at this;omega
  conv at hr =>
   rhs
   rw [hTe]
   simp only [wB.code,wB.rs,zSs,reduceIte,zk,zn,zo,zq,if_neg k2,c1,hu,Jq hk,WY,ahN,c2,JR (l:=[(l.length:Int)]) (by simp) (by intro n hn;simp at hn;omega) (by simp)]
  generalize hL:qR (zL zi O false wB.jS) _ _=r at hr
  obtain ⟨e,T',S',rfl,g⟩:=wB.round hk h3 hA l [] hL rfl (by rw [show flat []=[] from rfl,show encs []=[] from rfl,List.append_nil];rfl) rfl rfl rfl rfl (fun t h=>by cases h)
  by_cases ha:l.all qF=true
  ·
   rw [if_pos ha] at g
   obtain ⟨rfl,g2,g3⟩:=g
   have hTe':=wB.eta g2
   rw [g3] at hTe'
   conv at hr =>
    rhs
    rw [hTe']
    simp only [wB.code,wB.rs,zSs,reduceIte,zk,zn,zo,zq]
   rw [hTe] at hr
   rw [if_pos (by rw [hu,ha];rfl),Zz]
   exact wB.runs hr (.inr rfl) (by simp only [List.getD_cons_succ,List.getD_cons_zero,wG,wz,jQ,jT,wu]) rfl (all1 cl) (yV (all2 (qH (k:=2) (Nat.le_refl 2)) rfl))
  ·
   rw [if_neg ha] at g
   obtain ⟨rfl,g2,g3⟩:=g
   conv at hr =>
    rhs
    simp only [zSs,reduceIte,zk,zn,zo,zq]
   rw [hTe] at hr
   rw [if_neg (by rw [hu,Bool.true_and];exact ha)]
   have hrun:=wB.runs (S:=S) hr (.inr rfl) (by rw [g2];rfl) (by rw [g3];rfl) (all1 cl) (by rw [g2,g3];rfl)
   rw [g2,g3] at hrun
   exact hrun
 ·
  rw [Bool.not_eq_true] at hu
  conv at hr =>
   rhs
   rw [hTe]
   simp only [wB.code,wB.rs,zSs,reduceIte,zk,zn,zo,zq,if_neg k2,c1,hu]
  rw [hTe] at hr
  rw [if_neg (by rw [hu];simp)]
  exact wB.runs hr (.inr rfl) rfl rfl (all1 cl) rfl
def good (l:List TxV):Prop:=(l.map TxV.id).Nodup∧∀ t ∈ l,qF t=true
theorem xY {l:List TxV}:ZJ l=true ↔ good l∧l.length≤3:=by
 unfold ZJ unl good
 simp [and_assoc,and_comm,and_left_comm]
theorem zB.inner {k:Nat} {l:List TxV} (hk:Okl k l) (hl:l.length≤3) {t:TxV} {q:Nat} :
  ∀ (suf pre:List TxV) {T:List Value} {S:zx} {r:St},qR (zL zi O false zB.jS) T S=r→T.length=51→T.getD 6 zh=.pointer (some ⟨q,0,none⟩)→T.getD 27 zh=tl k l→T.getD 28 zh=.int .i64 l.length→T.getD 29 zh=.int .i64 pre.length→l=pre++suf →
  S.get q=some (.cells (fT t) (.own []) 0)→q < S.next →
  ∃ e T' S',r=some (e,T',S')∧Ext S S'∧if t.id ∈ suf.map TxV.id then e=.ret∧T'.getD 2 zh=.slice none 0 0∧T'.getD 3 zh=.int .i64 61 else e=.exit 2∧T'.length=51 ∧
   T'.getD 0 zh=T.getD 0 zh∧T'.getD 4 zh=T.getD 4 zh∧T'.getD 6 zh=T.getD 6 zh∧T'.getD 15 zh=T.getD 15 zh∧T'.getD 16 zh=T.getD 16 zh∧T'.getD 17 zh=T.getD 17 zh:=by
 intro suf
 induction suf with
 | nil =>
  intro pre T S r hL hT h6 h27 h28 h29 hpre hg hq
  have hTe:=zB.eta hT
  rw [h27,h28,h29] at hTe
  have hr:zL zi O false zB.jS T S=zL zi O false zB.jS T S:=rfl
  have d1:¬ (pre.length:Int) < (l.length:Int):=by rw [hpre];simp
  conv at hr =>
   rhs
   rw [hTe]
   simp only [zB.jS,zB.code,zB.rs,zSs,reduceIte,zk,zn,zo,zq,d1]
  refine ⟨_,_,_,hL.symm.trans (wI hr (by simp)),Ext.refl _,?_⟩
  rw [if_neg (by simp)]
  exact ⟨rfl,rfl,rfl,rfl,rfl,rfl,rfl,rfl⟩
 | cons u suf ih =>
  intro pre T S r hL hT h6 h27 h28 h29 hpre hg hq
  have hTe:=zB.eta hT
  rw [h6,h27,h28,h29] at hTe
  have hr:zL zi O false zB.jS T S=zL zi O false zB.jS T S:=rfl
  have d1:(pre.length:Int) < (l.length:Int):=by rw [hpre];simp;omega
  have e1:=fun S=>Qy (S:=S) hk hpre
  have wi:IntKind.i64.wrap ((pre.length:Int)+1)=((pre++[u]).length:Int):=by rw [wrap_i64 (by omega) (by omega)];simp
  obtain ⟨S2,p1,p2,p3,p4⟩:=XF S u
  have g2:S2.get q=some (.cells (fT t) (.own []) 0):=(p3.get q hq).trans hg
  by_cases ht:u.id=t.id
  ·
   conv at hr =>
    rhs
    rw [hTe]
    simp only [zB.jS,zB.code,zB.rs,zSs,reduceIte,zk,zn,zo,zq,d1,e1,xw,JY,p1,kZ,KO p2,KO g2,decide_eq_true ht]
   refine ⟨_,_,_,hL.symm.trans (wI hr (by simp)),p3,?_⟩
   rw [if_pos (by simp [ht])]
   exact ⟨rfl,rfl,rfl⟩
  ·
   conv at hr =>
    rhs
    rw [hTe]
    simp only [zB.jS,zB.code,zB.rs,zSs,reduceIte,zk,zn,zo,zq,d1,e1,xw,JY,p1,kZ,KO p2,KO g2,decide_eq_false ht,wi]
   obtain ⟨e,T',S',i1,i2,i3⟩:=ih (pre++[u]) ((yH hr).symm.trans hL) rfl rfl rfl rfl rfl (by simp [hpre]) g2 (by omega)
   refine ⟨e,T',S',i1,p3.trans i2,?_⟩
   have hm:t.id ∈ (u::suf).map TxV.id ↔ t.id ∈ suf.map TxV.id:=by
    simp only [List.map_cons,List.mem_cons]
    exact ⟨fun h=>h.resolve_left (fun e=>ht e.symm),.inr⟩
   by_cases hc:t.id ∈ suf.map TxV.id
   ·
    rw [if_pos hc] at i3
    rw [if_pos (hm.mpr hc)]
    exact i3
   ·
    rw [if_neg hc] at i3
    rw [if_neg (fun h=>hc (hm.mp h))]
    obtain ⟨j1,j2,j3,j4,j5,j6,j7,j8⟩:=i3
    exact ⟨j1,j2,j3,j4,j5.trans h6.symm,j6,j7,j8⟩
theorem zB.round {k:Nat} {l:List TxV} (hk:Okl k l) (k2:k≠2) (hl:l.length≤3) {n:Int}:∀ (suf pre:List TxV) {T:List Value} {S:zx} {r:St},qR (zL zi O false zB.Za) T S=r→T.length=51 →
  T.getD 0 zh=tl k l→T.getD 4 zh=iz 2 (n::flat pre)→T.getD 15 zh=tl k l→T.getD 16 zh=.int .i64 l.length→T.getD 17 zh=.int .i64 pre.length→l=pre++suf→good pre →
  ∃ e T' S',r=some (e,T',S')∧((good l∧e=.exit 0∧T'.length=51∧T'.getD 4 zh=iz 2 (n::flat l))∨(¬ good l∧e=.ret∧T'.getD 2 zh=.slice none 0 0∧T'.getD 3 zh=.int .i64 61)):=by
 intro suf
 induction suf with
 | nil =>
  intro pre T S r hL hT h0 h4 h15 h16 h17 hpre hp
  have hTe:=zB.eta hT
  rw [h0,h4,h15,h16,h17] at hTe
  have hr:zL zi O false zB.Za T S=zL zi O false zB.Za T S:=rfl
  have d1:¬ (pre.length:Int) < (l.length:Int):=by rw [hpre];simp
  conv at hr =>
   rhs
   rw [hTe]
   simp only [zB.Za,zB.code,zB.rs,zSs,reduceIte,zk,zn,zo,zq,d1]
  refine ⟨_,_,_,hL.symm.trans (wI hr (by simp)),.inl ?_⟩
  rw [List.append_nil] at hpre
  rw [hpre]
  exact ⟨hp,rfl,rfl,rfl⟩
 | cons t suf ih =>
  intro pre T S r hL hT h0 h4 h15 h16 h17 hpre hp
  have hTe:=zB.eta hT
  rw [h0,h4,h15,h16,h17] at hTe
  have hr:zL zi O false zB.Za T S=zL zi O false zB.Za T S:=rfl
  have d1:(pre.length:Int) < (l.length:Int):=by rw [hpre];simp;omega
  have e1:=fun S=>Qy (S:=S) hk hpre
  have wi:IntKind.i64.wrap ((pre.length:Int)+1)=((pre++[t]).length:Int):=by rw [wrap_i64 (by omega) (by omega)];simp
  obtain ⟨S2,p1,p2,p3,p4⟩:=XF S t
  have c1:∀ S,jd zi O 48 [.agg [Value.int .i64 t.id,.int .i64 t.fee].toArray] S=some (.bool (qF t),S):=fun S=>jC.v t S
  by_cases ht:qF t=true
  ·
   have sl:∀ S,Z9 zi 44 (tl k l) none (some (.int .i64 pre.length)) S=some (tl k pre,S):=fun S=>by
    rw [ahq hk rfl rfl (by omega) (by omega) (by omega),if_neg k2,hpre]
    simp
   have hkp:Okl k pre:=⟨hk.le,fun h=>by have:=hk.nil h;rw [hpre] at this;simp at this⟩
   conv at hr =>
    rhs
    rw [hTe]
    simp only [zB.Za,zB.code,zB.rs,zSs,reduceIte,zk,zn,zo,zq,d1,e1,xw,JY,p1,Wu p2,c1,ht,if_neg k2,sl,Jq hkp]
   generalize hL2:qR (zL zi O false zB.jS) _ _=r2 at hr
   obtain ⟨e,T',S',rfl,g1,g⟩:=zB.inner (t:=t) hkp (by rw [hpre] at hl;simp at hl;omega) pre [] hL2 rfl rfl rfl rfl rfl rfl p2 p4
   by_cases hin:t.id ∈ pre.map TxV.id
   ·
    rw [if_pos hin] at g
    obtain ⟨rfl,g2,g3⟩:=g
    conv at hr =>
     rhs
     simp only [zSs,reduceIte,zk,zn,zo,zq]
    refine ⟨_,_,_,hL.symm.trans (wI hr (by simp)),.inr ⟨?_,rfl,g2,g3⟩⟩
    intro hgd
    have:=hgd.1
    rw [hpre] at this
    simp only [List.map_append,List.map_cons,List.nodup_append] at this
    exact this.2.2 _ hin _ (by simp) rfl
   ·
    rw [if_neg hin] at g
    obtain ⟨rfl,g2,f0,f4,f6,f15,f16,f17⟩:=g
    have hTe':=zB.eta g2
    rw [f0,f4,f6,f15,f16,f17] at hTe'
    simp only [List.getD_cons_succ,List.getD_cons_zero] at hTe'
    have g3:S'.get S.next=some (.cells (fT t) (.own []) 0):=(g1.get _ p4).trans p2
    have ap:∀ S,yB zi 24 24 (iz 2 (n::flat pre)) (iz 2 [t.id,t.fee]) S=some (iz 2 (n::flat (pre++[t])),S):=fun S=>by
     rw [Ky Okl.own (by decide) Okl.own (by simp [JL];omega),Yy];rfl
    conv at hr =>
     rhs
     rw [hTe']
     simp only [zB.code,zB.rs,zSs,reduceIte,zk,zn,zo,zq,kZ,Jf,KO g3,alb g3,Qj,acw,ap,wi]
    refine ih (pre++[t]) ((yH hr).symm.trans hL) rfl rfl rfl rfl rfl rfl (by simp [hpre]) ?_
    refine ⟨?_,fun x hx=>by rcases List.mem_append.1 hx with h | h;{ exact hp.2 x h };{ simp at h;rw [h];exact ht }⟩
    simp only [List.map_append,List.map_cons,List.map_nil,List.nodup_append]
    exact ⟨hp.1,by simp,fun a ha b hb=>by simp at hb;subst hb;exact fun h=>hin (h ▸ ha)⟩
  ·
   have ht':=ht
   rw [Bool.not_eq_true] at ht'
   conv at hr =>
    rhs
    rw [hTe]
    simp only [zB.Za,zB.code,zB.rs,zSs,reduceIte,zk,zn,zo,zq,d1,e1,xw,JY,p1,Wu p2,c1,ht']
   refine ⟨_,_,_,hL.symm.trans (wI hr (by simp)),.inr ⟨?_,rfl,rfl,rfl⟩⟩
   intro hgd
   exact ht (hgd.2 t (by rw [hpre];simp))
theorem zB.v {k:Nat} {l:List TxV} (hk:Okl k l) (k2:k≠2) (hl:l.length≤8796093022208) (S:zx):jd zi O zB.id [tl k l] S=some (ahJ l,S):=by
 obtain ⟨T,hTe⟩:∃ T,T=(tl k l::zh::zh::zh::zh::zh::zh::zh::zh::zh::zh::zh::zh::zh::zh::zh::zh::zh::zh::zh::zh::zh::zh::zh::zh::zh::zh::zh::zh::zh::zh::zh::zh::zh::zh::zh::zh::zh::zh::zh::zh::zh::zh::zh::zh::zh::zh::zh::zh::zh::zh::[]):=⟨_,rfl⟩
 have hr:zL zi O false zB.code T zx.empty=zL zi O false zB.code T zx.empty:=rfl
 have cl:jL 16 (tl k l)=true:=Jk hk.le fun _ _=>rfl
 unfold ahJ
 by_cases h3:l.length≤3
 ·
  have d3:¬ (3:Int) < (l.length:Int):=by omega
  conv at hr =>
   rhs
   rw [hTe]
   simp only [zB.code,zB.rs,zSs,reduceIte,zk,zn,zo,zq,if_neg k2,Jq hk,d3,WY,ahN]
  generalize hL:qR (zL zi O false zB.Za) _ _=r at hr
  obtain ⟨e,T',S',rfl,⟨g0,rfl,g2,g3⟩ | ⟨g0,rfl,g2,g3⟩⟩:=zB.round hk k2 h3 l [] hL rfl rfl rfl rfl rfl rfl rfl ⟨List.nodup_nil,fun t h=>by cases h⟩
  ·
   have hTe':=zB.eta g2
   rw [g3] at hTe'
   have few:=aag g0.2
   have c2:=fun S=>zJ.v (l:=(l.length:Int)::flat l) Okl.read (by decide) (by intro n hn;rcases List.mem_cons.1 hn with rfl | hn;{ omega };{ have:=few n hn;omega }) S
   have n2:=JR (k:=2) (l:=(l.length:Int)::flat l) (by simp [JL];omega) (by intro n hn;rcases List.mem_cons.1 hn with rfl | hn;{ omega };{ have:=few n hn;omega }) (by simp)
   conv at hr =>
    rhs
    rw [hTe']
    simp only [zB.code,zB.rs,zSs,reduceIte,zk,zn,zo,zq,c2,n2]
   rw [hTe] at hr
   rw [if_pos (xY.mpr ⟨g0,h3⟩)]
   exact zB.runs hr (.inr rfl) (by simp only [List.getD_cons_succ,List.getD_cons_zero,wG,wz,jQ,jT,wu]) rfl (all1 cl) (yV (all2 (qH (k:=2) (Nat.le_refl 2)) rfl))
  ·
   conv at hr =>
    rhs
    simp only [zSs,reduceIte,zk,zn,zo,zq]
   rw [hTe] at hr
   rw [if_neg (fun h=>g0 (xY.mp h).1)]
   have hrun:=zB.runs (S:=S) hr (.inr rfl) (by rw [g2];rfl) (by rw [g3];rfl) (all1 cl) (by rw [g2,g3];rfl)
   rw [g2,g3] at hrun
   exact hrun
 ·
  have d3:(3:Int) < (l.length:Int):=by omega
  conv at hr =>
   rhs
   rw [hTe]
   simp only [zB.code,zB.rs,zSs,reduceIte,zk,zn,zo,zq,if_neg k2,Jq hk,d3]
  rw [hTe] at hr
  rw [if_neg (fun h=>h3 (xY.mp h).2)]
  exact zB.runs hr (.inr rfl) rfl rfl (all1 cl) rfl
end Go.Proofs.Ytfjogganfjkckaa
namespace Go.Abs
variable {P:Program} {t:TypeId} {xs ys:Array Value} {d:Nat}
theorem Qh (P:Program):qZ P program=some P:=rfl
def FEq (P:Program) (d:Nat) (xs ys:Array Value):List Field→List Bool→Prop
 | [],[]=>True
 | f::fs,b::bs=>(f.name≠ "_"∧∃ v w,qZ P (part f.type xs f.offset)=some v∧qZ P (part f.type ys f.offset)=some w∧qZ P (Op.equalIn d f.type v w)=some b)∧FEq P d xs ys fs bs
 | _,_=>False
theorem afY {fs:List Field} (hu:P.underlying t=some (.struct fs.toArray)) (hs:P.stoodInHeld t=false) {bs:List Bool} (h:FEq P d xs ys fs bs):qZ P (Op.equalIn (d+1) t (.agg xs) (.agg ys))=some (bs.all id):=by
 rw [Op.equalIn]
 simp only [ku,Zn hu,Option.bind_some,Qh,hs,Bool.false_eq_true,if_false,List.forIn_toArray]
 clear hu hs
 induction fs generalizing bs with
 | nil =>
  cases bs with
  | nil=>rfl
  | cons b bs=>exact absurd h id
 | cons f fs ih =>
  cases bs with
  | nil=>exact absurd h id
  | cons b bs =>
   obtain ⟨⟨h1,v,w,h2,h3,h4⟩,h5⟩:=h
   rw [List.forIn_cons]
   simp only [ku,if_pos h1,h2,h3,h4,Option.bind_some]
   cases b with
   | true =>
    simp only [Bool.not_true,Bool.false_eq_true,if_false,yE,Option.bind_some,List.all_cons,id,Bool.true_and]
    exact ih h5
   | false =>
    simp only [Bool.not_false,if_true,yE,Option.bind_some,List.all_cons,id,Bool.false_and]
theorem aeg {fs:List Field} {S:zx} (hu:P.underlying t=some (.struct fs.toArray)) (hs:P.stoodInHeld t=false) (hg:P.eqGuardType P.depth t=false) {bs:List Bool} (h:FEq P 9999 xs ys fs bs)
  (gx:ground (.agg xs)=true) (gy:ground (.agg ys)=true):wH P .eql t (.agg xs) (.agg ys) S=some (.bool (bs.all id),S)∧wH P .neq t (.agg xs) (.agg ys) S=some (.bool (!bs.all id),S):=by
 rw [adi,adi]
 have e:qZ P (Op.equal t (.agg xs) (.agg ys))=some (bs.all id):=afY hu hs h
 have g:qZ P (eqGuard .eql t (.tmp 0) (.tmp 0) (.agg xs) (.agg ys))=some ():=by
  unfold eqGuard
  simp only [Bool.not_true,Bool.false_eq_true,if_false,ku,Qh,Option.bind_some,hg,Bool.not_false,if_true]
  rfl
 have g':qZ P (eqGuard .neq t (.tmp 0) (.tmp 0) (.agg xs) (.agg ys))=some ():=by
  unfold eqGuard
  simp only [Bool.not_true,Bool.false_eq_true,if_false,ku,Qh,Option.bind_some,hg,Bool.not_false,if_true]
  rfl
 have ha:[Value.agg xs,.agg ys].all ground=true:=by simp [gx,gy]
 constructor
 ·
  unfold J7 vM
  simp only [hu]
  show qN P [Value.agg xs,.agg ys] _ S=_
  refine yI ha ?_ rfl
  simp only [ku,g,Option.bind_some]
  unfold binOp
  simp only [ku,e,Option.bind_some,yE]
 ·
  unfold J7 vM
  simp only [hu]
  show qN P [Value.agg xs,.agg ys] _ S=_
  refine yI ha ?_ rfl
  simp only [ku,g',Option.bind_some]
  unfold binOp
  simp only [ku,e,Option.bind_some,yE]
end Go.Abs
