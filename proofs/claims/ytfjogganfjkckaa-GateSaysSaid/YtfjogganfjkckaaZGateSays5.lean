/-
The law GateSays returns true for every input, and leaves it as it was; no condition. Part 5 of 7 of the texts (put together by a program: own names are short, what isn't needed is left out).
-/
import Derived.Test.YtfjogganfjkckaaZGateSays4
import Derived.Test.YtfjogganfjkckaaChecked
import Derived.KernelRfl
set_option linter.unusedVariables false
set_option linter.unusedSimpArgs false
set_option maxRecDepth 100000
open Go renaming undef → zh
namespace Go.Proofs.Ytfjogganfjkckaa
open Go.Abs
theorem QW {n:Nat} (h:n < 256):(UInt8.ofNat n).toNat=n:=by rw [UInt8.toNat_ofNat'];omega
theorem abX:∀ (n i acc:Nat) (r:List UInt8),i≤9→(0 < i→0 < n)→n * 128 ^ i < 2 ^ 64→scan i acc (enc n++r)=some (acc+n * 128 ^ i,r):=by
 intro n
 induction n using Nat.strongRecOn with
 | _ n ih =>
  intro i acc r hi hn hlt
  have h9:i=9→n≤1:=by
   intro h;subst h
   have:(128:Nat) ^ 9=2 ^ 63:=by decide
   omega
  by_cases hs:n < 128
  ·
   rw [vT hs,List.singleton_append,scan,QW (by omega),if_neg (by rintro (⟨h1,h2⟩ | ⟨h1,h2⟩);exact absurd (h9 h1) (by omega);exact absurd (hn h1) (by omega)),if_pos hs]
  ·
   rw [Yc hs,List.cons_append,scan,QW (by omega)]
   have hi9:i≠9:=fun h=>by have:=h9 h;omega
   rw [if_neg (by rintro (⟨h1,h2⟩ | ⟨h1,h2⟩);exact hi9 h1;omega),if_neg (by omega)]
   have hmul:n / 128 * 128 ^ (i+1)≤n * 128 ^ i:=by
    rw [Nat.pow_succ,← Nat.mul_assoc,Nat.mul_right_comm]
    exact Nat.mul_le_mul_right _ (by omega)
   rw [ih (n / 128) (by omega) (i+1) _ r (by omega) (fun _=>by omega) (Nat.lt_of_le_of_lt hmul hlt)]
   congr 2
   have:n=n % 128+n / 128 * 128:=by omega
   have e1:(n % 128+128 - 128) * 128 ^ i+n / 128 * 128 ^ (i+1)=n * 128 ^ i:=by
    rw [Nat.pow_succ]
    conv=>rhs;rw [this,Nat.add_mul]
    rw [Nat.add_sub_cancel,Nat.mul_comm (128 ^ i) 128,← Nat.mul_assoc]
   omega
theorem Yv {n:Nat} (h:n < 2 ^ 64) (r:List UInt8):scan 0 0 (enc n++r)=some (n,r):=by
 rw [abX n 0 0 r (by omega) (by omega) (by simpa using h)];simp
theorem aax:∀ (l:List UInt8) (i acc m:Nat) (r:List UInt8),scan i acc l=some (m,r)→∃ n,l=enc n++r∧m=acc+n * 128 ^ i∧(0 < i→0 < n):=by
 intro l
 induction l with
 | nil=>intro i acc m r h;cases h
 | cons x l ih =>
  intro i acc m r h
  rw [scan] at h
  have hx:=x.toNat_lt
  split at h
  ·
   cases h
  ·
   rename_i hs
   split at h
   ·
    rename_i hx2
    cases h
    refine ⟨x.toNat,?_,rfl,fun hi=>by omega⟩
    rw [vT hx2];simp
   ·
    rename_i hx2
    obtain ⟨n,h1,h2,h3⟩:=ih _ _ _ _ h
    refine ⟨x.toNat - 128+n * 128,?_,?_,fun _=>?_⟩
    ·
     have hn:=h3 (by omega)
     rw [Yc (by omega),show (x.toNat - 128+n * 128) / 128=n by omega,show (x.toNat - 128+n * 128) % 128+128=x.toNat by omega,h1]
     simp
    ·
     rw [h2,Nat.pow_succ,Nat.add_mul]
     rw [Nat.mul_comm (128 ^ i) 128,← Nat.mul_assoc];omega
    ·
     have:=h3 (by omega);omega
theorem aaJ {l r:List UInt8} {m:Nat} (h:scan 0 0 l=some (m,r)):l=enc m++r∧m < 2 ^ 64:=by
 obtain ⟨n,h1,h2,_⟩:=aax l 0 0 m r h
 have:m=n:=by simpa using h2
 subst this
 exact ⟨h1,(QV l 0 0 (by decide) (by omega) m r h).1⟩
theorem ajb {a b:Nat} (ha:a < 2 ^ 64) (hb:b < 2 ^ 64) {r s:List UInt8} (h:enc a++r=enc b++s):a=b∧r=s:=by
 have h1:=Yv ha r
 rw [h,Yv hb s] at h1
 simp only [Option.some.injEq,Prod.mk.injEq] at h1
 exact ⟨h1.1.symm,h1.2.symm⟩
end Go.Proofs.Ytfjogganfjkckaa
namespace Go.Abs
open Go.RowKit
theorem ah2 {b:Nat} {e:Ty} {α:Type} (f:α→List Value) (Q:α→Prop) (h:∀ x,e.Good x→∃ y,e.WO x=f y∧Q y) (hf:∀ y,(f y).length=e.sz) (x:(Ty.slc b e).Val) (hg:(Ty.slc b e).Good x) :
  ∃ k l,Okl k l∧k≠2∧(Ty.slc b e).WO x=[vs f e.sz k l]∧l.length * b≤140737488351232∧∀ y ∈ l,Q y:=by
 match x,hg with
 | none,_=>exact ⟨0,[],Okl.none,by decide,rfl,by simp,fun y hy=>by cases hy⟩
 | some xs,hg =>
  obtain ⟨h1,h2,h3⟩:=hg
  have key:∀ xs:List e.Val,(∀ n ∈ xs,e.Good n)→∃ l:List α,xs.flatMap e.WO=l.flatMap f∧l.length=xs.length∧∀ y ∈ l,Q y:=by
   intro xs
   induction xs with
   | nil=>intro _;exact ⟨[],rfl,rfl,fun y hy=>by cases hy⟩
   | cons n xs ih =>
    intro hn
    obtain ⟨y,hy,hq⟩:=h n (hn n (by simp))
    obtain ⟨l,k1,k2,k3⟩:=ih (fun m hm=>hn m (by simp [hm]))
    refine ⟨y::l,by rw [List.flatMap_cons,List.flatMap_cons,hy,k1],by simp [k2],fun z hz=>?_⟩
    rcases List.mem_cons.1 hz with rfl | hz
    ·
     exact hq
    ·
     exact k3 z hz
  obtain ⟨l,k1,k2,k3⟩:=key xs h3
  refine ⟨1,l,Okl.read,by decide,?_,by rw [k2];exact h1,k3⟩
  show [SL 1 e.sz (List.length xs) (List.flatMap e.WO xs)]=[_]
  unfold vs
  rw [sv1,k1,k2]
theorem adZ {cs xs:List Value} (h:cs.length=xs.length):splice cs 0 xs=xs:=by
 unfold splice
 rw [List.take_zero,List.nil_append,Nat.zero_add,← h,List.drop_length,List.append_nil]
theorem ajU {k e n:Nat} {cs:List Value}:(sv k e n cs).oneCell'=true:=by unfold sv;split <;> rfl
theorem ahV {α:Type} {f:α→List Value} {e k:Nat} {l:List α}:(vs f e k l).oneCell'=true:=ajU
theorem ae3 {k:IntKind} {n:Int}:(Value.int k n).oneCell'=true:=rfl
theorem Kv {P:Program} {t:TypeId} {z xs:List Value} {x:Value} (S:zn) (hx:x.cells.toList=xs) (hs:ZV P t=some z.length) (hl:xs.length=z.length) (h1:xs.all (·.oneCell')=true) :
  ∃ S2,wM P t (.pointer (some ⟨S.next,0,none⟩)) x (S.push (.cells z (.own []) 0))=some (zh,S2)∧S2.get S.next=some (.cells xs (.own []) 0)∧Ext S S2∧S.next < S2.next:=by
 have hg:(S.push (.cells z (.own []) 0)).get S.next=some (.cells z (.own []) 0):=by rw [zn.yJ,if_pos rfl]
 refine ⟨_,Za hg hs (by rw [← Array.length_toList,hx,hl]) (by rw [hx];exact h1) (by simp),?_,(Ext.push S _).set (Nat.le_refl _) _,by simp [zn.kills]⟩
 rw [zn.qo,if_pos rfl,hx,adZ hl.symm]
theorem aaH {P:Program} {t:TypeId} {q o n:Nat} {cs:List Value} {e:Nat} {x:Value} {S S0:zn} (hg:S.get q=some (.cells cs (.own []) e)) (hs:ZV P t=some n) (hn:x.cells.size=n) (h1:x.cells.toList.all (·.oneCell')=true) (hle:o+n≤cs.length) (hE:Ext S0 S) (hq:S0.next≤q) :
  ∃ S2,wM P t (.pointer (some ⟨q,o,none⟩)) x S=some (zh,S2)∧S2.get q=some (.cells (splice cs o x.cells.toList) (.own []) e)∧Ext S0 S2∧S2.next=S.next∧∀ k,k≠q→S2.get k=S.get k:=by
 exact ⟨_,Za hg hs hn h1 hle,by rw [zn.qo,if_pos rfl],hE.set hq _,by simp [zn.kills],fun k hk=>by rw [zn.qo,if_neg hk];rfl⟩
theorem aiw (x:Value) (S:zn):∃ S2,JJ x S=some (.pointer (some ⟨S.next,0,none⟩),S2)∧S2.get S.next=some (.cells x.cells.toList (.own []) 0)∧Ext S S2∧S.next < S2.next :=
 ⟨_,rfl,by rw [zn.yJ,if_pos rfl],Ext.push _ _,by simp⟩
end Go.Abs
namespace Go.Proofs.Ytfjogganfjkckaa
open Go.Abs
theorem bb0 (S:zn):jH Try.prog 33 0 [] S=some (by_ 2 [],S):=by rw [vM];rfl
structure Tb where
 k:Nat
 b:List UInt8
structure Tb.Ok (t:Tb):Prop where
 okl:Okl t.k t.b
 ne:t.k≠2
 le:t.b.length≤140737488351232
def fB (t:Tb):List Value:=[by_ t.k t.b]
theorem acH (t:Tb):(fB t).length=1:=rfl
theorem akI (x:(Ty.slc 1 (.int .u8)).Val) (hg:(Ty.slc 1 (.int .u8)).Good x):∃ t:Tb,(Ty.slc 1 (.int .u8)).WO x=fB t∧t.Ok:=by
 obtain ⟨k,l,h1,h2,h3,h4⟩:=agY x hg
 exact ⟨⟨k,l⟩,h3,h1,h2,h4⟩
theorem akg (x:(Ty.slc 24 (.slc 1 (.int .u8))).Val) (hg:(Ty.slc 24 (.slc 1 (.int .u8))).Good x):∃ k l,Okl k l∧k≠2∧(Ty.slc 24 (.slc 1 (.int .u8))).WO x=[vs fB 1 k l]∧l.length * 24≤140737488351232∧∀ t ∈ l,t.Ok :=
 ah2 (b:=24) fB Tb.Ok akI acH x hg
end Go.Proofs.Ytfjogganfjkckaa
namespace Go.Proofs.Ytfjogganfjkckaa
open Go.Abs
def encs (l:List Int):List UInt8:=l.flatMap fun n=>enc (n+1).toNat
def ady (k:Nat) (l:List Int):Value:=if 64 < l.length∨∃ n ∈ l,n < -1 then .tuple #[.slice none 0 0,.int .i64 11] else .tuple #[by_ (if l=[] then k else 2) (encs l),.int .i64 0]
theorem X8 {n:Int} (h:-1≤n) (h2:n < 9223372036854775808):IntKind.u64.wrap (IntKind.u64.wrap n+1)=((n+1).toNat:Int):=by
 simp [IntKind.wrap,IntKind.bits,IntKind.signed]
 omega
theorem Zl (a b:List Int):encs (a++b)=encs a++encs b:=by simp [encs]
theorem acz (n:Int):encs [n]=enc (n+1).toNat:=by simp [encs]
theorem Z7 {l:List Int} (h:∀ n ∈ l,n < 9223372036854775808):(encs l).length≤l.length * 10:=by
 induction l with
 | nil=>simp [encs]
 | cons n l ih =>
  have h1:=ih fun m hm=>h m (by simp [hm])
  have h2:(enc (n+1).toNat).length≤10:=Ju (by have:=h n (by simp);omega)
  simp only [encs,List.flatMap_cons,List.length_append,List.length_cons] at *
  omega
theorem jB.round {k:Nat} {l:List Int} (hv:Okl k l) (hk:k≠2) (h64:l.length≤64) (hb:∀ n ∈ l,n < 9223372036854775808) {S:zn}:∀ (suf pre:List Int) {T:List Value} {r:St},qw (zG Try.prog O false jB.jL) T S=r→T.length=26 →
  T.getD 10 zh=iz k l→T.getD 11 zh=.int .i64 l.length→T.getD 12 zh=.int .i64 pre.length→T.getD 4 zh=by_ (if pre=[] then 0 else 2) (encs pre)→l=pre++suf →
  ∃ e T',r=some (e,T',S)∧if (∃ n ∈ suf,n < -1) then e=.ret∧T'.getD 2 zh=.slice none 0 0∧T'.getD 3 zh=.int .i64 11 else e=.exit 0∧T'.length=26∧T'.getD 4 zh=by_ (if l=[] then 0 else 2) (encs l):=by
 intro suf
 induction suf with
 | nil =>
  intro pre T r hL hT ha hb hc h4 hl
  have hTe:=jB.eta hT
  rw [ha,hb,hc,h4] at hTe
  have hr:zG Try.prog O false jB.jL T S=zG Try.prog O false jB.jL T S:=rfl
  have hd:¬ (pre.length:Int) < (l.length:Int):=by rw [hl];simp
  conv at hr =>
   rhs
   rw [hTe]
   simp only [jB.jL,jB.code,jB.rs,zSs,reduceIte,Nat.reduceEqDiff,Int.reduceEq,Int.reduceLT,Int.reduceLE,hd]
  refine ⟨_,_,hL.symm.trans (jZ hr (by simp)),?_⟩
  rw [if_neg (by simp)]
  simp only [List.append_nil] at hl
  subst hl
  exact ⟨rfl,rfl,rfl⟩
 | cons n suf ih =>
  intro pre T r hL hT ha hbb hc h4 hl
  have hTe:=jB.eta hT
  rw [ha,hbb,hc,h4] at hTe
  have hr:zG Try.prog O false jB.jL T S=zG Try.prog O false jB.jL T S:=rfl
  have hll:l.length=pre.length+(suf.length+1):=by rw [hl];simp
  have hlt:(pre.length:Int) < (l.length:Int):=by omega
  have e1:∀ S,jo Try.prog 24 (iz k l) (.int .i64 pre.length) S=some (EP [.int .i64 n],S):=fun S=>by
   rw [abD hv (by omega) hlt];rw [QL hl]
  have hn:=hb n (by rw [hl];simp)
  by_cases h1:n < -1
  ·
   conv at hr =>
    rhs
    rw [hTe]
    simp only [jB.jL,jB.code,jB.rs,zSs,reduceIte,Nat.reduceEqDiff,Int.reduceEq,Int.reduceLT,Int.reduceLE,hlt,e1,ql,h1]
   refine ⟨_,_,hL.symm.trans (jZ hr (by simp)),?_⟩
   rw [if_pos ⟨n,by simp,h1⟩]
   exact ⟨rfl,rfl,rfl⟩
  ·
   have w1:=X8 (n:=n) (by omega) (by omega)
   have hpb:(encs pre).length≤pre.length * 10:=Z7 fun m hm=>hb m (by rw [hl];simp [hm])
   have hp10:(enc (n+1).toNat).length≤10:=Ju (by omega)
   have hpp:=afg (n+1).toNat
   have g1:=fun S=>yc.v (n+1).toNat (by omega) S
   have e2:∀ S,wP Try.prog 33 33 (by_ (if pre=[] then 0 else 2) (encs pre)) (by_ 2 (enc (n+1).toNat)) S=some (by_ 2 (encs (pre++[n])),S):=fun S=>by
    have ok:Okl (if pre=[] then 0 else 2) (encs pre):=⟨by split <;> omega,fun h=>by split at h <;> first | (rename_i hp;subst hp;rfl) | omega⟩
    rw [kX ok (by split <;> omega) Okl.own (by omega),if_neg (fun h=>by have:=h.2;omega),Zl,acz]
   have wi:IntKind.i64.wrap ((pre.length:Int)+1)=((pre++[n]).length:Int):=by rw [wrap_i64 (by omega) (by omega)];simp
   conv at hr =>
    rhs
    rw [hTe]
    simp only [jB.jL,jB.code,jB.rs,zSs,reduceIte,Nat.reduceEqDiff,Int.reduceEq,Int.reduceLT,Int.reduceLE,hlt,e1,ql,h1,Jy,w1,g1,e2,wi]
   obtain ⟨e,T',g1,g2⟩:=ih (pre++[n]) ((wY hr).symm.trans hL) rfl rfl rfl rfl (by rw [if_neg (show ¬ pre++[n]=[] by simp)];rfl) (by simp [hl])
   refine ⟨e,T',g1,?_⟩
   by_cases h2:∃ m ∈ suf,m < -1
   ·
    rw [if_pos h2] at g2
    obtain ⟨m,hm,hm2⟩:=h2
    rw [if_pos ⟨m,by simp [hm],hm2⟩]
    exact g2
   ·
    rw [if_neg h2] at g2
    rw [if_neg (by rintro ⟨m,hm,hm2⟩;rcases List.mem_cons.1 hm with rfl | hm;exact h1 hm2;exact h2 ⟨m,hm,hm2⟩)]
    exact g2
theorem jB.v {k:Nat} {l:List Int} (hv:Okl k l) (hk:k≠2) (hb:∀ n ∈ l,n < 9223372036854775808) (S:zn):zW Try.prog O jB.id [iz k l] S=some (ady 0 l,S):=by
 obtain ⟨T,hTe⟩:∃ T,T=(iz k l::zh::zh::zh::zh::zh::zh::zh::zh::zh::zh::zh::zh::zh::zh::zh::zh::zh::zh::zh::zh::zh::zh::zh::zh::zh::[]):=⟨_,rfl⟩
 have hr:zG Try.prog O false jB.code T S=zG Try.prog O false jB.code T S:=rfl
 unfold ady
 by_cases h1:64 < l.length
 ·
  have d1:(64:Int) < (l.length:Int):=by omega
  conv at hr =>
   rhs
   rw [hTe]
   simp only [jB.code,jB.rs,zSs,reduceIte,Nat.reduceEqDiff,Int.reduceEq,Int.reduceLT,Int.reduceLE,if_neg hk,XL hv,goInt,d1]
  rw [hTe] at hr
  rw [if_pos (.inl h1)]
  exact jB.runs hr (.inr rfl) (by simp only [List.getD_cons_succ,List.getD_cons_zero,wC,jW,jK,jO,jX]) (by simp only [List.getD_cons_succ,List.getD_cons_zero,wC,jW,jK,jO,jX])
 ·
  have d1:¬ (64:Int) < (l.length:Int):=by omega
  conv at hr =>
   rhs
   rw [hTe]
   simp only [jB.code,jB.rs,zSs,reduceIte,Nat.reduceEqDiff,Int.reduceEq,Int.reduceLT,Int.reduceLE,if_neg hk,XL hv,goInt,d1,vM,afI]
  generalize hL:qw (zG Try.prog O false jB.jL) _ _=r at hr
  obtain ⟨e,T',rfl,g⟩:=jB.round hv hk (by omega) hb l [] hL rfl rfl rfl rfl rfl rfl
  by_cases h2:∃ n ∈ l,n < -1
  ·
   rw [if_pos h2] at g
   obtain ⟨rfl,g2,g3⟩:=g
   conv at hr =>
    rhs
    simp only [zSs,reduceIte,Nat.reduceEqDiff,Int.reduceEq,Int.reduceLT,Int.reduceLE]
   rw [hTe] at hr
   rw [if_pos (.inr h2)]
   have hrun:=jB.runs hr (.inr rfl) (by rw [g2];rfl) (by rw [g3];rfl)
   rw [g2,g3] at hrun
   exact hrun
  ·
   rw [if_neg h2] at g
   obtain ⟨rfl,g2,g3⟩:=g
   have hTe':=jB.eta g2
   rw [g3] at hTe'
   conv at hr =>
    rhs
    rw [hTe']
    simp only [jB.code,jB.rs,zSs,reduceIte,Nat.reduceEqDiff,Int.reduceEq,Int.reduceLT,Int.reduceLE]
   rw [hTe] at hr
   rw [if_neg (by rintro (h | h);exact h1 h;exact h2 h)]
   exact jB.runs hr (.inr rfl) (by simp only [List.getD_cons_succ,List.getD_cons_zero,wC,jW,jK,jO,jX]) (by simp only [List.getD_cons_succ,List.getD_cons_zero,wC,jW,jK,jO,jX])
theorem zD.round {k:Nat} {l:List Int} (hv:Okl k l) (hk:k≠2) (h64:l.length≤64) (hb:∀ n ∈ l,n < 9223372036854775808) {S:zn}:∀ (suf pre:List Int) {T:List Value} {r:St},qw (zG Try.prog O false zD.jL) T S=r→T.length=27 →
  T.getD 11 zh=iz k l→T.getD 12 zh=.int .i64 l.length→T.getD 13 zh=.int .i64 pre.length→T.getD 4 zh=by_ (if pre=[] then 2 else 2) (encs pre)→l=pre++suf →
  ∃ e T',r=some (e,T',S)∧if (∃ n ∈ suf,n < -1) then e=.ret∧T'.getD 2 zh=.slice none 0 0∧T'.getD 3 zh=.int .i64 11 else e=.exit 0∧T'.length=27∧T'.getD 4 zh=by_ (if l=[] then 2 else 2) (encs l):=by
 intro suf
 induction suf with
 | nil =>
  intro pre T r hL hT ha hb hc h4 hl
  have hTe:=zD.eta hT
  rw [ha,hb,hc,h4] at hTe
  have hr:zG Try.prog O false zD.jL T S=zG Try.prog O false zD.jL T S:=rfl
  have hd:¬ (pre.length:Int) < (l.length:Int):=by rw [hl];simp
  conv at hr =>
   rhs
   rw [hTe]
   simp only [zD.jL,zD.code,zD.rs,zSs,reduceIte,Nat.reduceEqDiff,Int.reduceEq,Int.reduceLT,Int.reduceLE,hd]
  refine ⟨_,_,hL.symm.trans (jZ hr (by simp)),?_⟩
  rw [if_neg (by simp)]
  simp only [List.append_nil] at hl
  subst hl
  exact ⟨rfl,rfl,rfl⟩
 | cons n suf ih =>
  intro pre T r hL hT ha hbb hc h4 hl
  have hTe:=zD.eta hT
  rw [ha,hbb,hc,h4] at hTe
  have hr:zG Try.prog O false zD.jL T S=zG Try.prog O false zD.jL T S:=rfl
  have hll:l.length=pre.length+(suf.length+1):=by rw [hl];simp
  have hlt:(pre.length:Int) < (l.length:Int):=by omega
  have e1:∀ S,jo Try.prog 24 (iz k l) (.int .i64 pre.length) S=some (EP [.int .i64 n],S):=fun S=>by
   rw [abD hv (by omega) hlt];rw [QL hl]
  have hn:=hb n (by rw [hl];simp)
  by_cases h1:n < -1
  ·
   conv at hr =>
    rhs
    rw [hTe]
    simp only [zD.jL,zD.code,zD.rs,zSs,reduceIte,Nat.reduceEqDiff,Int.reduceEq,Int.reduceLT,Int.reduceLE,hlt,e1,ql,h1]
   refine ⟨_,_,hL.symm.trans (jZ hr (by simp)),?_⟩
   rw [if_pos ⟨n,by simp,h1⟩]
   exact ⟨rfl,rfl,rfl⟩
  ·
   have w1:=X8 (n:=n) (by omega) (by omega)
   have hpb:(encs pre).length≤pre.length * 10:=Z7 fun m hm=>hb m (by rw [hl];simp [hm])
   have hp10:(enc (n+1).toNat).length≤10:=Ju (by omega)
   have hpp:=afg (n+1).toNat
   have g1:=fun S=>jl.v (n+1).toNat (by omega) S
   have e2:∀ S,wP Try.prog 33 33 (by_ (if pre=[] then 2 else 2) (encs pre)) (by_ 2 (enc (n+1).toNat)) S=some (by_ 2 (encs (pre++[n])),S):=fun S=>by
    have ok:Okl (if pre=[] then 2 else 2) (encs pre):=⟨by split <;> omega,fun h=>by split at h <;> first | (rename_i hp;subst hp;rfl) | omega⟩
    rw [kX ok (by split <;> omega) Okl.own (by omega),if_neg (fun h=>by have:=h.2;omega),Zl,acz]
   have wi:IntKind.i64.wrap ((pre.length:Int)+1)=((pre++[n]).length:Int):=by rw [wrap_i64 (by omega) (by omega)];simp
   conv at hr =>
    rhs
    rw [hTe]
    simp only [zD.jL,zD.code,zD.rs,zSs,reduceIte,Nat.reduceEqDiff,Int.reduceEq,Int.reduceLT,Int.reduceLE,hlt,e1,ql,h1,Jy,w1,g1,e2,wi]
   obtain ⟨e,T',g1,g2⟩:=ih (pre++[n]) ((wY hr).symm.trans hL) rfl rfl rfl rfl (by rw [if_neg (show ¬ pre++[n]=[] by simp)];rfl) (by simp [hl])
   refine ⟨e,T',g1,?_⟩
   by_cases h2:∃ m ∈ suf,m < -1
   ·
    rw [if_pos h2] at g2
    obtain ⟨m,hm,hm2⟩:=h2
    rw [if_pos ⟨m,by simp [hm],hm2⟩]
    exact g2
   ·
    rw [if_neg h2] at g2
    rw [if_neg (by rintro ⟨m,hm,hm2⟩;rcases List.mem_cons.1 hm with rfl | hm;exact h1 hm2;exact h2 ⟨m,hm,hm2⟩)]
    exact g2
theorem zD.v {k:Nat} {l:List Int} (hv:Okl k l) (hk:k≠2) (hb:∀ n ∈ l,n < 9223372036854775808) (S:zn):zW Try.prog O zD.id [iz k l] S=some (ady 2 l,S):=by
 obtain ⟨T,hTe⟩:∃ T,T=(iz k l::zh::zh::zh::zh::zh::zh::zh::zh::zh::zh::zh::zh::zh::zh::zh::zh::zh::zh::zh::zh::zh::zh::zh::zh::zh::zh::[]):=⟨_,rfl⟩
 have hr:zG Try.prog O false zD.code T S=zG Try.prog O false zD.code T S:=rfl
 unfold ady
 by_cases h1:64 < l.length
 ·
  have d1:(64:Int) < (l.length:Int):=by omega
  conv at hr =>
   rhs
   rw [hTe]
   simp only [zD.code,zD.rs,zSs,reduceIte,Nat.reduceEqDiff,Int.reduceEq,Int.reduceLT,Int.reduceLE,if_neg hk,XL hv,goInt,d1]
  rw [hTe] at hr
  rw [if_pos (.inl h1)]
  exact zD.runs hr (.inr rfl) (by simp only [List.getD_cons_succ,List.getD_cons_zero,wC,jW,jK,jO,jX]) (by simp only [List.getD_cons_succ,List.getD_cons_zero,wC,jW,jK,jO,jX])
 ·
  have d1:¬ (64:Int) < (l.length:Int):=by omega
  conv at hr =>
   rhs
   rw [hTe]
   simp only [zD.code,zD.rs,zSs,reduceIte,Nat.reduceEqDiff,Int.reduceEq,Int.reduceLT,Int.reduceLE,if_neg hk,XL hv,goInt,d1,vM,afI]
  generalize hL:qw (zG Try.prog O false zD.jL) _ _=r at hr
  obtain ⟨e,T',rfl,g⟩:=zD.round hv hk (by omega) hb l [] hL rfl rfl rfl rfl rfl rfl
  by_cases h2:∃ n ∈ l,n < -1
  ·
   rw [if_pos h2] at g
   obtain ⟨rfl,g2,g3⟩:=g
   conv at hr =>
    rhs
    simp only [zSs,reduceIte,Nat.reduceEqDiff,Int.reduceEq,Int.reduceLT,Int.reduceLE]
   rw [hTe] at hr
   rw [if_pos (.inr h2)]
   have hrun:=zD.runs hr (.inr rfl) (by rw [g2];rfl) (by rw [g3];rfl)
   rw [g2,g3] at hrun
   exact hrun
  ·
   rw [if_neg h2] at g
   obtain ⟨rfl,g2,g3⟩:=g
   have hTe':=zD.eta g2
   rw [g3] at hTe'
   conv at hr =>
    rhs
    rw [hTe']
    simp only [zD.code,zD.rs,zSs,reduceIte,Nat.reduceEqDiff,Int.reduceEq,Int.reduceLT,Int.reduceLE]
   rw [hTe] at hr
   rw [if_neg (by rintro (h | h);exact h1 h;exact h2 h)]
   exact zD.runs hr (.inr rfl) (by simp only [List.getD_cons_succ,List.getD_cons_zero,wC,jW,jK,jO,jX]) (by simp only [List.getD_cons_succ,List.getD_cons_zero,wC,jW,jK,jO,jX])
end Go.Proofs.Ytfjogganfjkckaa
namespace Go.Proofs.Ytfjogganfjkckaa
open Go.Abs
def y8:Nat→List UInt8→Option (List Int×List UInt8)
 | 0,l=>some ([],l)
 | m+1,l=>match scan 0 0 l with
  | some (n,r)=>if n≤4611686018427387905 then (match y8 m r with
   | some (a,b)=>some (((n:Int) - 1)::a,b)
   | none=>none) else none
  | none=>none
def vO (k0 k1:Nat) (many:Int) (l:List UInt8):Value :=
 if many < 0∨64 < many then .tuple #[.slice none 0 0,.slice none 0 0,.int .i64 11]
 else match y8 many.toNat l with
  | some (a,b)=>.tuple #[iz (if many=0 then k0 else 2) a,by_ (if many=0 then k1 else 2) b,.int .i64 0]
  | none=>.tuple #[.slice none 0 0,.slice none 0 0,.int .i64 11]
theorem zL.round {many:Int} (hmany:many≤64) {S:zn}:∀ (m:Nat) (i:Int) (rest:List UInt8) (kr:Nat) (out:List Int) (ko:Nat) {T:List Value} {r:St},qw (zG Try.prog O false zL.jL) T S=r→T.length=45 →
  T.getD 20 zh=.int .i64 many→T.getD 21 zh=.int .i64 i→T.getD 7 zh=by_ kr rest→T.getD 8 zh=iz ko out→0≤i→many=i+m→Okl kr rest→rest.length≤140737488355328→Okl ko out→ko≠1→(out.length:Int)=i →
  ∃ e T',r=some (e,T',S)∧match y8 m rest with
   | none=>e=.ret∧T'.getD 4 zh=.slice none 0 0∧T'.getD 5 zh=.slice none 0 0∧T'.getD 6 zh=.int .i64 11
   | some (a,b)=>e=.exit 0∧T'.length=45∧T'.getD 8 zh=iz (if m=0 then ko else 2) (out++a)∧T'.getD 7 zh=by_ (if m=0 then kr else 2) b:=by
 intro m
 induction m with
 | zero =>
  intro i rest kr out ko T r hL hT h1 h2 h3 h4 h0 hm hkr hlen hko hk1 hol
  have hTe:=zL.eta hT
  rw [h1,h2,h3,h4] at hTe
  have hr:zG Try.prog O false zL.jL T S=zG Try.prog O false zL.jL T S:=rfl
  have hd:¬ i < many:=by omega
  conv at hr =>
   rhs
   rw [hTe]
   simp only [zL.jL,zL.code,zL.rs,zSs,reduceIte,Nat.reduceEqDiff,Int.reduceEq,Int.reduceLT,Int.reduceLE,hd]
  exact ⟨_,_,hL.symm.trans (jZ hr (by simp)),rfl,rfl,by simp,rfl⟩
 | succ m ih =>
  intro i rest kr out ko T r hL hT h1 h2 h3 h4 h0 hm hkr hlen hko hk1 hol
  have hTe:=zL.eta hT
  rw [h1,h2,h3,h4] at hTe
  have hr:zG Try.prog O false zL.jL T S=zG Try.prog O false zL.jL T S:=rfl
  have hd:i < many:=by omega
  have g1:∀ S,zW Try.prog O jr.id [by_ (if kr=2 then 1 else kr) rest] S=some (Xk rest,S):=jr.v hkr.dem (by split <;> omega) hlen
  unfold Xk at g1
  rw [y8]
  cases hsc:scan 0 0 rest with
  | none =>
   rw [hsc] at g1
   have d11:¬ (11:Int)=0:=by omega
   conv at hr =>
    rhs
    rw [hTe]
    simp only [zL.jL,zL.code,zL.rs,zSs,reduceIte,Nat.reduceEqDiff,Int.reduceEq,Int.reduceLT,Int.reduceLE,ac3,hd,g1,d11]
   exact ⟨_,_,hL.symm.trans (jZ hr (by simp)),rfl,rfl,rfl,rfl⟩
  | some nr =>
   obtain ⟨n,r'⟩:=nr
   rw [hsc] at g1
   obtain ⟨hn,hrl⟩:=QV rest 0 0 (by decide) (by omega) n r' hsc
   dsimp only
   by_cases h5:n≤4611686018427387905
   ·
    have d1:¬ (4611686018427387905:Int) < (n:Int):=by omega
    have w1:IntKind.i64.wrap (n:Int)=(n:Int):=wrap_i64 (by omega) (by omega)
    have w2:IntKind.i64.wrap ((n:Int) - 1)=(n:Int) - 1:=wrap_i64 (by omega) (by omega)
    have w3:IntKind.i64.wrap (i+1)=i+1:=wrap_i64 (by omega) (by omega)
    have e1:∀ x S,wP Try.prog 24 24 (iz ko out) (iz 2 [x]) S=some (iz 2 (out++[x]),S):=fun x S=>af4 hko hk1 (by omega)
    conv at hr =>
     rhs
     rw [hTe]
     simp only [zL.jL,zL.code,zL.rs,zSs,reduceIte,Nat.reduceEqDiff,Int.reduceEq,Int.reduceLT,Int.reduceLE,ac3,hd,g1,d1,Yq,w1,w2,w3,Wn,ahg,e1]
    obtain ⟨e,T',g2,g3⟩:=ih (i+1) r' 2 (out++[(n:Int) - 1]) 2 ((wY hr).symm.trans hL) rfl rfl rfl rfl rfl (by omega) (by omega) Okl.own (by omega) Okl.own (by decide) (by simp;omega)
    refine ⟨e,T',g2,?_⟩
    rw [if_pos h5]
    cases hrn:y8 m r' with
    | none=>rw [hrn] at g3;exact g3
    | some ab =>
     obtain ⟨a,b⟩:=ab
     rw [hrn] at g3
     obtain ⟨q1,q2,q3,q4⟩:=g3
     refine ⟨q1,q2,?_,?_⟩
     ·
      rw [q3];simp
     ·
      rw [q4];simp
   ·
    have d1:(4611686018427387905:Int) < (n:Int):=by omega
    conv at hr =>
     rhs
     rw [hTe]
     simp only [zL.jL,zL.code,zL.rs,zSs,reduceIte,Nat.reduceEqDiff,Int.reduceEq,Int.reduceLT,Int.reduceLE,ac3,hd,g1,d1]
    refine ⟨_,_,hL.symm.trans (jZ hr (by simp)),?_⟩
    rw [if_neg h5]
    exact ⟨rfl,rfl,rfl,rfl⟩
theorem zx.round {many:Int} (hmany:many≤64) {S:zn}:∀ (m:Nat) (i:Int) (rest:List UInt8) (kr:Nat) (out:List Int) (ko:Nat) {T:List Value} {r:St},qw (zG Try.prog O false zx.jL) T S=r→T.length=49 →
  T.getD 1 zh=.int .i64 many→T.getD 9 zh=.int .i64 i→T.getD 8 zh=by_ kr rest→T.getD 7 zh=iz ko out→0≤i→many=i+m→Okl kr rest→rest.length≤140737488355328→Okl ko out→ko≠1→(out.length:Int)=i →
  ∃ e T',r=some (e,T',S)∧match y8 m rest with
   | none=>e=.ret∧T'.getD 4 zh=.slice none 0 0∧T'.getD 5 zh=.slice none 0 0∧T'.getD 6 zh=.int .i64 11
   | some (a,b)=>e=.exit 0∧T'.length=49∧T'.getD 7 zh=iz (if m=0 then ko else 2) (out++a)∧T'.getD 8 zh=by_ (if m=0 then kr else 2) b:=by
 intro m
 induction m with
 | zero =>
  intro i rest kr out ko T r hL hT h1 h2 h3 h4 h0 hm hkr hlen hko hk1 hol
  have hTe:=zx.eta hT
  rw [h1,h2,h3,h4] at hTe
  have hr:zG Try.prog O false zx.jL T S=zG Try.prog O false zx.jL T S:=rfl
  have hd:¬ i < many:=by omega
  conv at hr =>
   rhs
   rw [hTe]
   simp only [zx.jL,zx.code,zx.rs,zSs,reduceIte,Nat.reduceEqDiff,Int.reduceEq,Int.reduceLT,Int.reduceLE,hd]
  exact ⟨_,_,hL.symm.trans (jZ hr (by simp)),rfl,rfl,by simp,rfl⟩
 | succ m ih =>
  intro i rest kr out ko T r hL hT h1 h2 h3 h4 h0 hm hkr hlen hko hk1 hol
  have hTe:=zx.eta hT
  rw [h1,h2,h3,h4] at hTe
  have hr:zG Try.prog O false zx.jL T S=zG Try.prog O false zx.jL T S:=rfl
  have hd:i < many:=by omega
  have g1:∀ S,zW Try.prog O zB.id [by_ (if kr=2 then 1 else kr) rest] S=some (Xk rest,S):=zB.v hkr.dem (by split <;> omega) hlen
  unfold Xk at g1
  rw [y8]
  cases hsc:scan 0 0 rest with
  | none =>
   rw [hsc] at g1
   have d11:¬ (11:Int)=0:=by omega
   conv at hr =>
    rhs
    rw [hTe]
    simp only [zx.jL,zx.code,zx.rs,zSs,reduceIte,Nat.reduceEqDiff,Int.reduceEq,Int.reduceLT,Int.reduceLE,ac3,hd,g1,d11]
   exact ⟨_,_,hL.symm.trans (jZ hr (by simp)),rfl,rfl,rfl,rfl⟩
  | some nr =>
   obtain ⟨n,r'⟩:=nr
   rw [hsc] at g1
   obtain ⟨hn,hrl⟩:=QV rest 0 0 (by decide) (by omega) n r' hsc
   dsimp only
   by_cases h5:n≤4611686018427387905
   ·
    have d1:¬ (4611686018427387905:Int) < (n:Int):=by omega
    have w1:IntKind.i64.wrap (n:Int)=(n:Int):=wrap_i64 (by omega) (by omega)
    have w2:IntKind.i64.wrap ((n:Int) - 1)=(n:Int) - 1:=wrap_i64 (by omega) (by omega)
    have w3:IntKind.i64.wrap (i+1)=i+1:=wrap_i64 (by omega) (by omega)
    have e1:∀ x S,wP Try.prog 24 24 (iz ko out) (iz 2 [x]) S=some (iz 2 (out++[x]),S):=fun x S=>af4 hko hk1 (by omega)
    conv at hr =>
     rhs
     rw [hTe]
     simp only [zx.jL,zx.code,zx.rs,zSs,reduceIte,Nat.reduceEqDiff,Int.reduceEq,Int.reduceLT,Int.reduceLE,ac3,hd,g1,d1,Yq,w1,w2,w3,Wn,ahg,e1]
    obtain ⟨e,T',g2,g3⟩:=ih (i+1) r' 2 (out++[(n:Int) - 1]) 2 ((wY hr).symm.trans hL) rfl rfl rfl rfl rfl (by omega) (by omega) Okl.own (by omega) Okl.own (by decide) (by simp;omega)
    refine ⟨e,T',g2,?_⟩
    rw [if_pos h5]
    cases hrn:y8 m r' with
    | none=>rw [hrn] at g3;exact g3
    | some ab =>
     obtain ⟨a,b⟩:=ab
     rw [hrn] at g3
     obtain ⟨q1,q2,q3,q4⟩:=g3
     refine ⟨q1,q2,?_,?_⟩
     ·
      rw [q3];simp
     ·
      rw [q4];simp
   ·
    have d1:(4611686018427387905:Int) < (n:Int):=by omega
    conv at hr =>
     rhs
     rw [hTe]
     simp only [zx.jL,zx.code,zx.rs,zSs,reduceIte,Nat.reduceEqDiff,Int.reduceEq,Int.reduceLT,Int.reduceLE,ac3,hd,g1,d1]
    refine ⟨_,_,hL.symm.trans (jZ hr (by simp)),?_⟩
    rw [if_neg h5]
    exact ⟨rfl,rfl,rfl,rfl⟩
theorem zL.v {k:Nat} {l:List UInt8} {many:Int} (hv:Okl k l) (hk:k≠2) (hlen:l.length≤140737488355328) (S:zn):zW Try.prog O zL.id [by_ k l,.int .i64 many] S=some (vO 0 (if k=0 then 0 else 2) many l,S):=by
 obtain ⟨T,hTe⟩:∃ T,T=(by_ k l::.int .i64 many::zh::zh::zh::zh::zh::zh::zh::zh::zh::zh::zh::zh::zh::zh::zh::zh::zh::zh::zh::zh::zh::zh::zh::zh::zh::zh::zh::zh::zh::zh::zh::zh::zh::zh::zh::zh::zh::zh::zh::zh::zh::zh::zh::[]):=⟨_,rfl⟩
 have hr:zG Try.prog O false zL.code T S=zG Try.prog O false zL.code T S:=rfl
 have c1:∀ S,zW Try.prog O 54 [by_ k l] S=some (by_ (if k=0 then 0 else 2) l,S):=slices_Clone.v hv hk hlen
 unfold vO
 by_cases h1:many < 0
 ·
  conv at hr =>
   rhs
   rw [hTe]
   simp only [zL.code,zL.rs,zSs,reduceIte,Nat.reduceEqDiff,Int.reduceEq,Int.reduceLT,Int.reduceLE,h1]
  rw [hTe] at hr
  rw [if_pos (.inl h1)]
  exact zL.runs hr (.inr rfl) (by simp only [List.getD_cons_succ,List.getD_cons_zero,wC,jW,jK,jO,jX]) (by simp only [List.getD_cons_succ,List.getD_cons_zero,wC,jW,jK,jO,jX]) (by simp only [List.getD_cons_succ,List.getD_cons_zero,wC,jW,jK,jO,jX])
 ·
  by_cases h2:64 < many
  ·
   conv at hr =>
    rhs
    rw [hTe]
    simp only [zL.code,zL.rs,zSs,reduceIte,Nat.reduceEqDiff,Int.reduceEq,Int.reduceLT,Int.reduceLE,h1,h2]
   rw [hTe] at hr
   rw [if_pos (.inr h2)]
   exact zL.runs hr (.inr rfl) (by simp only [List.getD_cons_succ,List.getD_cons_zero,wC,jW,jK,jO,jX]) (by simp only [List.getD_cons_succ,List.getD_cons_zero,wC,jW,jK,jO,jX]) (by simp only [List.getD_cons_succ,List.getD_cons_zero,wC,jW,jK,jO,jX])
  ·
   rw [if_neg (by omega)]
   conv at hr =>
    rhs
    rw [hTe]
    simp only [zL.code,zL.rs,zSs,reduceIte,Nat.reduceEqDiff,Int.reduceEq,Int.reduceLT,Int.reduceLE,h1,h2,if_neg hk,c1]
   generalize hL:qw (zG Try.prog O false zL.jL) _ _=r at hr
   have okr:Okl (if k=0 then 0 else 2) l:=⟨by split <;> omega,fun h=>by split at h <;> first | (rename_i hp;exact hv.nil hp) | omega⟩
   obtain ⟨e,T',rfl,g⟩:=zL.round (many:=many) (by omega) many.toNat 0 l (if k=0 then 0 else 2) [] 0 hL rfl rfl rfl rfl rfl (by omega) (by omega) okr hlen Okl.none (by decide) rfl
   cases hrn:y8 many.toNat l with
   | none =>
    rw [hrn] at g
    obtain ⟨rfl,g2,g3,g4⟩:=g
    conv at hr =>
     rhs
     simp only [zSs,reduceIte,Nat.reduceEqDiff,Int.reduceEq,Int.reduceLT,Int.reduceLE]
    rw [hTe] at hr
    have hrun:=zL.runs hr (.inr rfl) (by rw [g2];rfl) (by rw [g3];rfl) (by rw [g4];rfl)
    rw [g2,g3,g4] at hrun
    exact hrun
   | some ab =>
    obtain ⟨a,b⟩:=ab
    rw [hrn] at g
    obtain ⟨rfl,g2,g3,g4⟩:=g
    have hTe':=zL.eta g2
    rw [g3,g4] at hTe'
    have hz:(many.toNat=0) ↔ (many=0):=by omega
    simp only [hz,List.nil_append] at hTe'
    conv at hr =>
     rhs
     rw [hTe']
     simp only [zL.code,zL.rs,zSs,reduceIte,Nat.reduceEqDiff,Int.reduceEq,Int.reduceLT,Int.reduceLE]
    rw [hTe] at hr
    exact zL.runs hr (.inr rfl) (by simp only [List.getD_cons_succ,List.getD_cons_zero,wC,jW,jK,jO,jX]) (by simp only [List.getD_cons_succ,List.getD_cons_zero,wC,jW,jK,jO,jX]) (by simp only [List.getD_cons_succ,List.getD_cons_zero,wC,jW,jK,jO,jX])
theorem zx.v {k:Nat} {l:List UInt8} {many:Int} (hv:Okl k l) (hk:k≠2) (hlen:l.length≤140737488355328) (S:zn):zW Try.prog O zx.id [by_ k l,.int .i64 many] S=some (vO 2 2 many l,S):=by
 obtain ⟨T,hTe⟩:∃ T,T=(by_ k l::.int .i64 many::zh::zh::zh::zh::zh::zh::zh::zh::zh::zh::zh::zh::zh::zh::zh::zh::zh::zh::zh::zh::zh::zh::zh::zh::zh::zh::zh::zh::zh::zh::zh::zh::zh::zh::zh::zh::zh::zh::zh::zh::zh::zh::zh::zh::zh::zh::zh::[]):=⟨_,rfl⟩
 have hr:zG Try.prog O false zx.code T S=zG Try.prog O false zx.code T S:=rfl
 have c1:=fun S=>aaj hv hlen (S:=S)
 unfold vO
 by_cases h1:many < 0
 ·
  conv at hr =>
   rhs
   rw [hTe]
   simp only [zx.code,zx.rs,zSs,reduceIte,Nat.reduceEqDiff,Int.reduceEq,Int.reduceLT,Int.reduceLE,h1]
  rw [hTe] at hr
  rw [if_pos (.inl h1)]
  exact zx.runs hr (.inr rfl) (by simp only [List.getD_cons_succ,List.getD_cons_zero,wC,jW,jK,jO,jX]) (by simp only [List.getD_cons_succ,List.getD_cons_zero,wC,jW,jK,jO,jX]) (by simp only [List.getD_cons_succ,List.getD_cons_zero,wC,jW,jK,jO,jX])
 ·
  by_cases h2:64 < many
  ·
   conv at hr =>
    rhs
    rw [hTe]
    simp only [zx.code,zx.rs,zSs,reduceIte,Nat.reduceEqDiff,Int.reduceEq,Int.reduceLT,Int.reduceLE,h1,h2]
   rw [hTe] at hr
   rw [if_pos (.inr h2)]
   exact zx.runs hr (.inr rfl) (by simp only [List.getD_cons_succ,List.getD_cons_zero,wC,jW,jK,jO,jX]) (by simp only [List.getD_cons_succ,List.getD_cons_zero,wC,jW,jK,jO,jX]) (by simp only [List.getD_cons_succ,List.getD_cons_zero,wC,jW,jK,jO,jX])
  ·
   rw [if_neg (by omega)]
   conv at hr =>
    rhs
    rw [hTe]
    simp only [zx.code,zx.rs,zSs,reduceIte,Nat.reduceEqDiff,Int.reduceEq,Int.reduceLT,Int.reduceLE,h1,h2,if_neg hk,bz0,bb0,c1]
   generalize hL:qw (zG Try.prog O false zx.jL) _ _=r at hr
   obtain ⟨e,T',rfl,g⟩:=zx.round (many:=many) (by omega) many.toNat 0 l 2 [] 2 hL rfl rfl rfl rfl rfl (by omega) (by omega) Okl.own hlen Okl.own (by decide) rfl
   cases hrn:y8 many.toNat l with
   | none =>
    rw [hrn] at g
    obtain ⟨rfl,g2,g3,g4⟩:=g
    conv at hr =>
     rhs
     simp only [zSs,reduceIte,Nat.reduceEqDiff,Int.reduceEq,Int.reduceLT,Int.reduceLE]
    rw [hTe] at hr
    have hrun:=zx.runs hr (.inr rfl) (by rw [g2];rfl) (by rw [g3];rfl) (by rw [g4];rfl)
    rw [g2,g3,g4] at hrun
    exact hrun
   | some ab =>
    obtain ⟨a,b⟩:=ab
    rw [hrn] at g
    obtain ⟨rfl,g2,g3,g4⟩:=g
    have hTe':=zx.eta g2
    rw [g3,g4] at hTe'
    simp only [ite_self,List.nil_append] at hTe'
    conv at hr =>
     rhs
     rw [hTe']
     simp only [zx.code,zx.rs,zSs,reduceIte,Nat.reduceEqDiff,Int.reduceEq,Int.reduceLT,Int.reduceLE]
    rw [hTe] at hr
    simp only [ite_self]
    exact zx.runs hr (.inr rfl) (by simp only [List.getD_cons_succ,List.getD_cons_zero,wC,jW,jK,jO,jX]) (by simp only [List.getD_cons_succ,List.getD_cons_zero,wC,jW,jK,jO,jX]) (by simp only [List.getD_cons_succ,List.getD_cons_zero,wC,jW,jK,jO,jX])
end Go.Proofs.Ytfjogganfjkckaa
namespace Go.Proofs.Ytfjogganfjkckaa
open Go.Abs
def Few (n:Int):Prop:=-1≤n∧n≤4611686018427387904
theorem yQ:∀ (m:Nat) (l:List UInt8) (a:List Int) (b:List UInt8),y8 m l=some (a,b) ↔ a.length=m∧l=encs a++b∧∀ n ∈ a,Few n:=by
 intro m
 induction m with
 | zero =>
  intro l a b
  constructor
  ·
   intro h;cases h;exact ⟨rfl,rfl,fun n h=>by cases h⟩
  ·
   rintro ⟨h1,h2,_⟩
   have:a=[]:=List.length_eq_zero_iff.mp h1
   subst this
   rw [h2];rfl
 | succ m ih =>
  intro l a b
  rw [y8]
  constructor
  ·
   intro h
   cases hsc:scan 0 0 l with
   | none=>rw [hsc] at h;cases h
   | some nr =>
    obtain ⟨n,r⟩:=nr
    rw [hsc] at h
    dsimp only at h
    split at h
    ·
     rename_i hn
     cases hr:y8 m r with
     | none=>rw [hr] at h;cases h
     | some ab =>
      obtain ⟨a',b'⟩:=ab
      rw [hr] at h
      obtain ⟨h1,h2,h3⟩:=(ih r a' b').mp hr
      cases h
      obtain ⟨f1,f2⟩:=aaJ hsc
      refine ⟨by simp [h1],?_,fun x hx=>?_⟩
      ·
       rw [f1,h2]
       have:((n:Int) - 1+1).toNat=n:=by omega
       simp [encs,this]
      ·
       rcases List.mem_cons.1 hx with rfl | hx
       ·
        unfold Few;omega
       ·
        exact h3 x hx
    ·
     cases h
  ·
   rintro ⟨h1,h2,h3⟩
   cases a with
   | nil=>simp at h1
   | cons x a =>
    have hx:Few x:=h3 x (by simp)
    unfold Few at hx
    have he:encs (x::a)++b=enc (x+1).toNat++(encs a++b):=by simp [encs]
    rw [h2,he,Yv (by omega)]
    dsimp only
    rw [if_pos (by omega),(ih (encs a++b) a b).mpr ⟨by simpa using h1,rfl,fun n hn=>h3 n (by simp [hn])⟩]
    have:((x+1).toNat:Int) - 1=x:=by omega
    simp only [this]
theorem Wp {m:Nat} {l:List UInt8} {a:List Int} {b:List UInt8} (h:y8 m l=some (a,b)):a.length=m∧b.length≤l.length:=by
 obtain ⟨h1,h2,_⟩:=(yQ m l a b).mp h
 exact ⟨h1,by rw [h2];simp⟩
theorem Wx {a c:List Int} {b d:List UInt8} (h:a.length=c.length) (ha:∀ n ∈ a,Few n) (hc:∀ n ∈ c,Few n) (he:encs a++b=encs c++d):a=c∧b=d:=by
 have h1:=(yQ a.length (encs a++b) a b).mpr ⟨rfl,rfl,ha⟩
 have h2:=(yQ a.length (encs a++b) c d).mpr ⟨h.symm,he,hc⟩
 rw [h1] at h2
 simpa using h2
theorem JE {k:Nat} {l:List Int} (h:l.length≤64) (h1:∀ n ∈ l,-1≤n) (h0:l≠[]):ady k l=.tuple #[by_ 2 (encs l),.int .i64 0]:=by
 unfold ady
 rw [if_neg (by rintro (h2 | ⟨n,h2,h3⟩);{ omega };{ have:=h1 n h2;omega }),if_neg h0]
theorem xI {k0 k1 m:Nat} {l:List UInt8} (h0:0 < m) (h:m≤64):vO k0 k1 m l=match y8 m l with
  | some (a,b)=>.tuple #[iz 2 a,by_ 2 b,.int .i64 0]
  | none=>.tuple #[.slice none 0 0,.slice none 0 0,.int .i64 11]:=by
 unfold vO
 rw [if_neg (by omega),Int.toNat_natCast]
 have:(m:Int)≠0:=by omega
 simp only [if_neg this]
 all_goals (cases y8 m l <;> rfl)
noncomputable def rd {α:Type} (ok:α→Prop) (e:α→List UInt8) (b:List UInt8):Option α:=open Classical in if h:∃ x,ok x∧b=e x then some h.choose else none
theorem afK {α:Type} {ok:α→Prop} {e:α→List UInt8} (inj:∀ x y,ok x→ok y→e x=e y→x=y) (b:List UInt8) (x:α):rd ok e b=some x ↔ ok x∧b=e x:=by
 unfold rd
 constructor
 ·
  intro h
  split at h
  ·
   rename_i he
   cases h
   exact he.choose_spec
  ·
   cases h
 ·
  intro h
  have he:∃ x,ok x∧b=e x:=⟨x,h⟩
  rw [dif_pos he]
  exact congrArg some (inj _ _ he.choose_spec.1 h.1 (he.choose_spec.2.symm.trans h.2))
end Go.Proofs.Ytfjogganfjkckaa
namespace Go.Proofs.Ytfjogganfjkckaa
open Go.Abs
def Xp (n:Int):Int:=IntKind.u64.wrap (IntKind.u64.wrap (IntKind.u64.wrap n+1) * 11400714819323198485)
def YC (h:Int) (x:UInt8):Int:=IntKind.u64.wrap (acA .u64 h (x.toNat:Int) * 1099511628211)
def akK (h:Int):Int:=acA .u64 h (h.fdiv (2 ^ min (Int.toNat 29) (IntKind.bits .u64)))
def WQ (key:Int) (b:List UInt8):Int:=akK (b.foldl YC (acA .u64 key 14695981039346656037))
theorem aaP (x:UInt8):IntKind.u64.wrap (x.toNat:Int)=(x.toNat:Int):=Zw (by have:=x.toNat_lt;omega)
theorem QF (x:Int):IntKind.u64.wrap x=x % 18446744073709551616:=rfl
theorem ac9 (a b:Int):0≤acA .u64 a b∧acA .u64 a b < 18446744073709551616:=by
 unfold acA
 have h:∀ x:Int,0≤IntKind.u64.wrap x∧IntKind.u64.wrap x < 18446744073709551616:=fun x=>by rw [QF];omega
 first | exact h _ | (simp only [IntKind.ofBits,IntKind.signed];first | exact h _ | omega)
theorem ahE (h:Int) (x:UInt8):0≤YC h x∧YC h x < 18446744073709551616:=by unfold YC;rw [QF];omega
theorem kL.v (n:Int) (S:zn):zW Try.prog O kL.id [.int .i64 n] S=some (.int .u64 (Xp n),S):=by
 obtain ⟨T,hTe⟩:∃ T,T=(.int .i64 n::zh::zh::zh::zh::zh::zh::[]):=⟨_,rfl⟩
 have hr:zG Try.prog O false kL.code T S=zG Try.prog O false kL.code T S:=rfl
 conv at hr =>
  rhs
  rw [hTe]
  simp only [kL.code,kL.rs,zSs,reduceIte,Nat.reduceEqDiff,Int.reduceEq,Int.reduceLT,Int.reduceLE,YH,Jy]
 rw [hTe] at hr
 exact kL.runs hr (.inr rfl)
theorem adn (S:zn):zW Try.prog O yT.id [.int .i64 0] S=some (.int .u64 (Xp 0),S):=JA (n:=70) (by kernel_rfl)
theorem ad8 (S:zn):zW Try.prog O yT.id [.int .i64 1] S=some (.int .u64 (Xp 1),S):=JA (n:=70) (by kernel_rfl)
theorem ads (S:zn):zW Try.prog O yT.id [.int .i64 2] S=some (.int .u64 (Xp 2),S):=JA (n:=70) (by kernel_rfl)
theorem ad5 (S:zn):zW Try.prog O yT.id [.int .i64 3] S=some (.int .u64 (Xp 3),S):=JA (n:=70) (by kernel_rfl)
theorem adM (S:zn):zW Try.prog O yT.id [.int .i64 4] S=some (.int .u64 (Xp 4),S):=JA (n:=70) (by kernel_rfl)
theorem adD (S:zn):zW Try.prog O yT.id [.int .i64 5] S=some (.int .u64 (Xp 5),S):=JA (n:=70) (by kernel_rfl)
theorem adY (S:zn):zW Try.prog O yT.id [.int .i64 6] S=some (.int .u64 (Xp 6),S):=JA (n:=70) (by kernel_rfl)
theorem yT.v {n:Int} (h0:0≤n) (h6:n≤6) (S:zn):zW Try.prog O yT.id [.int .i64 n] S=some (.int .u64 (Xp n),S):=by
 have:n=0∨n=1∨n=2∨n=3∨n=4∨n=5∨n=6:=by omega
 rcases this with rfl | rfl | rfl | rfl | rfl | rfl | rfl
 ·
  exact adn S
 ·
  exact ad8 S
 ·
  exact ads S
 ·
  exact ad5 S
 ·
  exact adM S
 ·
  exact adD S
 ·
  exact adY S
section
variable {l:List UInt8} {k:Nat}
theorem wI.round (hv:Okl k l) (hlen:l.length≤140737488355328) {S:zn}:∀ (suf pre:List UInt8) (h:Int) {T:List Value} {r:St},qw (zG Try.prog O false wI.jL) T S=r→T.length=35 →
  T.getD 5 zh=.int .u64 h→T.getD 18 zh=by_ k l→T.getD 19 zh=.int .i64 l.length→T.getD 20 zh=.int .i64 pre.length→l=pre++suf →
  ∃ T',r=some (.exit 2,T',S)∧T'.length=35∧T'.getD 5 zh=.int .u64 (suf.foldl YC h)∧T'.getD 12 zh=T.getD 12 zh∧T'.getD 13 zh=T.getD 13 zh∧T'.getD 14 zh=T.getD 14 zh:=by
 intro suf
 induction suf with
 | nil =>
  intro pre h T r hL hT h5 h18 h19 h20 hl
  have hTe:=wI.eta hT
  rw [h5,h18,h19,h20] at hTe
  have hr:zG Try.prog O false wI.jL T S=zG Try.prog O false wI.jL T S:=rfl
  have d1:¬ (pre.length:Int) < (l.length:Int):=by rw [hl];simp
  conv at hr =>
   rhs
   rw [hTe]
   simp only [wI.jL,wI.code,wI.rs,zSs,reduceIte,Nat.reduceEqDiff,Int.reduceEq,Int.reduceLT,Int.reduceLE,d1]
  exact ⟨_,hL.symm.trans (jZ hr (by simp)),rfl,rfl,rfl,rfl,rfl⟩
 | cons x suf ih =>
  intro pre h T r hL hT h5 h18 h19 h20 hl
  have hTe:=wI.eta hT
  rw [h5,h18,h19,h20] at hTe
  have hr:zG Try.prog O false wI.jL T S=zG Try.prog O false wI.jL T S:=rfl
  have d1:(pre.length:Int) < (l.length:Int):=by rw [hl];simp;omega
  have e1:∀ S,jo Try.prog 33 (by_ k l) (.int .i64 pre.length) S=some (EP [.int .u8 x.toNat],S):=fun S=>by
   rw [agC hv (by omega) d1];rw [Qr hl]
  have wi:IntKind.i64.wrap ((pre.length:Int)+1)=((pre++[x]).length:Int):=by rw [wrap_i64 (by omega) (by omega)];simp
  have em:IntKind.u64.wrap (acA .u64 h (x.toNat:Int) * 1099511628211)=YC h x:=rfl
  conv at hr =>
   rhs
   rw [hTe]
   simp only [wI.jL,wI.code,wI.rs,zSs,reduceIte,Nat.reduceEqDiff,Int.reduceEq,Int.reduceLT,Int.reduceLE,d1,e1,KA,Zb,aaP,WA,YH,em,wi]
  obtain ⟨T',q1,q2,q3,q4,q5,q6⟩:=ih (pre++[x]) (YC h x) ((wY hr).symm.trans hL) rfl rfl rfl rfl rfl (by simp [hl])
  exact ⟨T',q1,q2,q3,q4,q5,q6⟩
theorem QH (S:zn):jH Try.prog 29 1 [(0,by_ 1 l)] S=some (sv 2 1 1 [by_ 1 l],S):=by kernel_rfl
theorem agR (i:Int) (hi:i=0) (S:zn):jo Try.prog 29 (sv 1 1 1 [by_ 1 l]) (.int .i64 i) S=some (EP [by_ 1 l],S):=by subst hi;exact YT ZM Yp ⟨by decide,fun h=>by cases h⟩ (by omega) (by omega)
theorem wI.v (hlen:l.length≤140737488355328) {key:Int} (S:zn):zW Try.prog O wI.id [.int .u64 key,sv 1 1 1 [by_ 1 l]] S=some (.int .u64 (WQ key l),S):=by
 obtain ⟨T,hTe⟩:∃ T,T=(.int .u64 key::sv 1 1 1 [by_ 1 l]::zh::zh::zh::zh::zh::zh::zh::zh::zh::zh::zh::zh::zh::zh::zh::zh::zh::zh::zh::zh::zh::zh::zh::zh::zh::zh::zh::zh::zh::zh::zh::zh::zh::[]):=⟨_,rfl⟩
 have hr:zG Try.prog O false wI.code T S=zG Try.prog O false wI.code T S:=rfl
 have ln:∀ S,Zz Try.prog 29 (sv 1 1 1 [by_ 1 l]) S=some (.int .i64 1,S):=fun S=>by kernel_rfl
 have lb:∀ S,Zz Try.prog 33 (by_ 1 l) S=some (.int .i64 l.length,S):=fun S=>Zy Okl.read
 conv at hr =>
  rhs
  rw [hTe]
  simp only [wI.code,wI.rs,zSs,reduceIte,Nat.reduceEqDiff,Int.reduceEq,Int.reduceLT,Int.reduceLE,WA,ln]
 generalize hL:qw (zG Try.prog O false wI.kP) _ _=r at hr
 have key1:∃ T',r=some (.exit 0,T',S)∧T'.length=35∧T'.getD 5 zh=.int .u64 (l.foldl YC (acA .u64 key 14695981039346656037)):=by
  generalize hT0:(_::_:List Value)=T0 at hL
  have hT0':T0.length=35:=by rw [← hT0];rfl
  have g5:T0.getD 5 zh=.int .u64 (acA .u64 key 14695981039346656037):=by rw [← hT0];rfl
  have g12:T0.getD 12 zh=sv 1 1 1 [by_ 1 l]:=by rw [← hT0];rfl
  have g13:T0.getD 13 zh=.int .i64 1:=by rw [← hT0];rfl
  have g14:T0.getD 14 zh=.int .i64 0:=by rw [← hT0];rfl
  have hTe:=wI.eta hT0'
  rw [g5,g12,g13,g14] at hTe
  have hr:zG Try.prog O false wI.kP T0 S=zG Try.prog O false wI.kP T0 S:=rfl
  have z1:(0:Int) < 1:=by omega
  conv at hr =>
   rhs
   rw [hTe]
   simp only [wI.kP,wI.code,wI.rs,zSs,reduceIte,Nat.reduceEqDiff,Int.reduceEq,Int.reduceLT,Int.reduceLE,z1,agR 0 rfl,Jr YO,lb]
  generalize hL1:qw (zG Try.prog O false wI.jL) _ _=r1 at hr
  obtain ⟨T1,rfl,q1,q2,q3,q4,q5⟩:=wI.round (Okl.read (l:=l)) hlen l [] _ hL1 rfl rfl rfl rfl rfl rfl
  have q3:T1.getD 12 zh=sv 1 1 1 [by_ 1 l]:=q3
  have q4:T1.getD 13 zh=.int .i64 1:=q4
  have q5:T1.getD 14 zh=.int .i64 0:=q5
  have hT1:=wI.eta q1
  rw [q2,q3,q4,q5] at hT1
  have w1:IntKind.i64.wrap (0+1)=1:=by decide
  conv at hr =>
   rhs
   rw [hT1]
   simp only [wI.code,wI.rs,zSs,reduceIte,Nat.reduceEqDiff,Int.reduceEq,Int.reduceLT,Int.reduceLE,w1]
  have hL2:=(wY hr).symm.trans hL
  generalize hT2:(_::_:List Value)=T2 at hL2
  have hT2':T2.length=35:=by rw [← hT2];rfl
  have f5:T2.getD 5 zh=.int .u64 (l.foldl YC (acA .u64 key 14695981039346656037)):=by rw [← hT2];rfl
  have f13:T2.getD 13 zh=.int .i64 1:=by rw [← hT2];rfl
  have f14:T2.getD 14 zh=.int .i64 1:=by rw [← hT2];rfl
  have hTe2:=wI.eta hT2'
  rw [f5,f13,f14] at hTe2
  have hr2:zG Try.prog O false wI.kP T2 S=zG Try.prog O false wI.kP T2 S:=rfl
  have z2:¬ (1:Int) < 1:=by omega
  conv at hr2 =>
   rhs
   rw [hTe2]
   simp only [wI.kP,wI.code,wI.rs,zSs,reduceIte,Nat.reduceEqDiff,Int.reduceEq,Int.reduceLT,Int.reduceLE,z2]
  exact ⟨_,hL2.symm.trans (jZ hr2 (by simp)),rfl,rfl⟩
 obtain ⟨T',rfl,g1,g2⟩:=key1
 have hT':=wI.eta g1
 rw [g2] at hT'
 conv at hr =>
  rhs
  rw [hT']
  simp only [wI.code,wI.rs,zSs,reduceIte,Nat.reduceEqDiff,Int.reduceEq,Int.reduceLT,Int.reduceLE,WA,acI _ _ _ _ (show (0:Int)≤29 by omega)]
 rw [hTe] at hr
 exact wI.runs hr (.inr rfl)
theorem qm.v (hv:Okl k l) (k1:k=1) (hlen:l.length≤140737488355328) {key mark:Int} (S:zn):zW Try.prog O qm.id [.int .u64 key,.int .u64 mark,by_ k l] S=some (.bool (decide (WQ key l=mark)),S):=by
 subst k1
 obtain ⟨T,hTe⟩:∃ T,T=(.int .u64 key::.int .u64 mark::by_ 1 l::zh::zh::zh::zh::zh::zh::zh::zh::zh::zh::[]):=⟨_,rfl⟩
 have hr:zG Try.prog O false qm.code T S=zG Try.prog O false qm.code T S:=rfl
 have c1:=fun S=>wI.v hlen (key:=key) S
 have z:¬ (1:Nat)=2:=by decide
 conv at hr =>
  rhs
  rw [hTe]
  simp only [qm.code,qm.rs,zSs,reduceIte,Nat.reduceEqDiff,Int.reduceEq,Int.reduceLT,Int.reduceLE,if_neg z,QH,c1]
 rw [hTe] at hr
 exact qm.runs hr (.inr rfl)
theorem mref (h:Int):IntKind.u64.wrap (IntKind.u64.wrap (IntKind.u64.wrap (h * 2 ^ (min (Int.toNat 40) (IntKind.bits .u64)))+IntKind.u64.wrap (h * 2 ^ (min (Int.toNat 8) (IntKind.bits .u64))))+IntKind.u64.wrap (h * 179))=IntKind.u64.wrap (h * 1099511628211):=by
 have e1:(2:Int) ^ (min (Int.toNat 40) (IntKind.bits .u64))=1099511627776:=by decide
 have e2:(2:Int) ^ (min (Int.toNat 8) (IntKind.bits .u64))=256:=by decide
 rw [e1,e2]
 simp only [QF]
 omega
theorem ahG {h:Int} (h0:0≤h) (h1:h < 18446744073709551616):acA .u64 h (IntKind.u64.wrap (h.tdiv 536870912))=akK h:=by
 unfold akK
 congr 1
 have e1:(2:Int) ^ (min (Int.toNat 29) (IntKind.bits .u64))=536870912:=by decide
 rw [e1,QF,Int.tdiv_eq_ediv_of_nonneg h0,Int.fdiv_eq_ediv_of_nonneg _ (by omega)]
 omega
theorem aft:∀ (l:List UInt8) (h:Int),0≤h→h < 18446744073709551616→0≤l.foldl YC h∧l.foldl YC h < 18446744073709551616
 | [],h,h0,h1=>⟨h0,h1⟩
 | x::l,h,h0,h1=>by
  have:=ahE h x
  exact aft l _ this.1 this.2
theorem zX.round (hv:Okl k l) (hk:k≠2) (hlen:l.length≤140737488355328) {S:zn}:∀ (suf pre:List UInt8) (h:Int) {T:List Value} {r:St},qw (zG Try.prog O false zX.jL) T S=r→T.length=34 →
  T.getD 1 zh=by_ k l→T.getD 5 zh=.int .u64 h→T.getD 6 zh=.int .i64 pre.length→l=pre++suf →
  ∃ T',r=some (.exit 0,T',S)∧T'.length=34∧T'.getD 5 zh=.int .u64 (suf.foldl YC h):=by
 intro suf
 induction suf with
 | nil =>
  intro pre h T r hL hT h1 h5 h6 hl
  have hTe:=zX.eta hT
  rw [h1,h5,h6] at hTe
  have hr:zG Try.prog O false zX.jL T S=zG Try.prog O false zX.jL T S:=rfl
  have d1:¬ (pre.length:Int) < (l.length:Int):=by rw [hl];simp
  conv at hr =>
   rhs
   rw [hTe]
   simp only [zX.jL,zX.code,zX.rs,zSs,reduceIte,Nat.reduceEqDiff,Int.reduceEq,Int.reduceLT,Int.reduceLE,if_neg hk,Zy hv,goInt,d1]
  exact ⟨_,hL.symm.trans (jZ hr (by simp)),rfl,rfl⟩
 | cons x suf ih =>
  intro pre h T r hL hT h1 h5 h6 hl
  have hTe:=zX.eta hT
  rw [h1,h5,h6] at hTe
  have hr:zG Try.prog O false zX.jL T S=zG Try.prog O false zX.jL T S:=rfl
  have d1:(pre.length:Int) < (l.length:Int):=by rw [hl];simp;omega
  have e1:∀ S,jo Try.prog 33 (by_ k l) (.int .i64 pre.length) S=some (EP [.int .u8 x.toNat],S):=fun S=>by
   rw [agC hv (by omega) d1];rw [Qr hl]
  have wi:IntKind.i64.wrap ((pre.length:Int)+1)=((pre++[x]).length:Int):=by rw [wrap_i64 (by omega) (by omega)];simp
  have em:IntKind.u64.wrap (acA .u64 h (x.toNat:Int) * 1099511628211)=YC h x:=rfl
  conv at hr =>
   rhs
   rw [hTe]
   simp only [zX.jL,zX.code,zX.rs,zSs,reduceIte,Nat.reduceEqDiff,Int.reduceEq,Int.reduceLT,Int.reduceLE,if_neg hk,Zy hv,goInt,d1,e1,KA,Zb,aaP,WA,YH,VD _ _ _ _ (show (0:Int)≤40 by omega),VD _ _ _ _ (show (0:Int)≤8 by omega),mref,em,wi]
  obtain ⟨T',q1,q2,q3⟩:=ih (pre++[x]) (YC h x) ((wY hr).symm.trans hL) rfl rfl rfl rfl (by simp [hl])
  exact ⟨T',q1,q2,q3⟩
theorem zX.v (hv:Okl k l) (hk:k≠2) (hlen:l.length≤140737488355328) {key:Int} (S:zn):zW Try.prog O zX.id [.int .u64 key,by_ k l] S=some (.int .u64 (WQ key l),S):=by
 obtain ⟨T,hTe⟩:∃ T,T=(.int .u64 key::by_ k l::zh::zh::zh::zh::zh::zh::zh::zh::zh::zh::zh::zh::zh::zh::zh::zh::zh::zh::zh::zh::zh::zh::zh::zh::zh::zh::zh::zh::zh::zh::zh::zh::[]):=⟨_,rfl⟩
 have hr:zG Try.prog O false zX.code T S=zG Try.prog O false zX.code T S:=rfl
 conv at hr =>
  rhs
  rw [hTe]
  simp only [zX.code,zX.rs,zSs,reduceIte,Nat.reduceEqDiff,Int.reduceEq,Int.reduceLT,Int.reduceLE,WA]
 generalize hL:qw (zG Try.prog O false zX.jL) _ _=r at hr
 obtain ⟨T',rfl,g1,g2⟩:=zX.round hv hk hlen l [] _ hL rfl rfl rfl rfl rfl
 have hT':=zX.eta g1
 rw [g2] at hT'
 have hx:=ac9 key 14695981039346656037
 have hi:=aft l _ hx.1 hx.2
 have em:=ahG hi.1 hi.2
 conv at hr =>
  rhs
  rw [hT']
  simp only [zX.code,zX.rs,zSs,reduceIte,Nat.reduceEqDiff,Int.reduceEq,Int.reduceLT,Int.reduceLE,xK _ _ _ (show (536870912:Int)≠0 by omega),WA,em]
 rw [hTe] at hr
 exact zX.runs hr (.inr rfl)
end
end Go.Proofs.Ytfjogganfjkckaa
namespace Go.Proofs.Ytfjogganfjkckaa
open Go.Abs
abbrev jJ.id:FuncId:=57
noncomputable def jJ.code:Code:=(Code.seq (Code.region 0 (reg Try.f57 0) false) (Code.seq (Code.region 1 (reg Try.f57 1) false) (Code.seq (Code.seq (Code.region 2 (reg Try.f57 2) false) (Code.cond (Operand.tmp 16) (Code.seq (Code.region 3 (reg Try.f57 3) false) Code.ret) Code.skip)) (Code.seq (Code.region 4 (reg Try.f57 4) false) (Code.seq (Code.region 5 (reg Try.f57 5) true) (Code.seq (Code.seq (Code.region 6 (reg Try.f57 6) false) (Code.cond (Operand.tmp 43) (Code.seq (Code.region 7 (reg Try.f57 7) false) Code.ret) Code.skip)) (Code.seq (Code.region 8 (reg Try.f57 8) false) Code.ret)))))))
theorem jJ.body:Try.f57.body=some jJ.code:=by kernel_rfl
variable (U x1 X x3 a Y V W Z x9 c d f g i k l m n o p q r s t u w x y z A B C D E F G H I J K L M N P Q:Value) (S:zn)
theorem jJ.r0 :jw Try.prog ⟨false,false,false⟩ (zW Try.prog O) (reg Try.f57 0) (reg Try.f57 0).toList ([U,x1,X,x3,a,Y,V,W,Z,x9,c,d,f,g,i,k,l,m,n,o,p,q,r,s,t,u,w,x,y,z,A,B,C,D,E,F,G,H,I,J,K,L,M,N,P,Q]) S =
  (zI (yG Try.prog 46 S) (fun v0 R=>some ([U,x1,v0,Value.int IntKind.i64 0,a,Y,V,W,Z,x9,c,d,f,g,i,k,l,m,n,o,p,q,r,s,t,u,w,x,y,z,A,B,C,D,E,F,G,H,I,J,K,L,M,N,P,Q],R)) ()):=by
 kernel_rfl
theorem jJ.r1 :jw Try.prog ⟨false,false,false⟩ (zW Try.prog O) (reg Try.f57 1) (reg Try.f57 1).toList ([U,x1,X,x3,a,Y,V,W,Z,x9,c,d,f,g,i,k,l,m,n,o,p,q,r,s,t,u,w,x,y,z,A,B,C,D,E,F,G,H,I,J,K,L,M,N,P,Q]) S =
  (zI ((zW Try.prog O) 55 [(dem (dem U)),(Value.int IntKind.i64 4)] S) (fun b R=>zI (zU b 0 R) (fun v3 S2=>zI (zU (zO 0 b) 1 S2) (fun v4 S3=>zI (zU (zO 1 (zO 0 b)) 2 S3) (fun v5 S4=>some ([U,x1,X,x3,v3,v4,v5,W,Z,zO 2 (zO 1 (zO 0 b)),dem U,dem b,dem v3,dem v4,dem v5,k,l,m,n,o,p,q,r,s,t,u,w,x,y,z,A,B,C,D,E,F,G,H,I,J,K,L,M,N,P,Q],S4)) ()) ()) ()) ()):=by
 kernel_rfl
theorem jJ.r2 :jw Try.prog ⟨false,false,false⟩ (zW Try.prog O) (reg Try.f57 2) (reg Try.f57 2).toList ([U,x1,X,x3,a,Y,V,W,Z,x9,c,d,f,g,i,k,l,m,n,o,p,q,r,s,t,u,w,x,y,z,A,B,C,D,E,F,G,H,I,J,K,L,M,N,P,Q]) S =
  (zI (wB Try.prog BinOp.neq 64 (dem V) (Value.int IntKind.i64 0) S) (fun b R=>some ([U,x1,X,x3,a,Y,V,W,Z,x9,c,d,f,g,i,dem V,b,m,n,o,p,q,r,s,t,u,w,x,y,z,A,B,C,D,E,F,G,H,I,J,K,L,M,N,P,Q],R)) ()):=by
 kernel_rfl
theorem jJ.r3 :jw Try.prog ⟨false,false,false⟩ (zW Try.prog O) (reg Try.f57 3) (reg Try.f57 3).toList ([U,x1,X,x3,a,Y,V,W,Z,x9,c,d,f,g,i,k,l,m,n,o,p,q,r,s,t,u,w,x,y,z,A,B,C,D,E,F,G,H,I,J,K,L,M,N,P,Q]) S =
  (zI (yg Try.prog 46 [] S) (fun v0 R=>zI (wM Try.prog 46 X (dem v0) R) (fun b S2=>some ([U,x1,X,Value.int IntKind.i64 71,a,Y,V,W,Z,x9,c,d,f,g,i,k,l,v0,n,o,p,q,r,s,t,u,w,x,y,z,A,B,C,D,E,F,G,H,I,J,K,L,M,N,P,Q],S2)) ()) ()):=by
 kernel_rfl
theorem jJ.r4 :jw Try.prog ⟨false,false,false⟩ (zW Try.prog O) (reg Try.f57 4) (reg Try.f57 4).toList ([U,x1,X,x3,a,Y,V,W,Z,x9,c,d,f,g,i,k,l,m,n,o,p,q,r,s,t,u,w,x,y,z,A,B,C,D,E,F,G,H,I,J,K,L,M,N,P,Q]) S =
  (zI ((zW Try.prog O) 65 [(dem (dem Y))] S) (fun b R=>zI (zU b 0 R) (fun v3 S2=>zI (zU (zO 0 b) 1 S2) (fun v4 S3=>some ([U,x1,X,x3,a,Y,v4,v3,Z,x9,c,d,f,g,i,k,l,m,zO 1 (zO 0 b),dem Y,dem b,dem v3,dem v4,s,t,u,w,x,y,z,A,B,C,D,E,F,G,H,I,J,K,L,M,N,P,Q],S3)) ()) ()) ()):=by
 kernel_rfl
theorem jJ.d5:qW Try.prog (reg Try.f57 5)=true:=by kernel_rfl
theorem jJ.ff5:fixed Try.prog (reg Try.f57 5)=false:=by kernel_rfl
theorem jJ.k5:checked Try.prog (reg Try.f57 5)=[0,1,2,3,4,5,6,7,8,9,10,11,12,13]:=by kernel_rfl
theorem jJ.g5:again Try.prog (reg Try.f57 5)=[(2,14),(5,14),(8,14),(11,14)]:=by kernel_rfl
theorem jJ.r5 :zG Try.prog O false (.region 5 (reg Try.f57 5) true) ([U,x1,X,x3,a,Y,V,W,Z,x9,c,d,f,g,i,k,l,m,n,o,p,q,r,s,t,u,w,x,y,z,A,B,C,D,E,F,G,H,I,J,K,L,M,N,P,Q]) S =
  Jb (okK a ( zI (jo Try.prog 24 (dem a) (Value.int IntKind.i64 0) S) (fun b R=>okK b ( zI (jf Try.prog false 3 b R) (fun v2 S2=>okK v2 ( okK a ( zI (jo Try.prog 24 (dem a) (Value.int IntKind.i64 1) S2) (fun v4 S3=>okK v4 ( zI (jf Try.prog false 3 v4 S3) (fun v5 S4=>okK v5 ( okK a ( zI (jo Try.prog 24 (dem a) (Value.int IntKind.i64 2) S4) (fun v7 S5=>okK v7 ( zI (jf Try.prog false 3 v7 S5) (fun v8 S6=>okK v8 ( okK a ( zI (jo Try.prog 24 (dem a) (Value.int IntKind.i64 3) S6) (fun a0 S7=>okK a0 ( zI (jf Try.prog false 3 a0 S7) (fun a2 S8=>okK a2 ( okK W ( zI (yg Try.prog 46 [(0,(dem v2)),(1,(dem v5)),(2,(dem v8)),(3,(dem a2)),(4,(dem (dem W)))] S8) (fun a3 S9=>okK a3 ( zI (yG Try.prog 46 S9) (fun a4 a1=>zI (wM Try.prog 46 a4 (dem a3) a1) (fun a6 a5=>ckK (qK b R a1 && (qK v4 S3 a1 && (qK v7 S5 a1 && (qK a0 S7 a1 && (true))))) (some ([U,x1,X,x3,a,Y,V,W,a4,x9,c,d,f,g,i,k,l,m,n,o,p,q,r,dem a,b,v2,dem a,v4,v5,dem a,v7,v8,dem a,a0,a2,dem W,a3,H,I,J,K,L,M,N,P,Q],a5)) ()) ()) ()) ()) ()) ()) ()) ()) ()) ()) ()) ()) ()) ()) ()) ()) ()) ()) ()) ()) ()) ()) ()) ()) ()) ()):=by
 rw [yF jJ.d5 jJ.ff5 jJ.k5 jJ.g5]
 refine congrArg Jb ?_
 refine uPC Try.f57 5 0 (v:=a) (pe:=zh) ?_
 refine uDC Try.f57 5 1 (pe:=zh) (fun b R=>?_)
 refine uDC Try.f57 5 2 (pe:=b) (fun v2 S2=>?_)
 refine uPC Try.f57 5 3 (v:=a) (pe:=zh) ?_
 refine uDC Try.f57 5 4 (pe:=zh) (fun v4 S3=>?_)
 refine uDC Try.f57 5 5 (pe:=v4) (fun v5 S4=>?_)
 refine uPC Try.f57 5 6 (v:=a) (pe:=zh) ?_
 refine uDC Try.f57 5 7 (pe:=zh) (fun v7 S5=>?_)
 refine uDC Try.f57 5 8 (pe:=v7) (fun v8 S6=>?_)
 refine uPC Try.f57 5 9 (v:=a) (pe:=zh) ?_
 refine uDC Try.f57 5 10 (pe:=zh) (fun a0 S7=>?_)
 refine uDC Try.f57 5 11 (pe:=a0) (fun a2 S8=>?_)
 refine uPC Try.f57 5 12 (v:=W) (pe:=zh) ?_
 refine uDC Try.f57 5 13 (pe:=zh) (fun a3 S9=>?_)
 refine uD Try.f57 5 14 (pe:=zh) (fun a4 a1=>?_)
 refine uD Try.f57 5 15 (pe:=zh) (fun a6 a5=>?_)
 kernel_rfl
theorem jJ.r6 :jw Try.prog ⟨false,false,false⟩ (zW Try.prog O) (reg Try.f57 6) (reg Try.f57 6).toList ([U,x1,X,x3,a,Y,V,W,Z,x9,c,d,f,g,i,k,l,m,n,o,p,q,r,s,t,u,w,x,y,z,A,B,C,D,E,F,G,H,I,J,K,L,M,N,P,Q]) S =
  (zI (wB Try.prog BinOp.neq 64 (dem V) (Value.int IntKind.i64 0) S) (fun b R=>gdK (dem b) false (jf Try.prog false 46 Z) R (fun v3 S2=>gdK (dem b) false ((zW Try.prog O) 45 [(dem v3)]) S2 (fun v4 S3=>gdK (dem b) false (aUn Try.prog UnOp.not v4) S3 (fun v5 S4=>zI (wR (dem b) (Value.bool true) v5 S4) (fun v6 S5=>some ([U,x1,X,x3,a,Y,V,W,Z,x9,c,d,f,g,i,k,l,m,n,o,p,q,r,s,t,u,w,x,y,z,A,B,C,D,E,F,G,dem V,b,dem b,v3,v4,v5,v6,P,Q],S5)) ()) ()) ()) ()) ()):=by
 refine sP Try.f57 6 0 (v:=V) ?_
 refine sD Try.f57 6 1 (fun b R=>?_)
 refine sP Try.f57 6 2 (v:=b) ?_
 refine sG Try.f57 6 3 (j:=2) (fun v3 S2=>?_)
 refine sG Try.f57 6 4 (j:=2) (fun v4 S3=>?_)
 refine sG Try.f57 6 5 (j:=2) (fun v5 S4=>?_)
 refine sD Try.f57 6 6 (fun v6 S5=>?_)
 kernel_rfl
theorem jJ.r7 :jw Try.prog ⟨false,false,false⟩ (zW Try.prog O) (reg Try.f57 7) (reg Try.f57 7).toList ([U,x1,X,x3,a,Y,V,W,Z,x9,c,d,f,g,i,k,l,m,n,o,p,q,r,s,t,u,w,x,y,z,A,B,C,D,E,F,G,H,I,J,K,L,M,N,P,Q]) S =
  (zI (yg Try.prog 46 [] S) (fun v0 R=>zI (wM Try.prog 46 X (dem v0) R) (fun b S2=>some ([U,x1,X,Value.int IntKind.i64 71,a,Y,V,W,Z,x9,c,d,f,g,i,k,l,m,n,o,p,q,r,s,t,u,w,x,y,z,A,B,C,D,E,F,G,H,I,J,K,L,M,N,v0,Q],S2)) ()) ()):=by
 kernel_rfl
theorem jJ.r8 :jw Try.prog ⟨false,false,false⟩ (zW Try.prog O) (reg Try.f57 8) (reg Try.f57 8).toList ([U,x1,X,x3,a,Y,V,W,Z,x9,c,d,f,g,i,k,l,m,n,o,p,q,r,s,t,u,w,x,y,z,A,B,C,D,E,F,G,H,I,J,K,L,M,N,P,Q]) S =
  (zI (jf Try.prog false 46 Z S) (fun v0 R=>zI (wM Try.prog 46 X (dem v0) R) (fun b S2=>some ([U,x1,X,Value.int IntKind.i64 0,a,Y,V,W,Z,x9,c,d,f,g,i,k,l,m,n,o,p,q,r,s,t,u,w,x,y,z,A,B,C,D,E,F,G,H,I,J,K,L,M,N,P,v0],S2)) ()) ()):=by
 kernel_rfl
theorem jJ.rs:type_of% (ak5 @jJ.r0 (ak5 @jJ.r1 (ak5 @jJ.r2 (ak5 @jJ.r3 (ak5 @jJ.r4 (ak5 @jJ.r5 (ak5 @jJ.r6 (ak5 @jJ.r7 (@jJ.r8))))))))):=ak5 @jJ.r0 (ak5 @jJ.r1 (ak5 @jJ.r2 (ak5 @jJ.r3 (ak5 @jJ.r4 (ak5 @jJ.r5 (ak5 @jJ.r6 (ak5 @jJ.r7 (@jJ.r8))))))))
theorem jJ.runs {U:Value} {S R:zn} {e:AEx} {T:List Value} (h:zG Try.prog O false jJ.code ([U,zh,zh,zh,zh,zh,zh,zh,zh,zh,zh,zh,zh,zh,zh,zh,zh,zh,zh,zh,zh,zh,zh,zh,zh,zh,zh,zh,zh,zh,zh,zh,zh,zh,zh,zh,zh,zh,zh,zh,zh,zh,zh,zh,zh,zh]) zn.empty=some (e,T,R)) (he:e=.normal∨e=.ret) {w0:Value} (c0:jf Try.prog false 46 (T.getD 2 zh) R=some (w0,R)) (h0:wu (w0)=true) (h1:wu (T.getD 3 zh)=true) (hca:[U].all (jP 16)=true) (hcv:jP 16 (Value.tuple #[w0,T.getD 3 zh])=true):zW Try.prog O 57 [U] S=some (Value.tuple #[w0,T.getD 3 zh],S) :=
 yu rfl rfl Try.func57 (by decide) jJ.body (by exact h) he ((yY ((show zK Try.prog T R Try.f57.results.toList=zK Try.prog T R [(ResultVar.cell 2 46),(ResultVar.tmp 3)] from by kernel_rfl).trans (by simp only [zK,c0])) (by kernel_rfl) (by simp only [List.all_cons,List.all_nil,h0,h1,Bool.and_true])).trans rfl) hca hcv
end Go.Proofs.Ytfjogganfjkckaa
namespace Go.Proofs.Ytfjogganfjkckaa
open Go.Abs
abbrev zN.id:FuncId:=31
noncomputable def zN.code:Code:=(Code.seq (Code.region 0 (reg Try.f31 0) false) (Code.seq (Code.region 1 (reg Try.f31 1) false) (Code.seq (Code.seq (Code.region 2 (reg Try.f31 2) false) (Code.cond (Operand.tmp 17) (Code.seq (Code.region 3 (reg Try.f31 3) false) Code.ret) Code.skip)) (Code.seq (Code.region 4 (reg Try.f31 4) false) (Code.seq (Code.region 5 (reg Try.f31 5) true) (Code.seq (Code.seq (Code.region 6 (reg Try.f31 6) false) (Code.cond (Operand.tmp 44) (Code.seq (Code.region 7 (reg Try.f31 7) false) Code.ret) Code.skip)) (Code.seq (Code.region 8 (reg Try.f31 8) false) Code.ret)))))))
theorem zN.body:Try.f31.body=some zN.code:=by kernel_rfl
variable (V x1 X x3 a Z x6 W Y x9 c d f g i k l m n o p q r s t u w x y z A B C D E F G H I J K L M N P Q R:Value) (S:zn)
theorem zN.r0 :jw Try.prog ⟨false,false,false⟩ (zW Try.prog O) (reg Try.f31 0) (reg Try.f31 0).toList ([V,x1,X,x3,a,Z,x6,W,Y,x9,c,d,f,g,i,k,l,m,n,o,p,q,r,s,t,u,w,x,y,z,A,B,C,D,E,F,G,H,I,J,K,L,M,N,P,Q,R]) S =
  (zI (yG Try.prog 46 S) (fun v0 U=>some ([V,x1,v0,Value.int IntKind.i64 0,a,Z,x6,W,Y,x9,c,d,f,g,i,k,l,m,n,o,p,q,r,s,t,u,w,x,y,z,A,B,C,D,E,F,G,H,I,J,K,L,M,N,P,Q,R],U)) ()):=by
 kernel_rfl
theorem zN.r1 :jw Try.prog ⟨false,false,false⟩ (zW Try.prog O) (reg Try.f31 1) (reg Try.f31 1).toList ([V,x1,X,x3,a,Z,x6,W,Y,x9,c,d,f,g,i,k,l,m,n,o,p,q,r,s,t,u,w,x,y,z,A,B,C,D,E,F,G,H,I,J,K,L,M,N,P,Q,R]) S =
  (zI ((zW Try.prog O) 29 [(dem (dem V)),(Value.int IntKind.i64 4)] S) (fun b U=>zI (zU b 0 U) (fun v3 S2=>zI (zU (zO 0 b) 1 S2) (fun v4 S3=>zI (zU (zO 1 (zO 0 b)) 2 S3) (fun v5 S4=>some ([V,x1,X,x3,v3,v4,v5,W,Y,x9,zO 2 (zO 1 (zO 0 b)),dem V,dem b,dem v3,dem v4,dem v5,l,m,n,o,p,q,r,s,t,u,w,x,y,z,A,B,C,D,E,F,G,H,I,J,K,L,M,N,P,Q,R],S4)) ()) ()) ()) ()):=by
 kernel_rfl
theorem zN.r2 :jw Try.prog ⟨false,false,false⟩ (zW Try.prog O) (reg Try.f31 2) (reg Try.f31 2).toList ([V,x1,X,x3,a,Z,x6,W,Y,x9,c,d,f,g,i,k,l,m,n,o,p,q,r,s,t,u,w,x,y,z,A,B,C,D,E,F,G,H,I,J,K,L,M,N,P,Q,R]) S =
  (zI (wB Try.prog BinOp.neq 3 (dem x6) (Value.int IntKind.i64 0) S) (fun b U=>some ([V,x1,X,x3,a,Z,x6,W,Y,x9,c,d,f,g,i,k,dem x6,b,n,o,p,q,r,s,t,u,w,x,y,z,A,B,C,D,E,F,G,H,I,J,K,L,M,N,P,Q,R],U)) ()):=by
 kernel_rfl
theorem zN.r3 :jw Try.prog ⟨false,false,false⟩ (zW Try.prog O) (reg Try.f31 3) (reg Try.f31 3).toList ([V,x1,X,x3,a,Z,x6,W,Y,x9,c,d,f,g,i,k,l,m,n,o,p,q,r,s,t,u,w,x,y,z,A,B,C,D,E,F,G,H,I,J,K,L,M,N,P,Q,R]) S =
  (zI (yg Try.prog 46 [] S) (fun v0 U=>zI (wM Try.prog 46 X (dem v0) U) (fun b S2=>some ([V,x1,X,Value.int IntKind.i64 71,a,Z,x6,W,Y,x9,c,d,f,g,i,k,l,m,v0,o,p,q,r,s,t,u,w,x,y,z,A,B,C,D,E,F,G,H,I,J,K,L,M,N,P,Q,R],S2)) ()) ()):=by
 kernel_rfl
theorem zN.r4 :jw Try.prog ⟨false,false,false⟩ (zW Try.prog O) (reg Try.f31 4) (reg Try.f31 4).toList ([V,x1,X,x3,a,Z,x6,W,Y,x9,c,d,f,g,i,k,l,m,n,o,p,q,r,s,t,u,w,x,y,z,A,B,C,D,E,F,G,H,I,J,K,L,M,N,P,Q,R]) S =
  (zI ((zW Try.prog O) 49 [(dem (dem Z))] S) (fun b U=>zI (zU b 0 U) (fun v3 S2=>zI (zU (zO 0 b) 1 S2) (fun v4 S3=>some ([V,x1,X,x3,a,Z,x6,v3,v4,x9,c,d,f,g,i,k,l,m,n,zO 1 (zO 0 b),dem Z,dem b,dem v3,dem v4,t,u,w,x,y,z,A,B,C,D,E,F,G,H,I,J,K,L,M,N,P,Q,R],S3)) ()) ()) ()):=by
 kernel_rfl
theorem zN.d5:qW Try.prog (reg Try.f31 5)=true:=by kernel_rfl
theorem zN.ff5:fixed Try.prog (reg Try.f31 5)=false:=by kernel_rfl
theorem zN.k5:checked Try.prog (reg Try.f31 5)=[0,1,2,3,4,5,6,7,8,9,10,11,12,13]:=by kernel_rfl
theorem zN.g5:again Try.prog (reg Try.f31 5)=[(2,14),(5,14),(8,14),(11,14)]:=by kernel_rfl
theorem zN.r5 :zG Try.prog O false (.region 5 (reg Try.f31 5) true) ([V,x1,X,x3,a,Z,x6,W,Y,x9,c,d,f,g,i,k,l,m,n,o,p,q,r,s,t,u,w,x,y,z,A,B,C,D,E,F,G,H,I,J,K,L,M,N,P,Q,R]) S =
  Jb (okK a ( zI (jo Try.prog 24 (dem a) (Value.int IntKind.i64 0) S) (fun b U=>okK b ( zI (jf Try.prog false 3 b U) (fun v2 S2=>okK v2 ( okK a ( zI (jo Try.prog 24 (dem a) (Value.int IntKind.i64 1) S2) (fun v4 S3=>okK v4 ( zI (jf Try.prog false 3 v4 S3) (fun v5 S4=>okK v5 ( okK a ( zI (jo Try.prog 24 (dem a) (Value.int IntKind.i64 2) S4) (fun v7 S5=>okK v7 ( zI (jf Try.prog false 3 v7 S5) (fun v8 S6=>okK v8 ( okK a ( zI (jo Try.prog 24 (dem a) (Value.int IntKind.i64 3) S6) (fun a0 S7=>okK a0 ( zI (jf Try.prog false 3 a0 S7) (fun a2 S8=>okK a2 ( okK W ( zI (yg Try.prog 46 [(0,(dem v2)),(1,(dem v5)),(2,(dem v8)),(3,(dem a2)),(4,(dem (dem W)))] S8) (fun a3 S9=>okK a3 ( zI (yG Try.prog 46 S9) (fun a4 a1=>zI (wM Try.prog 46 a4 (dem a3) a1) (fun a6 a5=>ckK (qK b U a1 && (qK v4 S3 a1 && (qK v7 S5 a1 && (qK a0 S7 a1 && (true))))) (some ([V,x1,X,x3,a,Z,x6,W,Y,a4,c,d,f,g,i,k,l,m,n,o,p,q,r,s,dem a,b,v2,dem a,v4,v5,dem a,v7,v8,dem a,a0,a2,dem W,a3,I,J,K,L,M,N,P,Q,R],a5)) ()) ()) ()) ()) ()) ()) ()) ()) ()) ()) ()) ()) ()) ()) ()) ()) ()) ()) ()) ()) ()) ()) ()) ()) ()) ()):=by
 rw [yF zN.d5 zN.ff5 zN.k5 zN.g5]
 refine congrArg Jb ?_
 refine uPC Try.f31 5 0 (v:=a) (pe:=zh) ?_
 refine uDC Try.f31 5 1 (pe:=zh) (fun b U=>?_)
 refine uDC Try.f31 5 2 (pe:=b) (fun v2 S2=>?_)
 refine uPC Try.f31 5 3 (v:=a) (pe:=zh) ?_
 refine uDC Try.f31 5 4 (pe:=zh) (fun v4 S3=>?_)
 refine uDC Try.f31 5 5 (pe:=v4) (fun v5 S4=>?_)
 refine uPC Try.f31 5 6 (v:=a) (pe:=zh) ?_
 refine uDC Try.f31 5 7 (pe:=zh) (fun v7 S5=>?_)
 refine uDC Try.f31 5 8 (pe:=v7) (fun v8 S6=>?_)
 refine uPC Try.f31 5 9 (v:=a) (pe:=zh) ?_
 refine uDC Try.f31 5 10 (pe:=zh) (fun a0 S7=>?_)
 refine uDC Try.f31 5 11 (pe:=a0) (fun a2 S8=>?_)
 refine uPC Try.f31 5 12 (v:=W) (pe:=zh) ?_
 refine uDC Try.f31 5 13 (pe:=zh) (fun a3 S9=>?_)
 refine uD Try.f31 5 14 (pe:=zh) (fun a4 a1=>?_)
 refine uD Try.f31 5 15 (pe:=zh) (fun a6 a5=>?_)
 kernel_rfl
theorem zN.r6 :jw Try.prog ⟨false,false,false⟩ (zW Try.prog O) (reg Try.f31 6) (reg Try.f31 6).toList ([V,x1,X,x3,a,Z,x6,W,Y,x9,c,d,f,g,i,k,l,m,n,o,p,q,r,s,t,u,w,x,y,z,A,B,C,D,E,F,G,H,I,J,K,L,M,N,P,Q,R]) S =
  (zI (wB Try.prog BinOp.neq 3 (dem Y) (Value.int IntKind.i64 0) S) (fun b U=>gdK (dem b) false (jf Try.prog false 46 x9) U (fun v3 S2=>gdK (dem b) false ((zW Try.prog O) 32 [(dem v3)]) S2 (fun v4 S3=>gdK (dem b) false (aUn Try.prog UnOp.not v4) S3 (fun v5 S4=>zI (wR (dem b) (Value.bool true) v5 S4) (fun v6 S5=>some ([V,x1,X,x3,a,Z,x6,W,Y,x9,c,d,f,g,i,k,l,m,n,o,p,q,r,s,t,u,w,x,y,z,A,B,C,D,E,F,G,H,dem Y,b,dem b,v3,v4,v5,v6,Q,R],S5)) ()) ()) ()) ()) ()):=by
 refine sP Try.f31 6 0 (v:=Y) ?_
 refine sD Try.f31 6 1 (fun b U=>?_)
 refine sP Try.f31 6 2 (v:=b) ?_
 refine sG Try.f31 6 3 (j:=2) (fun v3 S2=>?_)
 refine sG Try.f31 6 4 (j:=2) (fun v4 S3=>?_)
 refine sG Try.f31 6 5 (j:=2) (fun v5 S4=>?_)
 refine sD Try.f31 6 6 (fun v6 S5=>?_)
 kernel_rfl
theorem zN.r7 :jw Try.prog ⟨false,false,false⟩ (zW Try.prog O) (reg Try.f31 7) (reg Try.f31 7).toList ([V,x1,X,x3,a,Z,x6,W,Y,x9,c,d,f,g,i,k,l,m,n,o,p,q,r,s,t,u,w,x,y,z,A,B,C,D,E,F,G,H,I,J,K,L,M,N,P,Q,R]) S =
  (zI (yg Try.prog 46 [] S) (fun v0 U=>zI (wM Try.prog 46 X (dem v0) U) (fun b S2=>some ([V,x1,X,Value.int IntKind.i64 71,a,Z,x6,W,Y,x9,c,d,f,g,i,k,l,m,n,o,p,q,r,s,t,u,w,x,y,z,A,B,C,D,E,F,G,H,I,J,K,L,M,N,P,v0,R],S2)) ()) ()):=by
 kernel_rfl
theorem zN.r8 :jw Try.prog ⟨false,false,false⟩ (zW Try.prog O) (reg Try.f31 8) (reg Try.f31 8).toList ([V,x1,X,x3,a,Z,x6,W,Y,x9,c,d,f,g,i,k,l,m,n,o,p,q,r,s,t,u,w,x,y,z,A,B,C,D,E,F,G,H,I,J,K,L,M,N,P,Q,R]) S =
  (zI (jf Try.prog false 46 x9 S) (fun v0 U=>zI (wM Try.prog 46 X (dem v0) U) (fun b S2=>some ([V,x1,X,Value.int IntKind.i64 0,a,Z,x6,W,Y,x9,c,d,f,g,i,k,l,m,n,o,p,q,r,s,t,u,w,x,y,z,A,B,C,D,E,F,G,H,I,J,K,L,M,N,P,Q,v0],S2)) ()) ()):=by
 kernel_rfl
theorem zN.rs:type_of% (ak5 @zN.r0 (ak5 @zN.r1 (ak5 @zN.r2 (ak5 @zN.r3 (ak5 @zN.r4 (ak5 @zN.r5 (ak5 @zN.r6 (ak5 @zN.r7 (@zN.r8))))))))):=ak5 @zN.r0 (ak5 @zN.r1 (ak5 @zN.r2 (ak5 @zN.r3 (ak5 @zN.r4 (ak5 @zN.r5 (ak5 @zN.r6 (ak5 @zN.r7 (@zN.r8))))))))
theorem zN.runs {V:Value} {S U:zn} {e:AEx} {T:List Value} (h:zG Try.prog O false zN.code ([V,zh,zh,zh,zh,zh,zh,zh,zh,zh,zh,zh,zh,zh,zh,zh,zh,zh,zh,zh,zh,zh,zh,zh,zh,zh,zh,zh,zh,zh,zh,zh,zh,zh,zh,zh,zh,zh,zh,zh,zh,zh,zh,zh,zh,zh,zh]) zn.empty=some (e,T,U)) (he:e=.normal∨e=.ret) {w0:Value} (c0:jf Try.prog false 46 (T.getD 2 zh) U=some (w0,U)) (h0:wu (w0)=true) (h1:wu (T.getD 3 zh)=true) (hca:[V].all (jP 16)=true) (hcv:jP 16 (Value.tuple #[w0,T.getD 3 zh])=true):zW Try.prog O 31 [V] S=some (Value.tuple #[w0,T.getD 3 zh],S) :=
 yu rfl rfl Try.func31 (by decide) zN.body (by exact h) he ((yY ((show zK Try.prog T U Try.f31.results.toList=zK Try.prog T U [(ResultVar.cell 2 46),(ResultVar.tmp 3)] from by kernel_rfl).trans (by simp only [zK,c0])) (by kernel_rfl) (by simp only [List.all_cons,List.all_nil,h0,h1,Bool.and_true])).trans rfl) hca hcv
end Go.Proofs.Ytfjogganfjkckaa
namespace Go.Proofs.Ytfjogganfjkckaa
open Go.Abs
abbrev wQ.id:FuncId:=73
noncomputable def wQ.code:Code:=(Code.seq (Code.region 0 (reg Try.f73 0) false) (Code.seq (Code.region 1 (reg Try.f73 1) false) Code.ret))
theorem wQ.body:Try.f73.body=some wQ.code:=by kernel_rfl
variable (g i k l x4 x5 x6 x7 x8 x9 o p q r s t u w x y z A B C D E F G H I J K L M N P Q R:Value) (S:zn)
theorem wQ.r0 :jw Try.prog ⟨false,false,false⟩ (zW Try.prog O) (reg Try.f73 0) (reg Try.f73 0).toList ([g,i,k,l,x4,x5,x6,x7,x8,x9,o,p,q,r,s,t,u,w,x,y,z,A,B,C,D,E,F,G,H,I,J,K,L,M,N,P,Q,R]) S =
  (zI (JJ (dem g) S) (fun U m=>zI (JJ (dem i) m) (fun V S2=>some ([g,i,U,V,Value.bool false,x5,x6,x7,x8,x9,o,p,q,r,s,t,u,w,x,y,z,A,B,C,D,E,F,G,H,I,J,K,L,M,N,P,Q,R],S2)) ()) ()):=by
 kernel_rfl
theorem wQ.r1 :jw Try.prog ⟨false,false,false⟩ (zW Try.prog O) (reg Try.f73 1) (reg Try.f73 1).toList ([g,i,k,l,x4,x5,x6,x7,x8,x9,o,p,q,r,s,t,u,w,x,y,z,A,B,C,D,E,F,G,H,I,J,K,L,M,N,P,Q,R]) S =
  (zI (zA Try.prog 46 k 0 S) (fun U m=>zI (jf Try.prog false 3 U m) (fun V S2=>zI (zA Try.prog 46 l 0 S2) (fun v2 S3=>zI (jf Try.prog false 3 v2 S3) (fun v3 S4=>zI (wB Try.prog BinOp.eql 3 V v3 S4) (fun f S5=>gdK (dem f) true (zA Try.prog 46 k 1) S5 (fun v6 S6=>gdK (dem f) true (jf Try.prog false 3 v6) S6 (fun v7 S7=>gdK (dem f) true (zA Try.prog 46 l 1) S7 (fun v8 S8=>gdK (dem f) true (jf Try.prog false 3 v8) S8 (fun v9 S9=>gdK (dem f) true (wB Try.prog BinOp.eql 3 v7 v9) S9 (fun W b2=>zI (wR (dem f) W (Value.bool false) b2) (fun b b3=>gdK (dem b) true (zA Try.prog 46 k 2) b3 (fun X b4=>gdK (dem b) true (jf Try.prog false 3 X) b4 (fun Y b5=>gdK (dem b) true (zA Try.prog 46 l 2) b5 (fun Z b6=>gdK (dem b) true (jf Try.prog false 3 Z) b6 (fun a0 b7=>gdK (dem b) true (wB Try.prog BinOp.eql 3 Y a0) b7 (fun a1 b8=>zI (wR (dem b) a1 (Value.bool false) b8) (fun c b9=>gdK (dem c) true (zA Try.prog 46 k 3) b9 (fun a2 c0=>gdK (dem c) true (jf Try.prog false 3 a2) c0 (fun a3 c1=>gdK (dem c) true (zA Try.prog 46 l 3) c1 (fun a4 c2=>gdK (dem c) true (jf Try.prog false 3 a4) c2 (fun a5 c3=>gdK (dem c) true (wB Try.prog BinOp.eql 3 a3 a5) c3 (fun a6 c4=>zI (wR (dem c) a6 (Value.bool false) c4) (fun d c5=>gdK (dem d) true (zA Try.prog 46 k 4) c5 (fun a7 c6=>gdK (dem d) true (jf Try.prog false 44 a7) c6 (fun a8 c7=>gdK (dem d) true (zA Try.prog 46 l 4) c7 (fun a9 c8=>gdK (dem d) true (jf Try.prog false 44 a9) c8 (fun b0 c9=>gdK (dem d) true ((zW Try.prog O) 75 [(dem a8),(dem b0)]) c9 (fun b1 d0=>zI (wR (dem d) b1 (Value.bool false) d0) (fun n d1=>some ([g,i,k,l,n,U,V,v2,v3,f,dem f,v6,v7,v8,v9,W,b,dem b,X,Y,Z,a0,a1,c,dem c,a2,a3,a4,a5,a6,d,dem d,a7,a8,a9,b0,b1,dem n],d1)) ()) ()) ()) ()) ()) ()) ()) ()) ()) ()) ()) ()) ()) ()) ()) ()) ()) ()) ()) ()) ()) ()) ()) ()) ()) ()) ()) ()) ()):=by
 refine sD Try.f73 1 0 (fun U m=>?_)
 refine sD Try.f73 1 1 (fun V S2=>?_)
 refine sD Try.f73 1 2 (fun v2 S3=>?_)
 refine sD Try.f73 1 3 (fun v3 S4=>?_)
 refine sD Try.f73 1 4 (fun f S5=>?_)
 refine sP Try.f73 1 5 (v:=f) ?_
 refine sG Try.f73 1 6 (j:=5) (fun v6 S6=>?_)
 refine sG Try.f73 1 7 (j:=5) (fun v7 S7=>?_)
 refine sG Try.f73 1 8 (j:=5) (fun v8 S8=>?_)
 refine sG Try.f73 1 9 (j:=5) (fun v9 S9=>?_)
 refine sG Try.f73 1 10 (j:=5) (fun W b2=>?_)
 refine sD Try.f73 1 11 (fun b b3=>?_)
 refine sP Try.f73 1 12 (v:=b) ?_
 refine sG Try.f73 1 13 (j:=12) (fun X b4=>?_)
 refine sG Try.f73 1 14 (j:=12) (fun Y b5=>?_)
 refine sG Try.f73 1 15 (j:=12) (fun Z b6=>?_)
 refine sG Try.f73 1 16 (j:=12) (fun a0 b7=>?_)
 refine sG Try.f73 1 17 (j:=12) (fun a1 b8=>?_)
 refine sD Try.f73 1 18 (fun c b9=>?_)
 refine sP Try.f73 1 19 (v:=c) ?_
 refine sG Try.f73 1 20 (j:=19) (fun a2 c0=>?_)
 refine sG Try.f73 1 21 (j:=19) (fun a3 c1=>?_)
 refine sG Try.f73 1 22 (j:=19) (fun a4 c2=>?_)
 refine sG Try.f73 1 23 (j:=19) (fun a5 c3=>?_)
 refine sG Try.f73 1 24 (j:=19) (fun a6 c4=>?_)
 refine sD Try.f73 1 25 (fun d c5=>?_)
 refine sP Try.f73 1 26 (v:=d) ?_
 refine sG Try.f73 1 27 (j:=26) (fun a7 c6=>?_)
 refine sG Try.f73 1 28 (j:=26) (fun a8 c7=>?_)
 refine sG Try.f73 1 29 (j:=26) (fun a9 c8=>?_)
 refine sG Try.f73 1 30 (j:=26) (fun b0 c9=>?_)
 refine sG Try.f73 1 31 (j:=26) (fun b1 d0=>?_)
 refine sD Try.f73 1 32 (fun n d1=>?_)
 refine sP Try.f73 1 33 (v:=n) ?_
 kernel_rfl
theorem wQ.rs:type_of% (ak5 @wQ.r0 (@wQ.r1)):=ak5 @wQ.r0 (@wQ.r1)
theorem wQ.runs {g i:Value} {S m:zn} {e:AEx} {T:List Value} (h:zG Try.prog O false wQ.code ([g,i,zh,zh,zh,zh,zh,zh,zh,zh,zh,zh,zh,zh,zh,zh,zh,zh,zh,zh,zh,zh,zh,zh,zh,zh,zh,zh,zh,zh,zh,zh,zh,zh,zh,zh,zh,zh]) zn.empty=some (e,T,m)) (he:e=.normal∨e=.ret) (hca:[g,i].all (jP 16)=true) (hcv:jP 16 (T.getD 4 zh)=true):zW Try.prog O 73 [g,i] S=some (T.getD 4 zh,S) :=
 yu rfl rfl Try.func73 (by decide) wQ.body (by exact h) he (yA (a:=T.getD 4 zh) ((show zK Try.prog T m Try.f73.results.toList=zK Try.prog T m [(ResultVar.tmp 4)] from by kernel_rfl).trans (by simp only [zK])) (by kernel_rfl)) hca hcv
end Go.Proofs.Ytfjogganfjkckaa
namespace Go.Proofs.Ytfjogganfjkckaa
open Go.Abs
abbrev jA.id:FuncId:=18
noncomputable def jA.code:Code:=(Code.seq (Code.region 0 (reg Try.f18 0) false) (Code.seq (Code.region 1 (reg Try.f18 1) false) Code.ret))
theorem jA.body:Try.f18.body=some jA.code:=by kernel_rfl
variable (g i k l x4 x5 x6 x7 x8 x9 o p q r s t u w x y z A B C D E F G H I J K L M N P Q R:Value) (S:zn)
theorem jA.r0 :jw Try.prog ⟨false,false,false⟩ (zW Try.prog O) (reg Try.f18 0) (reg Try.f18 0).toList ([g,i,k,l,x4,x5,x6,x7,x8,x9,o,p,q,r,s,t,u,w,x,y,z,A,B,C,D,E,F,G,H,I,J,K,L,M,N,P,Q,R]) S =
  (zI (JJ (dem g) S) (fun U m=>zI (JJ (dem i) m) (fun V S2=>some ([g,i,U,V,Value.bool false,x5,x6,x7,x8,x9,o,p,q,r,s,t,u,w,x,y,z,A,B,C,D,E,F,G,H,I,J,K,L,M,N,P,Q,R],S2)) ()) ()):=by
 kernel_rfl
theorem jA.r1 :jw Try.prog ⟨false,false,false⟩ (zW Try.prog O) (reg Try.f18 1) (reg Try.f18 1).toList ([g,i,k,l,x4,x5,x6,x7,x8,x9,o,p,q,r,s,t,u,w,x,y,z,A,B,C,D,E,F,G,H,I,J,K,L,M,N,P,Q,R]) S =
  (zI (zA Try.prog 46 k 0 S) (fun U m=>zI (jf Try.prog false 3 U m) (fun V S2=>zI (zA Try.prog 46 l 0 S2) (fun v2 S3=>zI (jf Try.prog false 3 v2 S3) (fun v3 S4=>zI (wB Try.prog BinOp.eql 3 V v3 S4) (fun f S5=>gdK (dem f) true (zA Try.prog 46 k 1) S5 (fun v6 S6=>gdK (dem f) true (jf Try.prog false 3 v6) S6 (fun v7 S7=>gdK (dem f) true (zA Try.prog 46 l 1) S7 (fun v8 S8=>gdK (dem f) true (jf Try.prog false 3 v8) S8 (fun v9 S9=>gdK (dem f) true (wB Try.prog BinOp.eql 3 v7 v9) S9 (fun W b2=>zI (wR (dem f) W (Value.bool false) b2) (fun b b3=>gdK (dem b) true (zA Try.prog 46 k 2) b3 (fun X b4=>gdK (dem b) true (jf Try.prog false 3 X) b4 (fun Y b5=>gdK (dem b) true (zA Try.prog 46 l 2) b5 (fun Z b6=>gdK (dem b) true (jf Try.prog false 3 Z) b6 (fun a0 b7=>gdK (dem b) true (wB Try.prog BinOp.eql 3 Y a0) b7 (fun a1 b8=>zI (wR (dem b) a1 (Value.bool false) b8) (fun c b9=>gdK (dem c) true (zA Try.prog 46 k 3) b9 (fun a2 c0=>gdK (dem c) true (jf Try.prog false 3 a2) c0 (fun a3 c1=>gdK (dem c) true (zA Try.prog 46 l 3) c1 (fun a4 c2=>gdK (dem c) true (jf Try.prog false 3 a4) c2 (fun a5 c3=>gdK (dem c) true (wB Try.prog BinOp.eql 3 a3 a5) c3 (fun a6 c4=>zI (wR (dem c) a6 (Value.bool false) c4) (fun d c5=>gdK (dem d) true (zA Try.prog 46 k 4) c5 (fun a7 c6=>gdK (dem d) true (jf Try.prog false 44 a7) c6 (fun a8 c7=>gdK (dem d) true (zA Try.prog 46 l 4) c7 (fun a9 c8=>gdK (dem d) true (jf Try.prog false 44 a9) c8 (fun b0 c9=>gdK (dem d) true ((zW Try.prog O) 33 [(dem a8),(dem b0)]) c9 (fun b1 d0=>zI (wR (dem d) b1 (Value.bool false) d0) (fun n d1=>some ([g,i,k,l,n,U,V,v2,v3,f,dem f,v6,v7,v8,v9,W,b,dem b,X,Y,Z,a0,a1,c,dem c,a2,a3,a4,a5,a6,d,dem d,a7,a8,a9,b0,b1,dem n],d1)) ()) ()) ()) ()) ()) ()) ()) ()) ()) ()) ()) ()) ()) ()) ()) ()) ()) ()) ()) ()) ()) ()) ()) ()) ()) ()) ()) ()) ()):=by
 refine sD Try.f18 1 0 (fun U m=>?_)
 refine sD Try.f18 1 1 (fun V S2=>?_)
 refine sD Try.f18 1 2 (fun v2 S3=>?_)
 refine sD Try.f18 1 3 (fun v3 S4=>?_)
 refine sD Try.f18 1 4 (fun f S5=>?_)
 refine sP Try.f18 1 5 (v:=f) ?_
 refine sG Try.f18 1 6 (j:=5) (fun v6 S6=>?_)
 refine sG Try.f18 1 7 (j:=5) (fun v7 S7=>?_)
 refine sG Try.f18 1 8 (j:=5) (fun v8 S8=>?_)
 refine sG Try.f18 1 9 (j:=5) (fun v9 S9=>?_)
 refine sG Try.f18 1 10 (j:=5) (fun W b2=>?_)
 refine sD Try.f18 1 11 (fun b b3=>?_)
 refine sP Try.f18 1 12 (v:=b) ?_
 refine sG Try.f18 1 13 (j:=12) (fun X b4=>?_)
 refine sG Try.f18 1 14 (j:=12) (fun Y b5=>?_)
 refine sG Try.f18 1 15 (j:=12) (fun Z b6=>?_)
 refine sG Try.f18 1 16 (j:=12) (fun a0 b7=>?_)
 refine sG Try.f18 1 17 (j:=12) (fun a1 b8=>?_)
 refine sD Try.f18 1 18 (fun c b9=>?_)
 refine sP Try.f18 1 19 (v:=c) ?_
 refine sG Try.f18 1 20 (j:=19) (fun a2 c0=>?_)
 refine sG Try.f18 1 21 (j:=19) (fun a3 c1=>?_)
 refine sG Try.f18 1 22 (j:=19) (fun a4 c2=>?_)
 refine sG Try.f18 1 23 (j:=19) (fun a5 c3=>?_)
 refine sG Try.f18 1 24 (j:=19) (fun a6 c4=>?_)
 refine sD Try.f18 1 25 (fun d c5=>?_)
 refine sP Try.f18 1 26 (v:=d) ?_
 refine sG Try.f18 1 27 (j:=26) (fun a7 c6=>?_)
 refine sG Try.f18 1 28 (j:=26) (fun a8 c7=>?_)
 refine sG Try.f18 1 29 (j:=26) (fun a9 c8=>?_)
 refine sG Try.f18 1 30 (j:=26) (fun b0 c9=>?_)
 refine sG Try.f18 1 31 (j:=26) (fun b1 d0=>?_)
 refine sD Try.f18 1 32 (fun n d1=>?_)
 refine sP Try.f18 1 33 (v:=n) ?_
 kernel_rfl
theorem jA.rs:type_of% (ak5 @jA.r0 (@jA.r1)):=ak5 @jA.r0 (@jA.r1)
theorem jA.runs {g i:Value} {S m:zn} {e:AEx} {T:List Value} (h:zG Try.prog O false jA.code ([g,i,zh,zh,zh,zh,zh,zh,zh,zh,zh,zh,zh,zh,zh,zh,zh,zh,zh,zh,zh,zh,zh,zh,zh,zh,zh,zh,zh,zh,zh,zh,zh,zh,zh,zh,zh,zh]) zn.empty=some (e,T,m)) (he:e=.normal∨e=.ret) (hca:[g,i].all (jP 16)=true) (hcv:jP 16 (T.getD 4 zh)=true):zW Try.prog O 18 [g,i] S=some (T.getD 4 zh,S) :=
 yu rfl rfl Try.func18 (by decide) jA.body (by exact h) he (yA (a:=T.getD 4 zh) ((show zK Try.prog T m Try.f18.results.toList=zK Try.prog T m [(ResultVar.tmp 4)] from by kernel_rfl).trans (by simp only [zK])) (by kernel_rfl)) hca hcv
end Go.Proofs.Ytfjogganfjkckaa
namespace Go.Proofs.Ytfjogganfjkckaa
open Go.Abs
abbrev wG.id:FuncId:=46
noncomputable def wG.code:Code:=(Code.seq (Code.region 0 (reg Try.f46 0) false) (Code.seq (Code.seq (Code.region 1 (reg Try.f46 1) false) (Code.cond (Operand.tmp 10) (Code.seq (Code.region 2 (reg Try.f46 2) false) Code.ret) Code.skip)) (Code.seq (Code.region 3 (reg Try.f46 3) false) (Code.seq (Code.region 4 (reg Try.f46 4) false) (Code.seq (Code.region 5 (reg Try.f46 5) false) Code.ret)))))
theorem wG.body:Try.f46.body=some wG.code:=by kernel_rfl
variable (a b K L B F C G H I c d f g i j k l m n o p q r s t u v w x y z A:Value) (S:zn)
theorem wG.r0 :jw Try.prog ⟨false,false,false⟩ (zW Try.prog O) (reg Try.f46 0) (reg Try.f46 0).toList ([a,b,K,L,B,F,C,G,H,I,c,d,f,g,i,j,k,l,m,n,o,p,q,r,s,t,u,v,w,x,y,z,A]) S =
  (zI (JJ (dem a) S) (fun J D=>some ([a,J,Value.slice none 0 0,Value.int IntKind.i64 0,B,F,C,G,H,I,c,d,f,g,i,j,k,l,m,n,o,p,q,r,s,t,u,v,w,x,y,z,A],D)) ()):=by
 kernel_rfl
theorem wG.r1 :jw Try.prog ⟨false,false,false⟩ (zW Try.prog O) (reg Try.f46 1) (reg Try.f46 1).toList ([a,b,K,L,B,F,C,G,H,I,c,d,f,g,i,j,k,l,m,n,o,p,q,r,s,t,u,v,w,x,y,z,A]) S =
  (zI (jf Try.prog false 46 b S) (fun J D=>zI ((zW Try.prog O) 45 [(dem J)] D) (fun M N=>zI (aUn Try.prog UnOp.not M N) (fun E P=>some ([a,b,K,L,B,F,C,G,J,M,E,d,f,g,i,j,k,l,m,n,o,p,q,r,s,t,u,v,w,x,y,z,A],P)) ()) ()) ()):=by
 kernel_rfl
theorem wG.r2 :jw Try.prog ⟨false,false,false⟩ (zW Try.prog O) (reg Try.f46 2) (reg Try.f46 2).toList ([a,b,K,L,B,F,C,G,H,I,c,d,f,g,i,j,k,l,m,n,o,p,q,r,s,t,u,v,w,x,y,z,A]) S =
  ( some ([a,b,Value.slice none 0 0,Value.int IntKind.i64 71,B,F,C,G,H,I,c,d,f,g,i,j,k,l,m,n,o,p,q,r,s,t,u,v,w,x,y,z,A],S)):=by
 kernel_rfl
theorem wG.r3 :jw Try.prog ⟨false,false,false⟩ (zW Try.prog O) (reg Try.f46 3) (reg Try.f46 3).toList ([a,b,K,L,B,F,C,G,H,I,c,d,f,g,i,j,k,l,m,n,o,p,q,r,s,t,u,v,w,x,y,z,A]) S =
  (zI (zA Try.prog 46 b 0 S) (fun J D=>zI (jf Try.prog false 3 J D) (fun M N=>zI (zA Try.prog 46 b 1 N) (fun E P=>zI (jf Try.prog false 3 E P) (fun Z X=>zI (zA Try.prog 46 b 2 X) (fun Q Y=>zI (jf Try.prog false 3 Q Y) (fun R S6=>zI (zA Try.prog 46 b 3 S6) (fun v6 S7=>zI (jf Try.prog false 3 v6 S7) (fun v7 S8=>zI (jH Try.prog 24 4 [(0,M),(1,Z),(2,R),(3,v7)] S8) (fun v8 S9=>zI ((zW Try.prog O) 63 [(dem v8)] S9) (fun U a0=>zI (zU U 0 a0) (fun V a1=>zI (zU (zO 0 U) 1 a1) (fun W a2=>some ([a,b,K,L,V,W,C,G,H,I,c,zO 1 (zO 0 U),J,M,E,Z,Q,R,v6,v7,v8,dem U,dem V,dem W,s,t,u,v,w,x,y,z,A],a2)) ()) ()) ()) ()) ()) ()) ()) ()) ()) ()) ()) ()):=by
 kernel_rfl
theorem wG.r4 :jw Try.prog ⟨false,false,false⟩ (zW Try.prog O) (reg Try.f46 4) (reg Try.f46 4).toList ([a,b,K,L,B,F,C,G,H,I,c,d,f,g,i,j,k,l,m,n,o,p,q,r,s,t,u,v,w,x,y,z,A]) S =
  (zI (zA Try.prog 46 b 4 S) (fun J D=>zI (jf Try.prog false 44 J D) (fun M N=>zI ((zW Try.prog O) 62 [(dem M)] N) (fun E P=>zI (zU E 0 P) (fun Q X=>zI (zU (zO 0 E) 1 X) (fun R Y=>some ([a,b,K,L,B,F,Q,R,H,I,c,d,f,g,i,j,k,l,m,n,o,p,q,r,zO 1 (zO 0 E),J,M,dem E,dem Q,dem R,y,z,A],Y)) ()) ()) ()) ()) ()):=by
 kernel_rfl
theorem wG.r5 :jw Try.prog ⟨false,false,false⟩ (zW Try.prog O) (reg Try.f46 5) (reg Try.f46 5).toList ([a,b,K,L,B,F,C,G,H,I,c,d,f,g,i,j,k,l,m,n,o,p,q,r,s,t,u,v,w,x,y,z,A]) S =
  (zI (wP Try.prog 33 33 B (dem C) S) (fun E D=>some ([a,b,E,Value.int IntKind.i64 0,dem B,F,C,G,H,I,c,d,f,g,i,j,k,l,m,n,o,p,q,r,s,t,u,v,w,x,dem B,dem C,dem E],D)) ()):=by
 kernel_rfl
theorem wG.rs:type_of% (ak5 @wG.r0 (ak5 @wG.r1 (ak5 @wG.r2 (ak5 @wG.r3 (ak5 @wG.r4 (@wG.r5)))))):=ak5 @wG.r0 (ak5 @wG.r1 (ak5 @wG.r2 (ak5 @wG.r3 (ak5 @wG.r4 (@wG.r5)))))
theorem wG.runs {a:Value} {S D:zn} {e:AEx} {T:List Value} (h:zG Try.prog O false wG.code ([a,zh,zh,zh,zh,zh,zh,zh,zh,zh,zh,zh,zh,zh,zh,zh,zh,zh,zh,zh,zh,zh,zh,zh,zh,zh,zh,zh,zh,zh,zh,zh,zh]) zn.empty=some (e,T,D)) (he:e=.normal∨e=.ret)  (h0:wu (T.getD 2 zh)=true) (h1:wu (T.getD 3 zh)=true) (hca:[a].all (jP 16)=true) (hcv:jP 16 (Value.tuple #[T.getD 2 zh,T.getD 3 zh])=true):zW Try.prog O 46 [a] S=some (Value.tuple #[T.getD 2 zh,T.getD 3 zh],S) :=
 yu rfl rfl Try.func46 (by decide) wG.body (by exact h) he ((yY ((show zK Try.prog T D Try.f46.results.toList=zK Try.prog T D [(ResultVar.tmp 2),(ResultVar.tmp 3)] from by kernel_rfl).trans (by simp only [zK])) (by kernel_rfl) (by simp only [List.all_cons,List.all_nil,h0,h1,Bool.and_true])).trans rfl) hca hcv
end Go.Proofs.Ytfjogganfjkckaa
namespace Go.Proofs.Ytfjogganfjkckaa
open Go.Abs
abbrev jm.id:FuncId:=37
noncomputable def jm.code:Code:=(Code.seq (Code.region 0 (reg Try.f37 0) false) (Code.seq (Code.seq (Code.region 1 (reg Try.f37 1) false) (Code.cond (Operand.tmp 10) (Code.seq (Code.region 2 (reg Try.f37 2) false) Code.ret) Code.skip)) (Code.seq (Code.region 3 (reg Try.f37 3) false) (Code.seq (Code.region 4 (reg Try.f37 4) false) (Code.seq (Code.region 5 (reg Try.f37 5) false) Code.ret)))))
theorem jm.body:Try.f37.body=some jm.code:=by kernel_rfl
variable (a b K L B F C G H I c d f g i j k l m n o p q r s t u v w x y z A:Value) (S:zn)
theorem jm.r0 :jw Try.prog ⟨false,false,false⟩ (zW Try.prog O) (reg Try.f37 0) (reg Try.f37 0).toList ([a,b,K,L,B,F,C,G,H,I,c,d,f,g,i,j,k,l,m,n,o,p,q,r,s,t,u,v,w,x,y,z,A]) S =
  (zI (JJ (dem a) S) (fun J D=>some ([a,J,Value.slice none 0 0,Value.int IntKind.i64 0,B,F,C,G,H,I,c,d,f,g,i,j,k,l,m,n,o,p,q,r,s,t,u,v,w,x,y,z,A],D)) ()):=by
 kernel_rfl
theorem jm.r1 :jw Try.prog ⟨false,false,false⟩ (zW Try.prog O) (reg Try.f37 1) (reg Try.f37 1).toList ([a,b,K,L,B,F,C,G,H,I,c,d,f,g,i,j,k,l,m,n,o,p,q,r,s,t,u,v,w,x,y,z,A]) S =
  (zI (jf Try.prog false 46 b S) (fun J D=>zI ((zW Try.prog O) 32 [(dem J)] D) (fun M N=>zI (aUn Try.prog UnOp.not M N) (fun E P=>some ([a,b,K,L,B,F,C,G,J,M,E,d,f,g,i,j,k,l,m,n,o,p,q,r,s,t,u,v,w,x,y,z,A],P)) ()) ()) ()):=by
 kernel_rfl
theorem jm.r2 :jw Try.prog ⟨false,false,false⟩ (zW Try.prog O) (reg Try.f37 2) (reg Try.f37 2).toList ([a,b,K,L,B,F,C,G,H,I,c,d,f,g,i,j,k,l,m,n,o,p,q,r,s,t,u,v,w,x,y,z,A]) S =
  ( some ([a,b,Value.slice none 0 0,Value.int IntKind.i64 71,B,F,C,G,H,I,c,d,f,g,i,j,k,l,m,n,o,p,q,r,s,t,u,v,w,x,y,z,A],S)):=by
 kernel_rfl
theorem jm.r3 :jw Try.prog ⟨false,false,false⟩ (zW Try.prog O) (reg Try.f37 3) (reg Try.f37 3).toList ([a,b,K,L,B,F,C,G,H,I,c,d,f,g,i,j,k,l,m,n,o,p,q,r,s,t,u,v,w,x,y,z,A]) S =
  (zI (zA Try.prog 46 b 0 S) (fun J D=>zI (jf Try.prog false 3 J D) (fun M N=>zI (zA Try.prog 46 b 1 N) (fun E P=>zI (jf Try.prog false 3 E P) (fun Z X=>zI (zA Try.prog 46 b 2 X) (fun Q Y=>zI (jf Try.prog false 3 Q Y) (fun R S6=>zI (zA Try.prog 46 b 3 S6) (fun v6 S7=>zI (jf Try.prog false 3 v6 S7) (fun v7 S8=>zI (jH Try.prog 24 4 [(0,M),(1,Z),(2,R),(3,v7)] S8) (fun v8 S9=>zI ((zW Try.prog O) 35 [(dem v8)] S9) (fun U a0=>zI (zU U 0 a0) (fun V a1=>zI (zU (zO 0 U) 1 a1) (fun W a2=>some ([a,b,K,L,V,W,C,G,H,I,c,zO 1 (zO 0 U),J,M,E,Z,Q,R,v6,v7,v8,dem U,dem V,dem W,s,t,u,v,w,x,y,z,A],a2)) ()) ()) ()) ()) ()) ()) ()) ()) ()) ()) ()) ()):=by
 kernel_rfl
theorem jm.r4 :jw Try.prog ⟨false,false,false⟩ (zW Try.prog O) (reg Try.f37 4) (reg Try.f37 4).toList ([a,b,K,L,B,F,C,G,H,I,c,d,f,g,i,j,k,l,m,n,o,p,q,r,s,t,u,v,w,x,y,z,A]) S =
  (zI (zA Try.prog 46 b 4 S) (fun J D=>zI (jf Try.prog false 44 J D) (fun M N=>zI ((zW Try.prog O) 50 [(dem M)] N) (fun E P=>zI (zU E 0 P) (fun Q X=>zI (zU (zO 0 E) 1 X) (fun R Y=>some ([a,b,K,L,B,F,Q,R,H,I,c,d,f,g,i,j,k,l,m,n,o,p,q,r,zO 1 (zO 0 E),J,M,dem E,dem Q,dem R,y,z,A],Y)) ()) ()) ()) ()) ()):=by
 kernel_rfl
theorem jm.r5 :jw Try.prog ⟨false,false,false⟩ (zW Try.prog O) (reg Try.f37 5) (reg Try.f37 5).toList ([a,b,K,L,B,F,C,G,H,I,c,d,f,g,i,j,k,l,m,n,o,p,q,r,s,t,u,v,w,x,y,z,A]) S =
  (zI (wP Try.prog 33 33 B (dem C) S) (fun E D=>some ([a,b,E,Value.int IntKind.i64 0,dem B,F,C,G,H,I,c,d,f,g,i,j,k,l,m,n,o,p,q,r,s,t,u,v,w,x,dem B,dem C,dem E],D)) ()):=by
 kernel_rfl
theorem jm.rs:type_of% (ak5 @jm.r0 (ak5 @jm.r1 (ak5 @jm.r2 (ak5 @jm.r3 (ak5 @jm.r4 (@jm.r5)))))):=ak5 @jm.r0 (ak5 @jm.r1 (ak5 @jm.r2 (ak5 @jm.r3 (ak5 @jm.r4 (@jm.r5)))))
theorem jm.runs {a:Value} {S D:zn} {e:AEx} {T:List Value} (h:zG Try.prog O false jm.code ([a,zh,zh,zh,zh,zh,zh,zh,zh,zh,zh,zh,zh,zh,zh,zh,zh,zh,zh,zh,zh,zh,zh,zh,zh,zh,zh,zh,zh,zh,zh,zh,zh]) zn.empty=some (e,T,D)) (he:e=.normal∨e=.ret)  (h0:wu (T.getD 2 zh)=true) (h1:wu (T.getD 3 zh)=true) (hca:[a].all (jP 16)=true) (hcv:jP 16 (Value.tuple #[T.getD 2 zh,T.getD 3 zh])=true):zW Try.prog O 37 [a] S=some (Value.tuple #[T.getD 2 zh,T.getD 3 zh],S) :=
 yu rfl rfl Try.func37 (by decide) jm.body (by exact h) he ((yY ((show zK Try.prog T D Try.f37.results.toList=zK Try.prog T D [(ResultVar.tmp 2),(ResultVar.tmp 3)] from by kernel_rfl).trans (by simp only [zK])) (by kernel_rfl) (by simp only [List.all_cons,List.all_nil,h0,h1,Bool.and_true])).trans rfl) hca hcv
end Go.Proofs.Ytfjogganfjkckaa
namespace Go.Proofs.Ytfjogganfjkckaa
open Go.Abs
abbrev jy.id:FuncId:=45
noncomputable def jy.code:Code:=(Code.seq (Code.region 0 (reg Try.f45 0) false) (Code.seq (Code.seq (Code.region 1 (reg Try.f45 1) false) (Code.cond (Operand.tmp 20) (Code.seq (Code.region 2 (reg Try.f45 2) false) Code.ret) Code.skip)) (Code.seq (Code.seq (Code.region 3 (reg Try.f45 3) false) (Code.cond (Operand.tmp 37) (Code.seq (Code.region 4 (reg Try.f45 4) false) Code.ret) Code.skip)) (Code.seq (Code.region 5 (reg Try.f45 5) false) (Code.seq (Code.region 6 (reg Try.f45 6) false) Code.ret)))))
theorem jy.body:Try.f45.body=some jy.code:=by kernel_rfl
variable (U b x2 X V Y Z x7 x8 x9 c d f g i k l m n o p q r s t u w x y z A B C D E F G H I J K L M N P Q:Value) (S:zn)
theorem jy.r0 :jw Try.prog ⟨false,false,false⟩ (zW Try.prog O) (reg Try.f45 0) (reg Try.f45 0).toList ([U,b,x2,X,V,Y,Z,x7,x8,x9,c,d,f,g,i,k,l,m,n,o,p,q,r,s,t,u,w,x,y,z,A,B,C,D,E,F,G,H,I,J,K,L,M,N,P,Q]) S =
  (zI (JJ (dem U) S) (fun v0 W=>some ([U,v0,Value.bool false,X,V,Y,Z,x7,x8,x9,c,d,f,g,i,k,l,m,n,o,p,q,r,s,t,u,w,x,y,z,A,B,C,D,E,F,G,H,I,J,K,L,M,N,P,Q],W)) ()):=by
 kernel_rfl
theorem jy.r1 :jw Try.prog ⟨false,false,false⟩ (zW Try.prog O) (reg Try.f45 1) (reg Try.f45 1).toList ([U,b,x2,X,V,Y,Z,x7,x8,x9,c,d,f,g,i,k,l,m,n,o,p,q,r,s,t,u,w,x,y,z,A,B,C,D,E,F,G,H,I,J,K,L,M,N,P,Q]) S =
  (zI (zA Try.prog 46 b 0 S) (fun v0 W=>zI (jf Try.prog false 3 v0 W) (fun v1 S2=>zI ((zW Try.prog O) 60 [(dem v1),(Value.int IntKind.i64 1),(Value.int IntKind.i64 4095)] S2) (fun R S3=>zI (aUn Try.prog UnOp.not R S3) (fun v3 S4=>gdK (dem v3) false (zA Try.prog 46 b 1) S4 (fun v5 S5=>gdK (dem v3) false (jf Try.prog false 3 v5) S5 (fun v6 S6=>gdK (dem v3) false ((zW Try.prog O) 60 [(dem v6),(Value.int IntKind.i64 0),(Value.int IntKind.i64 6)]) S6 (fun v7 S7=>gdK (dem v3) false (aUn Try.prog UnOp.not v7) S7 (fun v8 S8=>zI (wR (dem v3) (Value.bool true) v8 S8) (fun v9 S9=>gdK (dem v9) false (zA Try.prog 46 b 2) S9 (fun a0 a5=>gdK (dem v9) false (jf Try.prog false 3 a0) a5 (fun a1 a6=>gdK (dem v9) false ((zW Try.prog O) 60 [(dem a1),(Value.int IntKind.i64 0),(Value.int IntKind.i64 255)]) a6 (fun a2 a7=>gdK (dem v9) false (aUn Try.prog UnOp.not a2) a7 (fun a3 a8=>zI (wR (dem v9) (Value.bool true) a3 a8) (fun a4 a9=>some ([U,b,x2,X,V,v0,v1,R,v3,dem v3,v5,v6,v7,v8,v9,dem v9,a0,a1,a2,a3,a4,q,r,s,t,u,w,x,y,z,A,B,C,D,E,F,G,H,I,J,K,L,M,N,P,Q],a9)) ()) ()) ()) ()) ()) ()) ()) ()) ()) ()) ()) ()) ()) ()):=by
 refine sD Try.f45 1 0 (fun v0 W=>?_)
 refine sD Try.f45 1 1 (fun v1 S2=>?_)
 refine sD Try.f45 1 2 (fun R S3=>?_)
 refine sD Try.f45 1 3 (fun v3 S4=>?_)
 refine sP Try.f45 1 4 (v:=v3) ?_
 refine sG Try.f45 1 5 (j:=4) (fun v5 S5=>?_)
 refine sG Try.f45 1 6 (j:=4) (fun v6 S6=>?_)
 refine sG Try.f45 1 7 (j:=4) (fun v7 S7=>?_)
 refine sG Try.f45 1 8 (j:=4) (fun v8 S8=>?_)
 refine sD Try.f45 1 9 (fun v9 S9=>?_)
 refine sP Try.f45 1 10 (v:=v9) ?_
 refine sG Try.f45 1 11 (j:=10) (fun a0 a5=>?_)
 refine sG Try.f45 1 12 (j:=10) (fun a1 a6=>?_)
 refine sG Try.f45 1 13 (j:=10) (fun a2 a7=>?_)
 refine sG Try.f45 1 14 (j:=10) (fun a3 a8=>?_)
 refine sD Try.f45 1 15 (fun a4 a9=>?_)
 kernel_rfl
theorem jy.r2 :jw Try.prog ⟨false,false,false⟩ (zW Try.prog O) (reg Try.f45 2) (reg Try.f45 2).toList ([U,b,x2,X,V,Y,Z,x7,x8,x9,c,d,f,g,i,k,l,m,n,o,p,q,r,s,t,u,w,x,y,z,A,B,C,D,E,F,G,H,I,J,K,L,M,N,P,Q]) S =
  ( some ([U,b,Value.bool false,X,V,Y,Z,x7,x8,x9,c,d,f,g,i,k,l,m,n,o,p,q,r,s,t,u,w,x,y,z,A,B,C,D,E,F,G,H,I,J,K,L,M,N,P,Q],S)):=by
 kernel_rfl
theorem jy.r3 :jw Try.prog ⟨false,false,false⟩ (zW Try.prog O) (reg Try.f45 3) (reg Try.f45 3).toList ([U,b,x2,X,V,Y,Z,x7,x8,x9,c,d,f,g,i,k,l,m,n,o,p,q,r,s,t,u,w,x,y,z,A,B,C,D,E,F,G,H,I,J,K,L,M,N,P,Q]) S =
  (zI (zA Try.prog 46 b 3 S) (fun v0 W=>zI (jf Try.prog false 3 v0 W) (fun v1 S2=>zI (wB Try.prog BinOp.neq 3 v1 (Value.int IntKind.i64 0) S2) (fun R S3=>gdK (dem R) true (zA Try.prog 46 b 3) S3 (fun v4 S4=>gdK (dem R) true (jf Try.prog false 3 v4) S4 (fun v5 S5=>gdK (dem R) true ((zW Try.prog O) 61 [(dem v5)]) S5 (fun v6 S6=>gdK (dem R) true (aUn Try.prog UnOp.not v6) S6 (fun v7 S7=>gdK (dem R) true (ret v7) S7 (fun v8 S8=>gdK (dem v8) false (zA Try.prog 46 b 3) S8 (fun v9 S9=>gdK (dem v8) false (jf Try.prog false 3 v9) S9 (fun b0 a5=>gdK (dem v8) false (wB Try.prog BinOp.quo 3 b0 (Value.int IntKind.i64 65536)) a5 (fun a0 a6=>gdK (dem v8) false (zA Try.prog 46 b 0) a6 (fun a1 a7=>gdK (dem v8) false (jf Try.prog false 3 a1) a7 (fun a2 a8=>gdK (dem v8) false (wB Try.prog BinOp.geq 3 a0 a2) a8 (fun a3 a9=>gdK (dem R) true (wR (dem v8) (Value.bool true) a3) a9 (fun a4 b1=>zI (wR (dem R) a4 (Value.bool false) b1) (fun b2 b3=>some ([U,b,x2,X,V,Y,Z,x7,x8,x9,c,d,f,g,i,k,l,m,n,o,p,v0,v1,R,dem R,v4,v5,v6,v7,dem v8,v9,b0,a0,a1,a2,a3,a4,b2,I,J,K,L,M,N,P,Q],b3)) ()) ()) ()) ()) ()) ()) ()) ()) ()) ()) ()) ()) ()) ()) ()) ()):=by
 refine sD Try.f45 3 0 (fun v0 W=>?_)
 refine sD Try.f45 3 1 (fun v1 S2=>?_)
 refine sD Try.f45 3 2 (fun R S3=>?_)
 refine sP Try.f45 3 3 (v:=R) ?_
 refine sG Try.f45 3 4 (j:=3) (fun v4 S4=>?_)
 refine sG Try.f45 3 5 (j:=3) (fun v5 S5=>?_)
 refine sG Try.f45 3 6 (j:=3) (fun v6 S6=>?_)
 refine sG Try.f45 3 7 (j:=3) (fun v7 S7=>?_)
 refine sG Try.f45 3 8 (j:=3) (fun v8 S8=>?_)
 refine sG Try.f45 3 9 (j:=8) (fun v9 S9=>?_)
 refine sG Try.f45 3 10 (j:=8) (fun b0 a5=>?_)
 refine sG Try.f45 3 11 (j:=8) (fun a0 a6=>?_)
 refine sG Try.f45 3 12 (j:=8) (fun a1 a7=>?_)
 refine sG Try.f45 3 13 (j:=8) (fun a2 a8=>?_)
 refine sG Try.f45 3 14 (j:=8) (fun a3 a9=>?_)
 refine sG Try.f45 3 15 (j:=3) (fun a4 b1=>?_)
 refine sD Try.f45 3 16 (fun b2 b3=>?_)
 kernel_rfl
theorem jy.r4 :jw Try.prog ⟨false,false,false⟩ (zW Try.prog O) (reg Try.f45 4) (reg Try.f45 4).toList ([U,b,x2,X,V,Y,Z,x7,x8,x9,c,d,f,g,i,k,l,m,n,o,p,q,r,s,t,u,w,x,y,z,A,B,C,D,E,F,G,H,I,J,K,L,M,N,P,Q]) S =
  ( some ([U,b,Value.bool false,X,V,Y,Z,x7,x8,x9,c,d,f,g,i,k,l,m,n,o,p,q,r,s,t,u,w,x,y,z,A,B,C,D,E,F,G,H,I,J,K,L,M,N,P,Q],S)):=by
 kernel_rfl
theorem jy.r5 :jw Try.prog ⟨false,false,false⟩ (zW Try.prog O) (reg Try.f45 5) (reg Try.f45 5).toList ([U,b,x2,X,V,Y,Z,x7,x8,x9,c,d,f,g,i,k,l,m,n,o,p,q,r,s,t,u,w,x,y,z,A,B,C,D,E,F,G,H,I,J,K,L,M,N,P,Q]) S =
  (zI (zA Try.prog 46 b 4 S) (fun v0 W=>zI (jf Try.prog false 44 v0 W) (fun v1 S2=>zI ((zW Try.prog O) 62 [(dem v1)] S2) (fun R S3=>zI (zU R 0 S3) (fun v4 S4=>zI (zU (zO 0 R) 1 S4) (fun v5 S5=>some ([U,b,x2,v4,v5,Y,Z,x7,x8,x9,c,d,f,g,i,k,l,m,n,o,p,q,r,s,t,u,w,x,y,z,A,B,C,D,E,F,G,H,zO 1 (zO 0 R),v0,v1,dem R,dem v4,dem v5,P,Q],S5)) ()) ()) ()) ()) ()):=by
 kernel_rfl
theorem jy.r6 :jw Try.prog ⟨false,false,false⟩ (zW Try.prog O) (reg Try.f45 6) (reg Try.f45 6).toList ([U,b,x2,X,V,Y,Z,x7,x8,x9,c,d,f,g,i,k,l,m,n,o,p,q,r,s,t,u,w,x,y,z,A,B,C,D,E,F,G,H,I,J,K,L,M,N,P,Q]) S =
  (zI (wB Try.prog BinOp.eql 64 (dem V) (Value.int IntKind.i64 0) S) (fun v1 W=>some ([U,b,v1,X,V,Y,Z,x7,x8,x9,c,d,f,g,i,k,l,m,n,o,p,q,r,s,t,u,w,x,y,z,A,B,C,D,E,F,G,H,I,J,K,L,M,N,dem V,dem v1],W)) ()):=by
 kernel_rfl
theorem jy.rs:type_of% (ak5 @jy.r0 (ak5 @jy.r1 (ak5 @jy.r2 (ak5 @jy.r3 (ak5 @jy.r4 (ak5 @jy.r5 (@jy.r6))))))):=ak5 @jy.r0 (ak5 @jy.r1 (ak5 @jy.r2 (ak5 @jy.r3 (ak5 @jy.r4 (ak5 @jy.r5 (@jy.r6))))))
theorem jy.runs {U:Value} {S W:zn} {e:AEx} {T:List Value} (h:zG Try.prog O false jy.code ([U,zh,zh,zh,zh,zh,zh,zh,zh,zh,zh,zh,zh,zh,zh,zh,zh,zh,zh,zh,zh,zh,zh,zh,zh,zh,zh,zh,zh,zh,zh,zh,zh,zh,zh,zh,zh,zh,zh,zh,zh,zh,zh,zh,zh,zh]) zn.empty=some (e,T,W)) (he:e=.normal∨e=.ret) (hca:[U].all (jP 16)=true) (hcv:jP 16 (T.getD 2 zh)=true):zW Try.prog O 45 [U] S=some (T.getD 2 zh,S) :=
 yu rfl rfl Try.func45 (by decide) jy.body (by exact h) he (yA (a:=T.getD 2 zh) ((show zK Try.prog T W Try.f45.results.toList=zK Try.prog T W [(ResultVar.tmp 2)] from by kernel_rfl).trans (by simp only [zK])) (by kernel_rfl)) hca hcv
end Go.Proofs.Ytfjogganfjkckaa
namespace Go.Proofs.Ytfjogganfjkckaa
open Go.Abs
abbrev zC.id:FuncId:=32
noncomputable def zC.code:Code:=(Code.seq (Code.region 0 (reg Try.f32 0) false) (Code.seq (Code.seq (Code.region 1 (reg Try.f32 1) false) (Code.cond (Operand.tmp 36) (Code.seq (Code.region 2 (reg Try.f32 2) false) Code.ret) Code.skip)) (Code.seq (Code.region 3 (reg Try.f32 3) false) (Code.seq (Code.seq (Code.region 4 (reg Try.f32 4) false) (Code.cond (Operand.tmp 44) (Code.seq (Code.region 5 (reg Try.f32 5) false) Code.ret) Code.skip)) (Code.seq (Code.seq (Code.region 6 (reg Try.f32 6) false) (Code.cond (Operand.tmp 47) (Code.seq (Code.region 7 (reg Try.f32 7) false) Code.ret) Code.skip)) (Code.seq (Code.region 8 (reg Try.f32 8) false) (Code.seq (Code.region 9 (reg Try.f32 9) false) Code.ret)))))))
theorem zC.body:Try.f32.body=some zC.code:=by kernel_rfl
variable (x0 b x2 x3 x4 x5 x6 x7 x8 x9 c d f g i k l m n o p q r s t u w x y z A B C D E F G H I J K L M N P Q R U V W X Y Z a0 a1 a2 a3 a4 a5 a6 a7 a8 a9:Value) (S:zn)
theorem zC.r0 :jw Try.prog ⟨false,false,false⟩ (zW Try.prog O) (reg Try.f32 0) (reg Try.f32 0).toList ([x0,b,x2,x3,x4,x5,x6,x7,x8,x9,c,d,f,g,i,k,l,m,n,o,p,q,r,s,t,u,w,x,y,z,A,B,C,D,E,F,G,H,I,J,K,L,M,N,P,Q,R,U,V,W,X,Y,Z,a0,a1,a2,a3,a4,a5,a6,a7,a8,a9]) S =
  (zI (JJ (dem x0) S) (fun v0 S1=>some ([x0,v0,Value.bool false,x3,x4,x5,x6,x7,x8,x9,c,d,f,g,i,k,l,m,n,o,p,q,r,s,t,u,w,x,y,z,A,B,C,D,E,F,G,H,I,J,K,L,M,N,P,Q,R,U,V,W,X,Y,Z,a0,a1,a2,a3,a4,a5,a6,a7,a8,a9],S1)) ()):=by
 kernel_rfl
theorem zC.r1 :jw Try.prog ⟨false,false,false⟩ (zW Try.prog O) (reg Try.f32 1) (reg Try.f32 1).toList ([x0,b,x2,x3,x4,x5,x6,x7,x8,x9,c,d,f,g,i,k,l,m,n,o,p,q,r,s,t,u,w,x,y,z,A,B,C,D,E,F,G,H,I,J,K,L,M,N,P,Q,R,U,V,W,X,Y,Z,a0,a1,a2,a3,a4,a5,a6,a7,a8,a9]) S =
  (zI (zA Try.prog 46 b 0 S) (fun v0 S1=>zI (jf Try.prog false 3 v0 S1) (fun v1 S2=>zI (wB Try.prog BinOp.lss 3 v1 (Value.int IntKind.i64 1) S2) (fun v2 S3=>gdK (dem v2) false (zA Try.prog 46 b 0) S3 (fun v4 S4=>gdK (dem v2) false (jf Try.prog false 3 v4) S4 (fun v5 S5=>gdK (dem v2) false (wB Try.prog BinOp.gtr 3 v5 (Value.int IntKind.i64 4095)) S5 (fun v6 S6=>zI (wR (dem v2) (Value.bool true) v6 S6) (fun v7 S7=>gdK (dem v7) false (zA Try.prog 46 b 1) S7 (fun v9 S8=>gdK (dem v7) false (jf Try.prog false 3 v9) S8 (fun b3 S9=>gdK (dem v7) false (wB Try.prog BinOp.lss 3 b3 (Value.int IntKind.i64 0)) S9 (fun b4 c4=>zI (wR (dem v7) (Value.bool true) b4 c4) (fun b0 c5=>gdK (dem b0) false (zA Try.prog 46 b 1) c5 (fun b5 c6=>gdK (dem b0) false (jf Try.prog false 3 b5) c6 (fun b6 c7=>gdK (dem b0) false (wB Try.prog BinOp.gtr 3 b6 (Value.int IntKind.i64 6)) c7 (fun b7 c8=>zI (wR (dem b0) (Value.bool true) b7 c8) (fun b1 c9=>gdK (dem b1) false (zA Try.prog 46 b 2) c9 (fun b8 d0=>gdK (dem b1) false (jf Try.prog false 3 b8) d0 (fun b9 d1=>gdK (dem b1) false (wB Try.prog BinOp.lss 3 b9 (Value.int IntKind.i64 0)) d1 (fun c0 d2=>zI (wR (dem b1) (Value.bool true) c0 d2) (fun b2 d3=>gdK (dem b2) false (zA Try.prog 46 b 2) d3 (fun c1 d4=>gdK (dem b2) false (jf Try.prog false 3 c1) d4 (fun c2 d5=>gdK (dem b2) false (wB Try.prog BinOp.gtr 3 c2 (Value.int IntKind.i64 255)) d5 (fun c3 d6=>zI (wR (dem b2) (Value.bool true) c3 d6) (fun d7 d8=>some ([x0,b,x2,x3,x4,x5,x6,x7,x8,v0,v1,v2,dem v2,v4,v5,v6,v7,dem v7,v9,b3,b4,b0,dem b0,b5,b6,b7,b1,dem b1,b8,b9,c0,b2,dem b2,c1,c2,c3,d7,H,I,J,K,L,M,N,P,Q,R,U,V,W,X,Y,Z,a0,a1,a2,a3,a4,a5,a6,a7,a8,a9],d8)) ()) ()) ()) ()) ()) ()) ()) ()) ()) ()) ()) ()) ()) ()) ()) ()) ()) ()) ()) ()) ()) ()) ()):=by
 refine sD Try.f32 1 0 (fun v0 S1=>?_)
 refine sD Try.f32 1 1 (fun v1 S2=>?_)
 refine sD Try.f32 1 2 (fun v2 S3=>?_)
 refine sP Try.f32 1 3 (v:=v2) ?_
 refine sG Try.f32 1 4 (j:=3) (fun v4 S4=>?_)
 refine sG Try.f32 1 5 (j:=3) (fun v5 S5=>?_)
 refine sG Try.f32 1 6 (j:=3) (fun v6 S6=>?_)
 refine sD Try.f32 1 7 (fun v7 S7=>?_)
 refine sP Try.f32 1 8 (v:=v7) ?_
 refine sG Try.f32 1 9 (j:=8) (fun v9 S8=>?_)
 refine sG Try.f32 1 10 (j:=8) (fun b3 S9=>?_)
 refine sG Try.f32 1 11 (j:=8) (fun b4 c4=>?_)
 refine sD Try.f32 1 12 (fun b0 c5=>?_)
 refine sP Try.f32 1 13 (v:=b0) ?_
 refine sG Try.f32 1 14 (j:=13) (fun b5 c6=>?_)
 refine sG Try.f32 1 15 (j:=13) (fun b6 c7=>?_)
 refine sG Try.f32 1 16 (j:=13) (fun b7 c8=>?_)
 refine sD Try.f32 1 17 (fun b1 c9=>?_)
 refine sP Try.f32 1 18 (v:=b1) ?_
 refine sG Try.f32 1 19 (j:=18) (fun b8 d0=>?_)
 refine sG Try.f32 1 20 (j:=18) (fun b9 d1=>?_)
 refine sG Try.f32 1 21 (j:=18) (fun c0 d2=>?_)
 refine sD Try.f32 1 22 (fun b2 d3=>?_)
 refine sP Try.f32 1 23 (v:=b2) ?_
 refine sG Try.f32 1 24 (j:=23) (fun c1 d4=>?_)
 refine sG Try.f32 1 25 (j:=23) (fun c2 d5=>?_)
 refine sG Try.f32 1 26 (j:=23) (fun c3 d6=>?_)
 refine sD Try.f32 1 27 (fun d7 d8=>?_)
 kernel_rfl
theorem zC.r2 :jw Try.prog ⟨false,false,false⟩ (zW Try.prog O) (reg Try.f32 2) (reg Try.f32 2).toList ([x0,b,x2,x3,x4,x5,x6,x7,x8,x9,c,d,f,g,i,k,l,m,n,o,p,q,r,s,t,u,w,x,y,z,A,B,C,D,E,F,G,H,I,J,K,L,M,N,P,Q,R,U,V,W,X,Y,Z,a0,a1,a2,a3,a4,a5,a6,a7,a8,a9]) S =
  ( some ([x0,b,Value.bool false,x3,x4,x5,x6,x7,x8,x9,c,d,f,g,i,k,l,m,n,o,p,q,r,s,t,u,w,x,y,z,A,B,C,D,E,F,G,H,I,J,K,L,M,N,P,Q,R,U,V,W,X,Y,Z,a0,a1,a2,a3,a4,a5,a6,a7,a8,a9],S)):=by
 kernel_rfl
theorem zC.r3 :jw Try.prog ⟨false,false,false⟩ (zW Try.prog O) (reg Try.f32 3) (reg Try.f32 3).toList ([x0,b,x2,x3,x4,x5,x6,x7,x8,x9,c,d,f,g,i,k,l,m,n,o,p,q,r,s,t,u,w,x,y,z,A,B,C,D,E,F,G,H,I,J,K,L,M,N,P,Q,R,U,V,W,X,Y,Z,a0,a1,a2,a3,a4,a5,a6,a7,a8,a9]) S =
  (zI (zA Try.prog 46 b 4 S) (fun v0 S1=>zI (jf Try.prog false 44 v0 S1) (fun v1 S2=>zI ((zW Try.prog O) 50 [(dem v1)] S2) (fun v2 S3=>zI (zU v2 0 S3) (fun v4 S4=>zI (zU (zO 0 v2) 1 S4) (fun v5 S5=>some ([x0,b,x2,v4,v5,x5,x6,x7,x8,x9,c,d,f,g,i,k,l,m,n,o,p,q,r,s,t,u,w,x,y,z,A,B,C,D,E,F,G,zO 1 (zO 0 v2),v0,v1,dem v2,dem v4,dem v5,N,P,Q,R,U,V,W,X,Y,Z,a0,a1,a2,a3,a4,a5,a6,a7,a8,a9],S5)) ()) ()) ()) ()) ()):=by
 kernel_rfl
theorem zC.r4 :jw Try.prog ⟨false,false,false⟩ (zW Try.prog O) (reg Try.f32 4) (reg Try.f32 4).toList ([x0,b,x2,x3,x4,x5,x6,x7,x8,x9,c,d,f,g,i,k,l,m,n,o,p,q,r,s,t,u,w,x,y,z,A,B,C,D,E,F,G,H,I,J,K,L,M,N,P,Q,R,U,V,W,X,Y,Z,a0,a1,a2,a3,a4,a5,a6,a7,a8,a9]) S =
  (zI (wB Try.prog BinOp.neq 3 (dem x4) (Value.int IntKind.i64 0) S) (fun v1 S1=>some ([x0,b,x2,x3,x4,x5,x6,x7,x8,x9,c,d,f,g,i,k,l,m,n,o,p,q,r,s,t,u,w,x,y,z,A,B,C,D,E,F,G,H,I,J,K,L,M,dem x4,v1,Q,R,U,V,W,X,Y,Z,a0,a1,a2,a3,a4,a5,a6,a7,a8,a9],S1)) ()):=by
 kernel_rfl
theorem zC.r5 :jw Try.prog ⟨false,false,false⟩ (zW Try.prog O) (reg Try.f32 5) (reg Try.f32 5).toList ([x0,b,x2,x3,x4,x5,x6,x7,x8,x9,c,d,f,g,i,k,l,m,n,o,p,q,r,s,t,u,w,x,y,z,A,B,C,D,E,F,G,H,I,J,K,L,M,N,P,Q,R,U,V,W,X,Y,Z,a0,a1,a2,a3,a4,a5,a6,a7,a8,a9]) S =
  ( some ([x0,b,Value.bool false,x3,x4,x5,x6,x7,x8,x9,c,d,f,g,i,k,l,m,n,o,p,q,r,s,t,u,w,x,y,z,A,B,C,D,E,F,G,H,I,J,K,L,M,N,P,Q,R,U,V,W,X,Y,Z,a0,a1,a2,a3,a4,a5,a6,a7,a8,a9],S)):=by
 kernel_rfl
theorem zC.r6 :jw Try.prog ⟨false,false,false⟩ (zW Try.prog O) (reg Try.f32 6) (reg Try.f32 6).toList ([x0,b,x2,x3,x4,x5,x6,x7,x8,x9,c,d,f,g,i,k,l,m,n,o,p,q,r,s,t,u,w,x,y,z,A,B,C,D,E,F,G,H,I,J,K,L,M,N,P,Q,R,U,V,W,X,Y,Z,a0,a1,a2,a3,a4,a5,a6,a7,a8,a9]) S =
  (zI (zA Try.prog 46 b 3 S) (fun v0 S1=>zI (jf Try.prog false 3 v0 S1) (fun v1 S2=>zI (wB Try.prog BinOp.eql 3 v1 (Value.int IntKind.i64 0) S2) (fun v2 S3=>some ([x0,b,x2,x3,x4,x5,x6,x7,x8,x9,c,d,f,g,i,k,l,m,n,o,p,q,r,s,t,u,w,x,y,z,A,B,C,D,E,F,G,H,I,J,K,L,M,N,P,v0,v1,v2,V,W,X,Y,Z,a0,a1,a2,a3,a4,a5,a6,a7,a8,a9],S3)) ()) ()) ()):=by
 kernel_rfl
theorem zC.r7 :jw Try.prog ⟨false,false,false⟩ (zW Try.prog O) (reg Try.f32 7) (reg Try.f32 7).toList ([x0,b,x2,x3,x4,x5,x6,x7,x8,x9,c,d,f,g,i,k,l,m,n,o,p,q,r,s,t,u,w,x,y,z,A,B,C,D,E,F,G,H,I,J,K,L,M,N,P,Q,R,U,V,W,X,Y,Z,a0,a1,a2,a3,a4,a5,a6,a7,a8,a9]) S =
  ( some ([x0,b,Value.bool true,x3,x4,x5,x6,x7,x8,x9,c,d,f,g,i,k,l,m,n,o,p,q,r,s,t,u,w,x,y,z,A,B,C,D,E,F,G,H,I,J,K,L,M,N,P,Q,R,U,V,W,X,Y,Z,a0,a1,a2,a3,a4,a5,a6,a7,a8,a9],S)):=by
 kernel_rfl
theorem zC.r8 :jw Try.prog ⟨false,false,false⟩ (zW Try.prog O) (reg Try.f32 8) (reg Try.f32 8).toList ([x0,b,x2,x3,x4,x5,x6,x7,x8,x9,c,d,f,g,i,k,l,m,n,o,p,q,r,s,t,u,w,x,y,z,A,B,C,D,E,F,G,H,I,J,K,L,M,N,P,Q,R,U,V,W,X,Y,Z,a0,a1,a2,a3,a4,a5,a6,a7,a8,a9]) S =
  (zI (zA Try.prog 46 b 3 S) (fun v0 S1=>zI (jf Try.prog false 3 v0 S1) (fun v1 S2=>zI ((zW Try.prog O) 51 [(dem v1)] S2) (fun v2 S3=>zI (zU v2 0 S3) (fun v4 S4=>zI (zU (zO 0 v2) 1 S4) (fun v5 S5=>zI (zU (zO 1 (zO 0 v2)) 2 S5) (fun v6 S6=>zI (zU (zO 2 (zO 1 (zO 0 v2))) 3 S6) (fun v7 S7=>some ([x0,b,x2,x3,x4,v4,v5,v6,v7,x9,c,d,f,g,i,k,l,m,n,o,p,q,r,s,t,u,w,x,y,z,A,B,C,D,E,F,G,H,I,J,K,L,M,N,P,Q,R,U,zO 3 (zO 2 (zO 1 (zO 0 v2))),v0,v1,dem v2,dem v4,dem v5,dem v6,dem v7,a3,a4,a5,a6,a7,a8,a9],S7)) ()) ()) ()) ()) ()) ()) ()):=by
 kernel_rfl
theorem zC.r9 :jw Try.prog ⟨false,false,false⟩ (zW Try.prog O) (reg Try.f32 9) (reg Try.f32 9).toList ([x0,b,x2,x3,x4,x5,x6,x7,x8,x9,c,d,f,g,i,k,l,m,n,o,p,q,r,s,t,u,w,x,y,z,A,B,C,D,E,F,G,H,I,J,K,L,M,N,P,Q,R,U,V,W,X,Y,Z,a0,a1,a2,a3,a4,a5,a6,a7,a8,a9]) S =
  (gdK (dem x8) true (ret x5) S (fun v2 S1=>gdK (dem x8) true (zA Try.prog 46 b 0) S1 (fun v3 S2=>gdK (dem x8) true (jf Try.prog false 3 v3) S2 (fun v4 S3=>gdK (dem x8) true (wB Try.prog BinOp.lss 3 (dem v2) v4) S3 (fun v5 S4=>zI (wR (dem x8) v5 (Value.bool false) S4) (fun v6 S5=>some ([x0,b,v6,x3,x4,x5,x6,x7,dem x8,x9,c,d,f,g,i,k,l,m,n,o,p,q,r,s,t,u,w,x,y,z,A,B,C,D,E,F,G,H,I,J,K,L,M,N,P,Q,R,U,V,W,X,Y,Z,a0,a1,a2,x8,dem x8,dem v2,v3,v4,v5,dem v6],S5)) ()) ()) ()) ()) ()):=by
 refine sP Try.f32 9 0 (v:=x8) ?_
 refine sP Try.f32 9 1 (v:=x8) ?_
 refine sG Try.f32 9 2 (j:=1) (fun v2 S1=>?_)
 refine sG Try.f32 9 3 (j:=1) (fun v3 S2=>?_)
 refine sG Try.f32 9 4 (j:=1) (fun v4 S3=>?_)
 refine sG Try.f32 9 5 (j:=1) (fun v5 S4=>?_)
 refine sD Try.f32 9 6 (fun v6 S5=>?_)
 refine sP Try.f32 9 7 (v:=v6) ?_
 kernel_rfl
theorem zC.rs:type_of% (ak5 @zC.r0 (ak5 @zC.r1 (ak5 @zC.r2 (ak5 @zC.r3 (ak5 @zC.r4 (ak5 @zC.r5 (ak5 @zC.r6 (ak5 @zC.r7 (ak5 @zC.r8 (@zC.r9)))))))))):=ak5 @zC.r0 (ak5 @zC.r1 (ak5 @zC.r2 (ak5 @zC.r3 (ak5 @zC.r4 (ak5 @zC.r5 (ak5 @zC.r6 (ak5 @zC.r7 (ak5 @zC.r8 (@zC.r9)))))))))
theorem zC.runs {x0:Value} {S S1:zn} {e:AEx} {T:List Value} (h:zG Try.prog O false zC.code ([x0,zh,zh,zh,zh,zh,zh,zh,zh,zh,zh,zh,zh,zh,zh,zh,zh,zh,zh,zh,zh,zh,zh,zh,zh,zh,zh,zh,zh,zh,zh,zh,zh,zh,zh,zh,zh,zh,zh,zh,zh,zh,zh,zh,zh,zh,zh,zh,zh,zh,zh,zh,zh,zh,zh,zh,zh,zh,zh,zh,zh,zh,zh]) zn.empty=some (e,T,S1)) (he:e=.normal∨e=.ret) (hca:[x0].all (jP 16)=true) (hcv:jP 16 (T.getD 2 zh)=true):zW Try.prog O 32 [x0] S=some (T.getD 2 zh,S) :=
 yu rfl rfl Try.func32 (by decide) zC.body (by exact h) he (yA (a:=T.getD 2 zh) ((show zK Try.prog T S1 Try.f32.results.toList=zK Try.prog T S1 [(ResultVar.tmp 2)] from by kernel_rfl).trans (by simp only [zK])) (by kernel_rfl)) hca hcv
end Go.Proofs.Ytfjogganfjkckaa
namespace Go.Proofs.Ytfjogganfjkckaa
open Go.Abs
abbrev wV.id:FuncId:=23
noncomputable def wV.code:Code:=(Code.seq (Code.region 0 (reg Try.f23 0) false) (Code.seq (Code.seq (Code.region 1 (reg Try.f23 1) false) (Code.cond (Operand.tmp 5) (Code.seq (Code.region 2 (reg Try.f23 2) false) Code.ret) Code.skip)) (Code.seq (Code.region 3 (reg Try.f23 3) false) Code.ret)))
theorem wV.body:Try.f23.body=some wV.code:=by kernel_rfl
variable (b c u m n o p q r s d f g i j k:Value) (S:zn)
theorem wV.r0 :jw Try.prog ⟨false,false,false⟩ (zW Try.prog O) (reg Try.f23 0) (reg Try.f23 0).toList ([b,c,u,m,n,o,p,q,r,s,d,f,g,i,j,k]) S =
  (zI (JJ (dem b) S) (fun t l=>some ([b,t,Value.int IntKind.i64 0,m,n,o,p,q,r,s,d,f,g,i,j,k],l)) ()):=by
 kernel_rfl
theorem wV.r1 :jw Try.prog ⟨false,false,false⟩ (zW Try.prog O) (reg Try.f23 1) (reg Try.f23 1).toList ([b,c,u,m,n,o,p,q,r,s,d,f,g,i,j,k]) S =
  (zI (jf Try.prog false 46 c S) (fun t l=>zI ((zW Try.prog O) 45 [(dem t)] l) (fun v x=>zI (aUn Try.prog UnOp.not v x) (fun w y=>some ([b,c,u,t,v,w,p,q,r,s,d,f,g,i,j,k],y)) ()) ()) ()):=by
 kernel_rfl
theorem wV.r2 :jw Try.prog ⟨false,false,false⟩ (zW Try.prog O) (reg Try.f23 2) (reg Try.f23 2).toList ([b,c,u,m,n,o,p,q,r,s,d,f,g,i,j,k]) S =
  ( some ([b,c,Value.int IntKind.i64 0,m,n,o,p,q,r,s,d,f,g,i,j,k],S)):=by
 kernel_rfl
theorem wV.r3 :jw Try.prog ⟨false,false,false⟩ (zW Try.prog O) (reg Try.f23 3) (reg Try.f23 3).toList ([b,c,u,m,n,o,p,q,r,s,d,f,g,i,j,k]) S =
  (zI (zA Try.prog 46 c 0 S) (fun t l=>zI (jf Try.prog false 3 t l) (fun v x=>zI (wB Try.prog BinOp.mul 3 v (Value.int IntKind.i64 65536) x) (fun w y=>zI (zA Try.prog 46 c 1 y) (fun z H=>zI (jf Try.prog false 3 z H) (fun A I=>zI (wB Try.prog BinOp.mul 3 A (Value.int IntKind.i64 256) I) (fun B J=>zI (wB Try.prog BinOp.add 3 w B J) (fun C K=>zI (zA Try.prog 46 c 2 K) (fun D L=>zI (jf Try.prog false 3 D L) (fun E M=>zI (wB Try.prog BinOp.add 3 C E M) (fun F G=>some ([b,c,F,m,n,o,t,v,w,z,A,B,C,D,E,dem F],G)) ()) ()) ()) ()) ()) ()) ()) ()) ()) ()):=by
 kernel_rfl
theorem wV.rs:type_of% (ak5 @wV.r0 (ak5 @wV.r1 (ak5 @wV.r2 (@wV.r3)))):=ak5 @wV.r0 (ak5 @wV.r1 (ak5 @wV.r2 (@wV.r3)))
theorem wV.runs {b:Value} {S l:zn} {e:AEx} {T:List Value} (h:zG Try.prog O false wV.code ([b,zh,zh,zh,zh,zh,zh,zh,zh,zh,zh,zh,zh,zh,zh,zh]) zn.empty=some (e,T,l)) (he:e=.normal∨e=.ret) (hca:[b].all (jP 16)=true) (hcv:jP 16 (T.getD 2 zh)=true):zW Try.prog O 23 [b] S=some (T.getD 2 zh,S) :=
 yu rfl rfl Try.func23 (by decide) wV.body (by exact h) he (yA (a:=T.getD 2 zh) ((show zK Try.prog T l Try.f23.results.toList=zK Try.prog T l [(ResultVar.tmp 2)] from by kernel_rfl).trans (by simp only [zK])) (by kernel_rfl)) hca hcv
end Go.Proofs.Ytfjogganfjkckaa
namespace Go.Proofs.Ytfjogganfjkckaa
open Go.Abs
abbrev jV.id:FuncId:=60
noncomputable def jV.code:Code:=(Code.seq (Code.region 0 (reg Try.f60 0) false) (Code.seq (Code.region 1 (reg Try.f60 1) false) Code.ret))
theorem jV.body:Try.f60.body=some jV.code:=by kernel_rfl
variable (b c d o p q z s t u i k l m n:Value) (S:zn)
theorem jV.r0 :jw Try.prog ⟨false,false,false⟩ (zW Try.prog O) (reg Try.f60 0) (reg Try.f60 0).toList ([b,c,d,o,p,q,z,s,t,u,i,k,l,m,n]) S =
  ( some ([b,c,d,o,p,q,Value.bool false,s,t,u,i,k,l,m,n],S)):=by
 kernel_rfl
theorem jV.r1 :jw Try.prog ⟨false,false,false⟩ (zW Try.prog O) (reg Try.f60 1) (reg Try.f60 1).toList ([b,c,d,o,p,q,z,s,t,u,i,k,l,m,n]) S =
  (zI (wB Try.prog BinOp.geq 3 (dem b) (dem c) S) (fun f g=>gdK (dem f) true (ret b) g (fun w A=>gdK (dem f) true (ret d) A (fun x B=>gdK (dem f) true (wB Try.prog BinOp.leq 3 (dem w) (dem x)) B (fun y C=>zI (wR (dem f) y (Value.bool false) C) (fun r D=>some ([b,c,d,o,p,q,r,dem b,dem c,f,dem f,dem w,dem x,y,dem r],D)) ()) ()) ()) ()) ()):=by
 refine sP Try.f60 1 0 (v:=b) ?_
 refine sP Try.f60 1 1 (v:=c) ?_
 refine sD Try.f60 1 2 (fun f g=>?_)
 refine sP Try.f60 1 3 (v:=f) ?_
 refine sG Try.f60 1 4 (j:=3) (fun w A=>?_)
 refine sG Try.f60 1 5 (j:=3) (fun x B=>?_)
 refine sG Try.f60 1 6 (j:=3) (fun y C=>?_)
 refine sD Try.f60 1 7 (fun r D=>?_)
 refine sP Try.f60 1 8 (v:=r) ?_
 kernel_rfl
theorem jV.rs:type_of% (ak5 @jV.r0 (@jV.r1)):=ak5 @jV.r0 (@jV.r1)
theorem jV.runs {b c d:Value} {S g:zn} {e:AEx} {T:List Value} (h:zG Try.prog O false jV.code ([b,c,d,zh,zh,zh,zh,zh,zh,zh,zh,zh,zh,zh,zh]) S=some (e,T,g)) (he:e=.normal∨e=.ret):zW Try.prog O 60 [b,c,d] S=some (T.getD 6 zh,g) :=
 yD rfl rfl Try.func60 (by decide) jV.body (by exact h) he (yA (a:=T.getD 6 zh) ((show zK Try.prog T g Try.f60.results.toList=zK Try.prog T g [(ResultVar.tmp 6)] from by kernel_rfl).trans (by simp only [zK])) (by kernel_rfl))
end Go.Proofs.Ytfjogganfjkckaa
namespace Go.Proofs.Ytfjogganfjkckaa
open Go.Abs
abbrev wO.id:FuncId:=61
noncomputable def wO.code:Code:=(Code.seq (Code.region 0 (reg Try.f61 0) false) (Code.seq (Code.region 1 (reg Try.f61 1) false) Code.ret))
theorem wO.body:Try.f61.body=some wO.code:=by kernel_rfl
variable (b g w k l m n o p q f:Value) (S:zn)
theorem wO.r0 :jw Try.prog ⟨false,false,false⟩ (zW Try.prog O) (reg Try.f61 0) (reg Try.f61 0).toList ([b,g,w,k,l,m,n,o,p,q,f]) S =
  ( some ([b,g,Value.bool false,k,l,m,n,o,p,q,f],S)):=by
 kernel_rfl
theorem wO.r1 :jw Try.prog ⟨false,false,false⟩ (zW Try.prog O) (reg Try.f61 1) (reg Try.f61 1).toList ([b,g,w,k,l,m,n,o,p,q,f]) S =
  (zI ((zW Try.prog O) 60 [(dem (dem b)),(Value.int IntKind.i64 65536),(Value.int IntKind.i64 268435455)] S) (fun c d=>gdK (dem c) true (ret b) d (fun r x=>gdK (dem c) true (wB Try.prog BinOp.rem 3 (dem r) (Value.int IntKind.i64 65536)) x (fun s y=>gdK (dem c) true (wB Try.prog BinOp.quo 3 s (Value.int IntKind.i64 256)) y (fun t z=>gdK (dem c) true (wB Try.prog BinOp.lss 3 t (Value.int IntKind.i64 7)) z (fun u A=>zI (wR (dem c) u (Value.bool false) A) (fun i B=>some ([b,g,i,dem b,c,dem c,dem r,s,t,u,dem i],B)) ()) ()) ()) ()) ()) ()):=by
 refine sP Try.f61 1 0 (v:=b) ?_
 refine sD Try.f61 1 1 (fun c d=>?_)
 refine sP Try.f61 1 2 (v:=c) ?_
 refine sG Try.f61 1 3 (j:=2) (fun r x=>?_)
 refine sG Try.f61 1 4 (j:=2) (fun s y=>?_)
 refine sG Try.f61 1 5 (j:=2) (fun t z=>?_)
 refine sG Try.f61 1 6 (j:=2) (fun u A=>?_)
 refine sD Try.f61 1 7 (fun i B=>?_)
 refine sP Try.f61 1 8 (v:=i) ?_
 kernel_rfl
theorem wO.rs:type_of% (ak5 @wO.r0 (@wO.r1)):=ak5 @wO.r0 (@wO.r1)
theorem wO.runs {b:Value} {S d:zn} {e:AEx} {T:List Value} (h:zG Try.prog O false wO.code ([b,zh,zh,zh,zh,zh,zh,zh,zh,zh,zh]) S=some (e,T,d)) (he:e=.normal∨e=.ret):zW Try.prog O 61 [b] S=some (T.getD 2 zh,d) :=
 yD rfl rfl Try.func61 (by decide) wO.body (by exact h) he (yA (a:=T.getD 2 zh) ((show zK Try.prog T d Try.f61.results.toList=zK Try.prog T d [(ResultVar.tmp 2)] from by kernel_rfl).trans (by simp only [zK])) (by kernel_rfl))
end Go.Proofs.Ytfjogganfjkckaa
namespace Go.Proofs.Ytfjogganfjkckaa
open Go.Abs
abbrev wX.id:FuncId:=74
noncomputable def wX.code:Code:=(Code.seq (Code.region 0 (reg Try.f74 0) false) (Code.seq (Code.seq (Code.region 1 (reg Try.f74 1) false) (Code.cond (Operand.tmp 5) (Code.seq (Code.region 2 (reg Try.f74 2) false) Code.ret) Code.skip)) (Code.seq (Code.region 3 (reg Try.f74 3) false) Code.ret)))
theorem wX.body:Try.f74.body=some wX.code:=by kernel_rfl
variable (b c l f g i j k:Value) (S:zn)
theorem wX.r0 :jw Try.prog ⟨false,false,false⟩ (zW Try.prog O) (reg Try.f74 0) (reg Try.f74 0).toList ([b,c,l,f,g,i,j,k]) S =
  ( some ([b,c,Value.int IntKind.i64 0,f,g,i,j,k],S)):=by
 kernel_rfl
theorem wX.r1 :jw Try.prog ⟨false,false,false⟩ (zW Try.prog O) (reg Try.f74 1) (reg Try.f74 1).toList ([b,c,l,f,g,i,j,k]) S =
  (zI ((zW Try.prog O) 61 [(dem (dem b))] S) (fun m d=>zI (aUn Try.prog UnOp.not m d) (fun n o=>some ([b,c,l,dem b,m,n,j,k],o)) ()) ()):=by
 kernel_rfl
theorem wX.r2 :jw Try.prog ⟨false,false,false⟩ (zW Try.prog O) (reg Try.f74 2) (reg Try.f74 2).toList ([b,c,l,f,g,i,j,k]) S =
  ( some ([b,c,Value.int IntKind.i64 0,f,g,i,j,k],S)):=by
 kernel_rfl
theorem wX.r3 :jw Try.prog ⟨false,false,false⟩ (zW Try.prog O) (reg Try.f74 3) (reg Try.f74 3).toList ([b,c,l,f,g,i,j,k]) S =
  (zI (wB Try.prog BinOp.quo 3 (dem b) (Value.int IntKind.i64 65536) S) (fun m d=>some ([b,c,m,f,g,i,dem b,dem m],d)) ()):=by
 kernel_rfl
theorem wX.rs:type_of% (ak5 @wX.r0 (ak5 @wX.r1 (ak5 @wX.r2 (@wX.r3)))):=ak5 @wX.r0 (ak5 @wX.r1 (ak5 @wX.r2 (@wX.r3)))
theorem wX.runs {b:Value} {S d:zn} {e:AEx} {T:List Value} (h:zG Try.prog O false wX.code ([b,zh,zh,zh,zh,zh,zh,zh]) S=some (e,T,d)) (he:e=.normal∨e=.ret):zW Try.prog O 74 [b] S=some (T.getD 2 zh,d) :=
 yD rfl rfl Try.func74 (by decide) wX.body (by exact h) he (yA (a:=T.getD 2 zh) ((show zK Try.prog T d Try.f74.results.toList=zK Try.prog T d [(ResultVar.tmp 2)] from by kernel_rfl).trans (by simp only [zK])) (by kernel_rfl))
end Go.Proofs.Ytfjogganfjkckaa
namespace Go.Proofs.Ytfjogganfjkckaa
open Go.Abs
abbrev jh.id:FuncId:=51
noncomputable def jh.code:Code:=(Code.seq (Code.region 0 (reg Try.f51 0) false) (Code.seq (Code.seq (Code.region 1 (reg Try.f51 1) false) (Code.cond (Operand.tmp 10) (Code.seq (Code.region 2 (reg Try.f51 2) false) Code.ret) Code.skip)) (Code.seq (Code.region 3 (reg Try.f51 3) false) (Code.seq (Code.region 4 (reg Try.f51 4) false) Code.ret))))
theorem jh.body:Try.f51.body=some jh.code:=by kernel_rfl
variable (a E H I J K b c C G d f g i k l m n o p q r s t u w x y z A B:Value) (S:zn)
theorem jh.r0 :jw Try.prog ⟨false,false,false⟩ (zW Try.prog O) (reg Try.f51 0) (reg Try.f51 0).toList ([a,E,H,I,J,K,b,c,C,G,d,f,g,i,k,l,m,n,o,p,q,r,s,t,u,w,x,y,z,A,B]) S =
  ( some ([a,E,Value.int IntKind.i64 0,Value.int IntKind.i64 0,Value.int IntKind.i64 0,Value.bool false,b,c,C,G,d,f,g,i,k,l,m,n,o,p,q,r,s,t,u,w,x,y,z,A,B],S)):=by
 kernel_rfl
theorem jh.r1 :jw Try.prog ⟨false,false,false⟩ (zW Try.prog O) (reg Try.f51 1) (reg Try.f51 1).toList ([a,E,H,I,J,K,b,c,C,G,d,f,g,i,k,l,m,n,o,p,q,r,s,t,u,w,x,y,z,A,B]) S =
  (zI (wB Try.prog BinOp.lss 3 (dem a) (Value.int IntKind.i64 0) S) (fun R D=>some ([a,E,H,I,J,K,b,c,C,dem a,R,f,g,i,k,l,m,n,o,p,q,r,s,t,u,w,x,y,z,A,B],D)) ()):=by
 kernel_rfl
theorem jh.r2 :jw Try.prog ⟨false,false,false⟩ (zW Try.prog O) (reg Try.f51 2) (reg Try.f51 2).toList ([a,E,H,I,J,K,b,c,C,G,d,f,g,i,k,l,m,n,o,p,q,r,s,t,u,w,x,y,z,A,B]) S =
  ( some ([a,E,Value.int IntKind.i64 0,Value.int IntKind.i64 0,Value.int IntKind.i64 0,Value.bool false,b,c,C,G,d,f,g,i,k,l,m,n,o,p,q,r,s,t,u,w,x,y,z,A,B],S)):=by
 kernel_rfl
theorem jh.r3 :jw Try.prog ⟨false,false,false⟩ (zW Try.prog O) (reg Try.f51 3) (reg Try.f51 3).toList ([a,E,H,I,J,K,b,c,C,G,d,f,g,i,k,l,m,n,o,p,q,r,s,t,u,w,x,y,z,A,B]) S =
  (zI (wB Try.prog BinOp.quo 3 (dem a) (Value.int IntKind.i64 65536) S) (fun R D=>zI (wB Try.prog BinOp.quo 3 (dem a) (Value.int IntKind.i64 256) D) (fun Y U=>zI (wB Try.prog BinOp.rem 3 Y (Value.int IntKind.i64 256) U) (fun F V=>zI (wB Try.prog BinOp.rem 3 (dem a) (Value.int IntKind.i64 256) V) (fun N W=>some ([a,E,H,I,J,K,R,F,N,G,d,dem a,dem R,dem a,Y,dem F,dem a,dem N,o,p,q,r,s,t,u,w,x,y,z,A,B],W)) ()) ()) ()) ()):=by
 kernel_rfl
theorem jh.r4 :jw Try.prog ⟨false,false,false⟩ (zW Try.prog O) (reg Try.f51 4) (reg Try.f51 4).toList ([a,E,H,I,J,K,b,c,C,G,d,f,g,i,k,l,m,n,o,p,q,r,s,t,u,w,x,y,z,A,B]) S =
  (zI (wB Try.prog BinOp.geq 3 (dem (dem b)) (Value.int IntKind.i64 1) S) (fun F D=>gdK (dem F) true (ret (dem b)) D (fun N U=>gdK (dem F) true (wB Try.prog BinOp.leq 3 (dem N) (Value.int IntKind.i64 4095)) U (fun X V=>zI (wR (dem F) X (Value.bool false) V) (fun L W=>gdK (dem L) true (ret (dem c)) W (fun P Z=>gdK (dem L) true (wB Try.prog BinOp.leq 3 (dem P) (Value.int IntKind.i64 6)) Z (fun Q S6=>zI (wR (dem L) Q (Value.bool false) S6) (fun M S7=>some ([a,E,b,c,C,M,dem b,dem c,dem C,G,d,f,g,i,k,l,m,n,dem b,dem c,dem C,dem (dem b),F,dem F,dem N,X,L,dem L,dem P,Q,dem M],S7)) ()) ()) ()) ()) ()) ()) ()):=by
 refine sP Try.f51 4 0 (v:=b) ?_
 refine sP Try.f51 4 1 (v:=c) ?_
 refine sP Try.f51 4 2 (v:=C) ?_
 refine sP Try.f51 4 3 (v:=(dem b)) ?_
 refine sD Try.f51 4 4 (fun F D=>?_)
 refine sP Try.f51 4 5 (v:=F) ?_
 refine sG Try.f51 4 6 (j:=5) (fun N U=>?_)
 refine sG Try.f51 4 7 (j:=5) (fun X V=>?_)
 refine sD Try.f51 4 8 (fun L W=>?_)
 refine sP Try.f51 4 9 (v:=L) ?_
 refine sG Try.f51 4 10 (j:=9) (fun P Z=>?_)
 refine sG Try.f51 4 11 (j:=9) (fun Q S6=>?_)
 refine sD Try.f51 4 12 (fun M S7=>?_)
 refine sP Try.f51 4 13 (v:=b) ?_
 refine sP Try.f51 4 14 (v:=c) ?_
 refine sP Try.f51 4 15 (v:=C) ?_
 refine sP Try.f51 4 16 (v:=M) ?_
 kernel_rfl
theorem jh.rs:type_of% (ak5 @jh.r0 (ak5 @jh.r1 (ak5 @jh.r2 (ak5 @jh.r3 (@jh.r4))))):=ak5 @jh.r0 (ak5 @jh.r1 (ak5 @jh.r2 (ak5 @jh.r3 (@jh.r4))))
theorem jh.runs {a:Value} {S D:zn} {e:AEx} {T:List Value} (h:zG Try.prog O false jh.code ([a,zh,zh,zh,zh,zh,zh,zh,zh,zh,zh,zh,zh,zh,zh,zh,zh,zh,zh,zh,zh,zh,zh,zh,zh,zh,zh,zh,zh,zh,zh]) S=some (e,T,D)) (he:e=.normal∨e=.ret)  (h0:wu (T.getD 2 zh)=true) (h1:wu (T.getD 3 zh)=true) (h2:wu (T.getD 4 zh)=true) (h3:wu (T.getD 5 zh)=true):zW Try.prog O 51 [a] S=some (Value.tuple #[T.getD 2 zh,T.getD 3 zh,T.getD 4 zh,T.getD 5 zh],D) :=
 yD rfl rfl Try.func51 (by decide) jh.body (by exact h) he ((yY ((show zK Try.prog T D Try.f51.results.toList=zK Try.prog T D [(ResultVar.tmp 2),(ResultVar.tmp 3),(ResultVar.tmp 4),(ResultVar.tmp 5)] from by kernel_rfl).trans (by simp only [zK])) (by kernel_rfl) (by simp only [List.all_cons,List.all_nil,h0,h1,h2,h3,Bool.and_true])).trans rfl)
end Go.Proofs.Ytfjogganfjkckaa
namespace Go.Proofs.Ytfjogganfjkckaa
open Go.Abs
def btw (n a b:Int):Bool:=decide (a≤n) && decide (n≤b)
theorem KI {n a b:Int}:btw n a b=true ↔ a≤n∧n≤b:=by simp [btw]
def xu (n:Int):Bool:=btw n 65536 268435455 && decide (n % 65536 / 256 < 7)
theorem xY {n:Int}:xu n=true ↔ 65536≤n∧n≤268435455∧n % 65536 / 256 < 7:=by simp [xu,btw,and_assoc]
def Yo (n:Int):Int:=if xu n=true then n / 65536 else 0
theorem Vg {n m:Int} (h:0≤n):n.tmod m=n % m:=Int.tmod_eq_emod_of_nonneg h
theorem YR {n m:Int} (h:0≤n):n.tdiv m=n / m:=Int.tdiv_eq_ediv_of_nonneg h
theorem Qs:(65536:Int)≠0:=by decide
theorem aja:(256:Int)≠0:=by decide
theorem jV.v (n a b:Int) (S:zn):zW Try.prog O jV.id [.int .i64 n,.int .i64 a,.int .i64 b] S=some (.bool (btw n a b),S):=by
 obtain ⟨T,hTe⟩:∃ T,T=(.int .i64 n::.int .i64 a::.int .i64 b::zh::zh::zh::zh::zh::zh::zh::zh::zh::zh::zh::zh::[]):=⟨_,rfl⟩
 have hr:zG Try.prog O false jV.code T S=zG Try.prog O false jV.code T S:=rfl
 unfold btw
 by_cases h1:a≤n
 ·
  conv at hr =>
   rhs
   rw [hTe]
   simp only [jV.code,jV.rs,zSs,reduceIte,Nat.reduceEqDiff,Int.reduceEq,Int.reduceLT,Int.reduceLE,decide_eq_true h1]
  rw [decide_eq_true h1,Bool.true_and]
  rw [hTe] at hr
  exact jV.runs hr (.inr rfl)
 ·
  conv at hr =>
   rhs
   rw [hTe]
   simp only [jV.code,jV.rs,zSs,reduceIte,Nat.reduceEqDiff,Int.reduceEq,Int.reduceLT,Int.reduceLE,decide_eq_false h1]
  rw [decide_eq_false h1,Bool.false_and]
  rw [hTe] at hr
  exact jV.runs hr (.inr rfl)
theorem wO.v (n:Int) (S:zn):zW Try.prog O wO.id [.int .i64 n] S=some (.bool (xu n),S):=by
 obtain ⟨T,hTe⟩:∃ T,T=(.int .i64 n::zh::zh::zh::zh::zh::zh::zh::zh::zh::zh::[]):=⟨_,rfl⟩
 have hr:zG Try.prog O false wO.code T S=zG Try.prog O false wO.code T S:=rfl
 unfold xu
 cases h1:btw n 65536 268435455
 ·
  conv at hr =>
   rhs
   rw [hTe]
   simp only [wO.code,wO.rs,zSs,reduceIte,Nat.reduceEqDiff,Int.reduceEq,Int.reduceLT,Int.reduceLE,jV.v,h1]
  rw [hTe] at hr
  exact wO.runs hr (.inr rfl)
 ·
  have hb:=KI.mp h1
  have q1:IntKind.i64.wrap ((n.tmod 65536).tdiv 256)=n % 65536 / 256:=by
   rw [Vg (by omega),YR (by omega),wrap_i64 (by omega) (by omega)]
  conv at hr =>
   rhs
   rw [hTe]
   simp only [wO.code,wO.rs,zSs,reduceIte,Nat.reduceEqDiff,Int.reduceEq,Int.reduceLT,Int.reduceLE,jV.v,h1,WG _ _ _ Qs,xK _ _ _ aja,q1]
  rw [hTe] at hr
  rw [Bool.true_and]
  exact wO.runs hr (.inr rfl)
theorem wX.v (n:Int) (S:zn):zW Try.prog O wX.id [.int .i64 n] S=some (.int .i64 (Yo n),S):=by
 obtain ⟨T,hTe⟩:∃ T,T=(.int .i64 n::zh::zh::zh::zh::zh::zh::zh::[]):=⟨_,rfl⟩
 have hr:zG Try.prog O false wX.code T S=zG Try.prog O false wX.code T S:=rfl
 unfold Yo
 cases h1:xu n
 ·
  conv at hr =>
   rhs
   rw [hTe]
   simp only [wX.code,wX.rs,zSs,reduceIte,Nat.reduceEqDiff,Int.reduceEq,Int.reduceLT,Int.reduceLE,wO.v,h1]
  rw [hTe] at hr
  exact wX.runs hr (.inr rfl)
 ·
  have hb:=xY.mp h1
  have q1:IntKind.i64.wrap (n.tdiv 65536)=n / 65536:=by
   rw [YR (by omega),wrap_i64 (by omega) (by omega)]
  conv at hr =>
   rhs
   rw [hTe]
   simp only [wX.code,wX.rs,zSs,reduceIte,Nat.reduceEqDiff,Int.reduceEq,Int.reduceLT,Int.reduceLE,wO.v,h1,xK _ _ _ Qs,q1]
  rw [hTe] at hr
  exact wX.runs hr (.inr rfl)
def abk (n:Int):Value:=if n < 0 then .tuple #[.int .i64 0,.int .i64 0,.int .i64 0,.bool false] else .tuple #[.int .i64 (n / 65536),.int .i64 (n / 256 % 256),.int .i64 (n % 256),.bool (xu n)]
theorem jh.v (n:Int) (hn:n < 9223372036854775808) (S:zn):zW Try.prog O jh.id [.int .i64 n] S=some (abk n,S):=by
 obtain ⟨T,hTe⟩:∃ T,T=(.int .i64 n::zh::zh::zh::zh::zh::zh::zh::zh::zh::zh::zh::zh::zh::zh::zh::zh::zh::zh::zh::zh::zh::zh::zh::zh::zh::zh::zh::zh::zh::zh::[]):=⟨_,rfl⟩
 have hr:zG Try.prog O false jh.code T S=zG Try.prog O false jh.code T S:=rfl
 unfold abk
 by_cases h0:n < 0
 ·
  conv at hr =>
   rhs
   rw [hTe]
   simp only [jh.code,jh.rs,zSs,reduceIte,Nat.reduceEqDiff,Int.reduceEq,Int.reduceLT,Int.reduceLE,decide_eq_true h0]
  rw [hTe] at hr
  rw [if_pos h0]
  exact jh.runs hr (.inr rfl) rfl rfl rfl rfl
 ·
  have q1:IntKind.i64.wrap (n.tdiv 65536)=n / 65536:=by
   rw [YR (by omega),wrap_i64 (by omega) (by omega)]
  have q2:(IntKind.i64.wrap (n.tdiv 256)).tmod 256=n / 256 % 256:=by
   rw [YR (by omega),wrap_i64 (by omega) (by omega),Vg (by omega)]
  have q3:n.tmod 256=n % 256:=Vg (by omega)
  rw [if_neg h0]
  by_cases h1:1≤n / 65536
  ·
   by_cases h2:n / 65536≤4095
   ·
    have e:xu n=decide (n / 256 % 256≤6):=by
     rw [Bool.eq_iff_iff,xY];simp;omega
    rw [e]
    conv at hr =>
     rhs
     rw [hTe]
     simp only [jh.code,jh.rs,zSs,reduceIte,Nat.reduceEqDiff,Int.reduceEq,Int.reduceLT,Int.reduceLE,decide_eq_false h0,WG _ _ _ aja,xK _ _ _ aja,xK _ _ _ Qs,q1,q2,q3,decide_eq_true h1,decide_eq_true h2]
    rw [hTe] at hr
    exact jh.runs hr (.inr rfl) rfl rfl rfl rfl
   ·
    have e:xu n=false:=by
     cases h:xu n with
     | false=>rfl
     | true=>have:=xY.mp h;omega
    rw [e]
    conv at hr =>
     rhs
     rw [hTe]
     simp only [jh.code,jh.rs,zSs,reduceIte,Nat.reduceEqDiff,Int.reduceEq,Int.reduceLT,Int.reduceLE,decide_eq_false h0,WG _ _ _ aja,xK _ _ _ aja,xK _ _ _ Qs,q1,q2,q3,decide_eq_true h1,decide_eq_false h2]
    rw [hTe] at hr
    exact jh.runs hr (.inr rfl) rfl rfl rfl rfl
  ·
   have e:xu n=false:=by
    cases h:xu n with
    | false=>rfl
    | true=>have:=xY.mp h;omega
   rw [e]
   conv at hr =>
    rhs
    rw [hTe]
    simp only [jh.code,jh.rs,zSs,reduceIte,Nat.reduceEqDiff,Int.reduceEq,Int.reduceLT,Int.reduceLE,decide_eq_false h0,WG _ _ _ aja,xK _ _ _ aja,xK _ _ _ Qs,q1,q2,q3,decide_eq_false h1]
   rw [hTe] at hr
   exact jh.runs hr (.inr rfl) rfl rfl rfl rfl
end Go.Proofs.Ytfjogganfjkckaa
namespace Go.Proofs.Ytfjogganfjkckaa
open Go.Abs
abbrev zQ.id:FuncId:=65
noncomputable def zQ.jL:Code:=(Code.seq (Code.region 6 (reg Try.f65 6) false) (Code.seq (Code.cond (Operand.tmp 35) Code.skip (Code.exit 0)) (Code.seq (Code.block 1 (Code.seq (Code.region 7 (reg Try.f65 7) false) (Code.seq (Code.seq (Code.region 8 (reg Try.f65 8) false) (Code.cond (Operand.tmp 43) (Code.seq (Code.region 9 (reg Try.f65 9) false) Code.ret) Code.skip)) (Code.seq (Code.region 10 (reg Try.f65 10) false) (Code.region 11 (reg Try.f65 11) false))))) (Code.region 12 (reg Try.f65 12) false))))
noncomputable def zQ.code:Code:=(Code.seq (Code.region 0 (reg Try.f65 0) false) (Code.seq (Code.region 1 (reg Try.f65 1) false) (Code.seq (Code.seq (Code.region 2 (reg Try.f65 2) false) (Code.cond (Operand.tmp 30) (Code.seq (Code.region 3 (reg Try.f65 3) false) Code.ret) Code.skip)) (Code.seq (Code.region 4 (reg Try.f65 4) false) (Code.seq (Code.seq (Code.region 5 (reg Try.f65 5) false) (Code.block 0 (Code.loop zQ.jL))) (Code.seq (Code.seq (Code.region 13 (reg Try.f65 13) false) (Code.cond (Operand.tmp 57) (Code.seq (Code.region 14 (reg Try.f65 14) false) Code.ret) Code.skip)) (Code.seq (Code.region 15 (reg Try.f65 15) false) Code.ret)))))))
theorem zQ.body:Try.f65.body=some zQ.code:=by kernel_rfl
theorem zQ.eta {T:List Value} (h:T.length=59):T=[T.getD 0 zh,T.getD 1 zh,T.getD 2 zh,T.getD 3 zh,T.getD 4 zh,T.getD 5 zh,T.getD 6 zh,T.getD 7 zh,T.getD 8 zh,T.getD 9 zh,T.getD 10 zh,T.getD 11 zh,T.getD 12 zh,T.getD 13 zh,T.getD 14 zh,T.getD 15 zh,T.getD 16 zh,T.getD 17 zh,T.getD 18 zh,T.getD 19 zh,T.getD 20 zh,T.getD 21 zh,T.getD 22 zh,T.getD 23 zh,T.getD 24 zh,T.getD 25 zh,T.getD 26 zh,T.getD 27 zh,T.getD 28 zh,T.getD 29 zh,T.getD 30 zh,T.getD 31 zh,T.getD 32 zh,T.getD 33 zh,T.getD 34 zh,T.getD 35 zh,T.getD 36 zh,T.getD 37 zh,T.getD 38 zh,T.getD 39 zh,T.getD 40 zh,T.getD 41 zh,T.getD 42 zh,T.getD 43 zh,T.getD 44 zh,T.getD 45 zh,T.getD 46 zh,T.getD 47 zh,T.getD 48 zh,T.getD 49 zh,T.getD 50 zh,T.getD 51 zh,T.getD 52 zh,T.getD 53 zh,T.getD 54 zh,T.getD 55 zh,T.getD 56 zh,T.getD 57 zh,T.getD 58 zh]:=(qC T 59 h).trans (by kernel_rfl)
variable (x0 x1 x2 x3 x4 x5 x6 x7 x8 x9 a d f g i k l m n o p q r s t u w x y z A B C b c D E F G H I J K L M N P Q R U V W X Y Z a0 a1 a2 a3:Value) (S:zn)
theorem zQ.r0 :jw Try.prog ⟨false,false,false⟩ (zW Try.prog O) (reg Try.f65 0) (reg Try.f65 0).toList ([x0,x1,x2,x3,x4,x5,x6,x7,x8,x9,a,d,f,g,i,k,l,m,n,o,p,q,r,s,t,u,w,x,y,z,A,B,C,b,c,D,E,F,G,H,I,J,K,L,M,N,P,Q,R,U,V,W,X,Y,Z,a0,a1,a2,a3]) S =
  ( some ([x0,x1,Value.slice none 0 0,Value.int IntKind.i64 0,x4,x5,x6,x7,x8,x9,a,d,f,g,i,k,l,m,n,o,p,q,r,s,t,u,w,x,y,z,A,B,C,b,c,D,E,F,G,H,I,J,K,L,M,N,P,Q,R,U,V,W,X,Y,Z,a0,a1,a2,a3],S)):=by
 kernel_rfl
theorem zQ.r1 :jw Try.prog ⟨false,false,false⟩ (zW Try.prog O) (reg Try.f65 1) (reg Try.f65 1).toList ([x0,x1,x2,x3,x4,x5,x6,x7,x8,x9,a,d,f,g,i,k,l,m,n,o,p,q,r,s,t,u,w,x,y,z,A,B,C,b,c,D,E,F,G,H,I,J,K,L,M,N,P,Q,R,U,V,W,X,Y,Z,a0,a1,a2,a3]) S =
  (zI ((zW Try.prog O) 55 [(dem (dem x0)),(Value.int IntKind.i64 1)] S) (fun v1 S1=>zI (zU v1 0 S1) (fun v3 S2=>zI (zU (zO 0 v1) 1 S2) (fun v4 S3=>zI (zU (zO 1 (zO 0 v1)) 2 S3) (fun v5 S4=>some ([x0,x1,x2,x3,v3,v4,v5,x7,x8,x9,a,zO 2 (zO 1 (zO 0 v1)),dem x0,dem v1,dem v3,dem v4,dem v5,m,n,o,p,q,r,s,t,u,w,x,y,z,A,B,C,b,c,D,E,F,G,H,I,J,K,L,M,N,P,Q,R,U,V,W,X,Y,Z,a0,a1,a2,a3],S4)) ()) ()) ()) ()):=by
 kernel_rfl
theorem zQ.r2 :jw Try.prog ⟨false,false,false⟩ (zW Try.prog O) (reg Try.f65 2) (reg Try.f65 2).toList ([x0,x1,x2,x3,x4,x5,x6,x7,x8,x9,a,d,f,g,i,k,l,m,n,o,p,q,r,s,t,u,w,x,y,z,A,B,C,b,c,D,E,F,G,H,I,J,K,L,M,N,P,Q,R,U,V,W,X,Y,Z,a0,a1,a2,a3]) S =
  (zI (wB Try.prog BinOp.neq 64 (dem x6) (Value.int IntKind.i64 0) S) (fun v1 S1=>gdK (dem v1) false (ret x4) S1 (fun v3 S2=>gdK (dem v1) false (jo Try.prog 24 (dem v3) (Value.int IntKind.i64 0)) S2 (fun v4 S3=>gdK (dem v1) false (jf Try.prog false 3 v4) S3 (fun v5 S4=>gdK (dem v1) false (wB Try.prog BinOp.lss 3 v5 (Value.int IntKind.i64 0)) S4 (fun v6 S5=>zI (wR (dem v1) (Value.bool true) v6 S5) (fun v7 S6=>gdK (dem v7) false (ret x4) S6 (fun v9 S7=>gdK (dem v7) false (jo Try.prog 24 (dem v9) (Value.int IntKind.i64 0)) S7 (fun a4 S8=>gdK (dem v7) false (jf Try.prog false 3 a4) S8 (fun a5 S9=>gdK (dem v7) false (wB Try.prog BinOp.gtr 3 a5 (Value.int IntKind.i64 3)) S9 (fun a6 a7=>zI (wR (dem v7) (Value.bool true) a6 a7) (fun a8 a9=>some ([x0,x1,x2,x3,x4,x5,x6,x7,x8,x9,a,d,f,g,i,k,l,dem x6,v1,dem v1,dem v3,v4,v5,v6,v7,dem v7,dem v9,a4,a5,a6,a8,B,C,b,c,D,E,F,G,H,I,J,K,L,M,N,P,Q,R,U,V,W,X,Y,Z,a0,a1,a2,a3],a9)) ()) ()) ()) ()) ()) ()) ()) ()) ()) ()) ()):=by
 refine sP Try.f65 2 0 (v:=x6) ?_
 refine sD Try.f65 2 1 (fun v1 S1=>?_)
 refine sP Try.f65 2 2 (v:=v1) ?_
 refine sG Try.f65 2 3 (j:=2) (fun v3 S2=>?_)
 refine sG Try.f65 2 4 (j:=2) (fun v4 S3=>?_)
 refine sG Try.f65 2 5 (j:=2) (fun v5 S4=>?_)
 refine sG Try.f65 2 6 (j:=2) (fun v6 S5=>?_)
 refine sD Try.f65 2 7 (fun v7 S6=>?_)
 refine sP Try.f65 2 8 (v:=v7) ?_
 refine sG Try.f65 2 9 (j:=8) (fun v9 S7=>?_)
 refine sG Try.f65 2 10 (j:=8) (fun a4 S8=>?_)
 refine sG Try.f65 2 11 (j:=8) (fun a5 S9=>?_)
 refine sG Try.f65 2 12 (j:=8) (fun a6 a7=>?_)
 refine sD Try.f65 2 13 (fun a8 a9=>?_)
 kernel_rfl
theorem zQ.r3 :jw Try.prog ⟨false,false,false⟩ (zW Try.prog O) (reg Try.f65 3) (reg Try.f65 3).toList ([x0,x1,x2,x3,x4,x5,x6,x7,x8,x9,a,d,f,g,i,k,l,m,n,o,p,q,r,s,t,u,w,x,y,z,A,B,C,b,c,D,E,F,G,H,I,J,K,L,M,N,P,Q,R,U,V,W,X,Y,Z,a0,a1,a2,a3]) S =
  ( some ([x0,x1,Value.slice none 0 0,Value.int IntKind.i64 61,x4,x5,x6,x7,x8,x9,a,d,f,g,i,k,l,m,n,o,p,q,r,s,t,u,w,x,y,z,A,B,C,b,c,D,E,F,G,H,I,J,K,L,M,N,P,Q,R,U,V,W,X,Y,Z,a0,a1,a2,a3],S)):=by
 kernel_rfl
theorem zQ.r4 :jw Try.prog ⟨false,false,false⟩ (zW Try.prog O) (reg Try.f65 4) (reg Try.f65 4).toList ([x0,x1,x2,x3,x4,x5,x6,x7,x8,x9,a,d,f,g,i,k,l,m,n,o,p,q,r,s,t,u,w,x,y,z,A,B,C,b,c,D,E,F,G,H,I,J,K,L,M,N,P,Q,R,U,V,W,X,Y,Z,a0,a1,a2,a3]) S =
  ( some ([x0,x1,x2,x3,x4,x5,x6,Value.slice none 0 0,x8,x9,a,d,f,g,i,k,l,m,n,o,p,q,r,s,t,u,w,x,y,z,A,B,C,b,c,D,E,F,G,H,I,J,K,L,M,N,P,Q,R,U,V,W,X,Y,Z,a0,a1,a2,a3],S)):=by
 kernel_rfl
theorem zQ.r5 :jw Try.prog ⟨false,false,false⟩ (zW Try.prog O) (reg Try.f65 5) (reg Try.f65 5).toList ([x0,x1,x2,x3,x4,x5,x6,x7,x8,x9,a,d,f,g,i,k,l,m,n,o,p,q,r,s,t,u,w,x,y,z,A,B,C,b,c,D,E,F,G,H,I,J,K,L,M,N,P,Q,R,U,V,W,X,Y,Z,a0,a1,a2,a3]) S =
  (zI (jo Try.prog 24 (dem x4) (Value.int IntKind.i64 0) S) (fun v1 S1=>zI (jf Try.prog false 3 v1 S1) (fun v2 S2=>some ([x0,x1,x2,x3,x4,x5,x6,x7,x8,x9,a,d,f,g,i,k,l,m,n,o,p,q,r,s,t,u,w,x,y,z,A,dem x4,v1,v2,Value.int IntKind.i64 0,D,E,F,G,H,I,J,K,L,M,N,P,Q,R,U,V,W,X,Y,Z,a0,a1,a2,a3],S2)) ()) ()):=by
 kernel_rfl
theorem zQ.r6 :jw Try.prog ⟨false,false,false⟩ (zW Try.prog O) (reg Try.f65 6) (reg Try.f65 6).toList ([x0,x1,x2,x3,x4,x5,x6,x7,x8,x9,a,d,f,g,i,k,l,m,n,o,p,q,r,s,t,u,w,x,y,z,A,B,C,b,c,D,E,F,G,H,I,J,K,L,M,N,P,Q,R,U,V,W,X,Y,Z,a0,a1,a2,a3]) S =
  (zI (wB Try.prog BinOp.lss 3 c b S) (fun v0 S1=>some ([x0,x1,x2,x3,x4,x5,x6,x7,x8,x9,a,d,f,g,i,k,l,m,n,o,p,q,r,s,t,u,w,x,y,z,A,B,C,b,c,v0,E,F,G,H,I,J,K,L,M,N,P,Q,R,U,V,W,X,Y,Z,a0,a1,a2,a3],S1)) ()):=by
 kernel_rfl
theorem zQ.r7 :jw Try.prog ⟨false,false,false⟩ (zW Try.prog O) (reg Try.f65 7) (reg Try.f65 7).toList ([x0,x1,x2,x3,x4,x5,x6,x7,x8,x9,a,d,f,g,i,k,l,m,n,o,p,q,r,s,t,u,w,x,y,z,A,B,C,b,c,D,E,F,G,H,I,J,K,L,M,N,P,Q,R,U,V,W,X,Y,Z,a0,a1,a2,a3]) S =
  (zI ((zW Try.prog O) 64 [(dem (dem x5))] S) (fun v1 S1=>zI (zU v1 0 S1) (fun v3 S2=>zI (zU (zO 0 v1) 1 S2) (fun v4 S3=>zI (zU (zO 1 (zO 0 v1)) 2 S3) (fun v5 S4=>zI (yG Try.prog 43 S4) (fun v6 S5=>zI (wM Try.prog 43 v6 (dem v3) S5) (fun v7 S6=>some ([x0,x1,x2,x3,x4,x5,x6,x7,v6,v4,v5,d,f,g,i,k,l,m,n,o,p,q,r,s,t,u,w,x,y,z,A,B,C,b,c,D,zO 2 (zO 1 (zO 0 v1)),dem x5,dem v1,v3,dem v4,dem v5,K,L,M,N,P,Q,R,U,V,W,X,Y,Z,a0,a1,a2,a3],S6)) ()) ()) ()) ()) ()) ()):=by
 kernel_rfl
theorem zQ.r8 :jw Try.prog ⟨false,false,false⟩ (zW Try.prog O) (reg Try.f65 8) (reg Try.f65 8).toList ([x0,x1,x2,x3,x4,x5,x6,x7,x8,x9,a,d,f,g,i,k,l,m,n,o,p,q,r,s,t,u,w,x,y,z,A,B,C,b,c,D,E,F,G,H,I,J,K,L,M,N,P,Q,R,U,V,W,X,Y,Z,a0,a1,a2,a3]) S =
  (zI (aUn Try.prog UnOp.not (dem a) S) (fun v1 S1=>some ([x0,x1,x2,x3,x4,x5,x6,x7,x8,x9,a,d,f,g,i,k,l,m,n,o,p,q,r,s,t,u,w,x,y,z,A,B,C,b,c,D,E,F,G,H,I,J,dem a,v1,M,N,P,Q,R,U,V,W,X,Y,Z,a0,a1,a2,a3],S1)) ()):=by
 kernel_rfl
theorem zQ.r9 :jw Try.prog ⟨false,false,false⟩ (zW Try.prog O) (reg Try.f65 9) (reg Try.f65 9).toList ([x0,x1,x2,x3,x4,x5,x6,x7,x8,x9,a,d,f,g,i,k,l,m,n,o,p,q,r,s,t,u,w,x,y,z,A,B,C,b,c,D,E,F,G,H,I,J,K,L,M,N,P,Q,R,U,V,W,X,Y,Z,a0,a1,a2,a3]) S =
  ( some ([x0,x1,Value.slice none 0 0,Value.int IntKind.i64 61,x4,x5,x6,x7,x8,x9,a,d,f,g,i,k,l,m,n,o,p,q,r,s,t,u,w,x,y,z,A,B,C,b,c,D,E,F,G,H,I,J,K,L,M,N,P,Q,R,U,V,W,X,Y,Z,a0,a1,a2,a3],S)):=by
 kernel_rfl
theorem zQ.r10 :jw Try.prog ⟨false,false,false⟩ (zW Try.prog O) (reg Try.f65 10) (reg Try.f65 10).toList ([x0,x1,x2,x3,x4,x5,x6,x7,x8,x9,a,d,f,g,i,k,l,m,n,o,p,q,r,s,t,u,w,x,y,z,A,B,C,b,c,D,E,F,G,H,I,J,K,L,M,N,P,Q,R,U,V,W,X,Y,Z,a0,a1,a2,a3]) S =
  (zI (jf Try.prog false 43 x8 S) (fun v1 S1=>zI (jH Try.prog 44 1 [(0,v1)] S1) (fun v2 S2=>zI (wP Try.prog 44 44 x7 v2 S2) (fun v3 S3=>some ([x0,x1,x2,x3,x4,x5,x6,v3,x8,x9,a,d,f,g,i,k,l,m,n,o,p,q,r,s,t,u,w,x,y,z,A,B,C,b,c,D,E,F,G,H,I,J,K,L,dem x7,v1,v2,dem v3,R,U,V,W,X,Y,Z,a0,a1,a2,a3],S3)) ()) ()) ()):=by
 kernel_rfl
theorem zQ.r11 :jw Try.prog ⟨false,false,false⟩ (zW Try.prog O) (reg Try.f65 11) (reg Try.f65 11).toList ([x0,x1,x2,x3,x4,x5,x6,x7,x8,x9,a,d,f,g,i,k,l,m,n,o,p,q,r,s,t,u,w,x,y,z,A,B,C,b,c,D,E,F,G,H,I,J,K,L,M,N,P,Q,R,U,V,W,X,Y,Z,a0,a1,a2,a3]) S =
  ( some ([x0,x1,x2,x3,x4,x9,x6,x7,x8,dem x9,a,d,f,g,i,k,l,m,n,o,p,q,r,s,t,u,w,x,y,z,A,B,C,b,c,D,E,F,G,H,I,J,K,L,M,N,P,Q,dem x9,U,V,W,X,Y,Z,a0,a1,a2,a3],S)):=by
 kernel_rfl
theorem zQ.r12 :jw Try.prog ⟨false,false,false⟩ (zW Try.prog O) (reg Try.f65 12) (reg Try.f65 12).toList ([x0,x1,x2,x3,x4,x5,x6,x7,x8,x9,a,d,f,g,i,k,l,m,n,o,p,q,r,s,t,u,w,x,y,z,A,B,C,b,c,D,E,F,G,H,I,J,K,L,M,N,P,Q,R,U,V,W,X,Y,Z,a0,a1,a2,a3]) S =
  (zI (wB Try.prog BinOp.add 3 c (Value.int IntKind.i64 1) S) (fun v0 S1=>some ([x0,x1,x2,x3,x4,x5,x6,x7,x8,x9,a,d,f,g,i,k,l,m,n,o,p,q,r,s,t,u,w,x,y,z,A,B,C,b,dem v0,D,E,F,G,H,I,J,K,L,M,N,P,Q,R,v0,V,W,X,Y,Z,a0,a1,a2,a3],S1)) ()):=by
 kernel_rfl
theorem zQ.r13 :jw Try.prog ⟨false,false,false⟩ (zW Try.prog O) (reg Try.f65 13) (reg Try.f65 13).toList ([x0,x1,x2,x3,x4,x5,x6,x7,x8,x9,a,d,f,g,i,k,l,m,n,o,p,q,r,s,t,u,w,x,y,z,A,B,C,b,c,D,E,F,G,H,I,J,K,L,M,N,P,Q,R,U,V,W,X,Y,Z,a0,a1,a2,a3]) S =
  (zI (Zz Try.prog 33 (dem x5) S) (fun v1 S1=>zI (wB Try.prog BinOp.gtr 3 v1 (Value.int IntKind.i64 0) S1) (fun v2 S2=>gdK (dem v2) false (ret x7) S2 (fun v4 S3=>gdK (dem v2) false ((zW Try.prog O) 70 [(dem (dem v4))]) S3 (fun v5 S4=>gdK (dem v2) false (aUn Try.prog UnOp.not v5) S4 (fun v6 S5=>zI (wR (dem v2) (Value.bool true) v6 S5) (fun v7 S6=>some ([x0,x1,x2,x3,x4,x5,x6,x7,x8,x9,a,d,f,g,i,k,l,m,n,o,p,q,r,s,t,u,w,x,y,z,A,B,C,b,c,D,E,F,G,H,I,J,K,L,M,N,P,Q,R,U,dem x5,v1,v2,dem v2,dem v4,v5,v6,v7,a3],S6)) ()) ()) ()) ()) ()) ()):=by
 refine sP Try.f65 13 0 (v:=x5) ?_
 refine sD Try.f65 13 1 (fun v1 S1=>?_)
 refine sD Try.f65 13 2 (fun v2 S2=>?_)
 refine sP Try.f65 13 3 (v:=v2) ?_
 refine sG Try.f65 13 4 (j:=3) (fun v4 S3=>?_)
 refine sG Try.f65 13 5 (j:=3) (fun v5 S4=>?_)
 refine sG Try.f65 13 6 (j:=3) (fun v6 S5=>?_)
 refine sD Try.f65 13 7 (fun v7 S6=>?_)
 kernel_rfl
theorem zQ.r14 :jw Try.prog ⟨false,false,false⟩ (zW Try.prog O) (reg Try.f65 14) (reg Try.f65 14).toList ([x0,x1,x2,x3,x4,x5,x6,x7,x8,x9,a,d,f,g,i,k,l,m,n,o,p,q,r,s,t,u,w,x,y,z,A,B,C,b,c,D,E,F,G,H,I,J,K,L,M,N,P,Q,R,U,V,W,X,Y,Z,a0,a1,a2,a3]) S =
  ( some ([x0,x1,Value.slice none 0 0,Value.int IntKind.i64 61,x4,x5,x6,x7,x8,x9,a,d,f,g,i,k,l,m,n,o,p,q,r,s,t,u,w,x,y,z,A,B,C,b,c,D,E,F,G,H,I,J,K,L,M,N,P,Q,R,U,V,W,X,Y,Z,a0,a1,a2,a3],S)):=by
 kernel_rfl
theorem zQ.r15 :jw Try.prog ⟨false,false,false⟩ (zW Try.prog O) (reg Try.f65 15) (reg Try.f65 15).toList ([x0,x1,x2,x3,x4,x5,x6,x7,x8,x9,a,d,f,g,i,k,l,m,n,o,p,q,r,s,t,u,w,x,y,z,A,B,C,b,c,D,E,F,G,H,I,J,K,L,M,N,P,Q,R,U,V,W,X,Y,Z,a0,a1,a2,a3]) S =
  ( some ([x0,x1,x7,Value.int IntKind.i64 0,x4,x5,x6,dem x7,x8,x9,a,d,f,g,i,k,l,m,n,o,p,q,r,s,t,u,w,x,y,z,A,B,C,b,c,D,E,F,G,H,I,J,K,L,M,N,P,Q,R,U,V,W,X,Y,Z,a0,a1,a2,dem x7],S)):=by
 kernel_rfl
theorem zQ.rs:type_of% (ak5 @zQ.r0 (ak5 @zQ.r1 (ak5 @zQ.r2 (ak5 @zQ.r3 (ak5 @zQ.r4 (ak5 @zQ.r5 (ak5 @zQ.r6 (ak5 @zQ.r7 (ak5 @zQ.r8 (ak5 @zQ.r9 (ak5 @zQ.r10 (ak5 @zQ.r11 (ak5 @zQ.r12 (ak5 @zQ.r13 (ak5 @zQ.r14 (@zQ.r15)))))))))))))))):=ak5 @zQ.r0 (ak5 @zQ.r1 (ak5 @zQ.r2 (ak5 @zQ.r3 (ak5 @zQ.r4 (ak5 @zQ.r5 (ak5 @zQ.r6 (ak5 @zQ.r7 (ak5 @zQ.r8 (ak5 @zQ.r9 (ak5 @zQ.r10 (ak5 @zQ.r11 (ak5 @zQ.r12 (ak5 @zQ.r13 (ak5 @zQ.r14 (@zQ.r15)))))))))))))))
theorem zQ.runs {x0:Value} {S S1:zn} {e:AEx} {T:List Value} (h:zG Try.prog O false zQ.code ([x0,zh,zh,zh,zh,zh,zh,zh,zh,zh,zh,zh,zh,zh,zh,zh,zh,zh,zh,zh,zh,zh,zh,zh,zh,zh,zh,zh,zh,zh,zh,zh,zh,zh,zh,zh,zh,zh,zh,zh,zh,zh,zh,zh,zh,zh,zh,zh,zh,zh,zh,zh,zh,zh,zh,zh,zh,zh,zh]) zn.empty=some (e,T,S1)) (he:e=.normal∨e=.ret)  (h0:wu (T.getD 2 zh)=true) (h1:wu (T.getD 3 zh)=true) (hca:[x0].all (jP 16)=true) (hcv:jP 16 (Value.tuple #[T.getD 2 zh,T.getD 3 zh])=true):zW Try.prog O 65 [x0] S=some (Value.tuple #[T.getD 2 zh,T.getD 3 zh],S) :=
 yu rfl rfl Try.func65 (by decide) zQ.body (by exact h) he ((yY ((show zK Try.prog T S1 Try.f65.results.toList=zK Try.prog T S1 [(ResultVar.tmp 2),(ResultVar.tmp 3)] from by kernel_rfl).trans (by simp only [zK])) (by kernel_rfl) (by simp only [List.all_cons,List.all_nil,h0,h1,Bool.and_true])).trans rfl) hca hcv
end Go.Proofs.Ytfjogganfjkckaa
namespace Go.Proofs.Ytfjogganfjkckaa
open Go.Abs
abbrev zo.id:FuncId:=49
noncomputable def zo.jL:Code:=(Code.seq (Code.seq (Code.region 8 (reg Try.f49 8) false) (Code.cond (Operand.tmp 35) Code.skip (Code.exit 2))) (Code.seq (Code.block 3 (Code.region 10 (reg Try.f49 10) true)) (Code.region 9 (reg Try.f49 9) false)))
noncomputable def zo.kP:Code:=(Code.seq (Code.seq (Code.region 2 (reg Try.f49 2) false) (Code.cond (Operand.tmp 13) Code.skip (Code.exit 0))) (Code.seq (Code.block 1 (Code.seq (Code.region 4 (reg Try.f49 4) false) (Code.seq (Code.seq (Code.region 5 (reg Try.f49 5) false) (Code.cond (Operand.tmp 31) (Code.exit 1) Code.skip)) (Code.seq (Code.region 6 (reg Try.f49 6) false) (Code.seq (Code.seq (Code.region 7 (reg Try.f49 7) false) (Code.block 2 (Code.loop zo.jL))) (Code.seq (Code.region 11 (reg Try.f49 11) false) (Code.seq (Code.region 12 (reg Try.f49 12) false) (Code.cond (Operand.tmp 67) (Code.seq (Code.region 13 (reg Try.f49 13) false) Code.ret) Code.skip)))))))) (Code.region 3 (reg Try.f49 3) false)))
noncomputable def zo.code:Code:=(Code.seq (Code.region 0 (reg Try.f49 0) false) (Code.seq (Code.seq (Code.region 1 (reg Try.f49 1) false) (Code.block 0 (Code.loop zo.kP))) (Code.seq (Code.region 14 (reg Try.f49 14) false) Code.ret)))
theorem zo.body:Try.f49.body=some zo.code:=by kernel_rfl
theorem zo.eta {T:List Value} (h:T.length=69):T=[T.getD 0 zh,T.getD 1 zh,T.getD 2 zh,T.getD 3 zh,T.getD 4 zh,T.getD 5 zh,T.getD 6 zh,T.getD 7 zh,T.getD 8 zh,T.getD 9 zh,T.getD 10 zh,T.getD 11 zh,T.getD 12 zh,T.getD 13 zh,T.getD 14 zh,T.getD 15 zh,T.getD 16 zh,T.getD 17 zh,T.getD 18 zh,T.getD 19 zh,T.getD 20 zh,T.getD 21 zh,T.getD 22 zh,T.getD 23 zh,T.getD 24 zh,T.getD 25 zh,T.getD 26 zh,T.getD 27 zh,T.getD 28 zh,T.getD 29 zh,T.getD 30 zh,T.getD 31 zh,T.getD 32 zh,T.getD 33 zh,T.getD 34 zh,T.getD 35 zh,T.getD 36 zh,T.getD 37 zh,T.getD 38 zh,T.getD 39 zh,T.getD 40 zh,T.getD 41 zh,T.getD 42 zh,T.getD 43 zh,T.getD 44 zh,T.getD 45 zh,T.getD 46 zh,T.getD 47 zh,T.getD 48 zh,T.getD 49 zh,T.getD 50 zh,T.getD 51 zh,T.getD 52 zh,T.getD 53 zh,T.getD 54 zh,T.getD 55 zh,T.getD 56 zh,T.getD 57 zh,T.getD 58 zh,T.getD 59 zh,T.getD 60 zh,T.getD 61 zh,T.getD 62 zh,T.getD 63 zh,T.getD 64 zh,T.getD 65 zh,T.getD 66 zh,T.getD 67 zh,T.getD 68 zh]:=(qC T 69 h).trans (by kernel_rfl)
variable (x0 x1 x2 x3 x4 x5 x6 x7 x8 x9 b a c d f g i k l m n o p q r s t u w x y z A B C D E F G H I J K L M N P Q R U V W X Y Z a0 a1 a2 a3 a4 a5 a6 a7 a8 a9 b0 b1 b2 b3:Value) (S:zn)
theorem zo.r0 :jw Try.prog ⟨false,false,false⟩ (zW Try.prog O) (reg Try.f49 0) (reg Try.f49 0).toList ([x0,x1,x2,x3,x4,x5,x6,x7,x8,x9,b,a,c,d,f,g,i,k,l,m,n,o,p,q,r,s,t,u,w,x,y,z,A,B,C,D,E,F,G,H,I,J,K,L,M,N,P,Q,R,U,V,W,X,Y,Z,a0,a1,a2,a3,a4,a5,a6,a7,a8,a9,b0,b1,b2,b3]) S =
  ( some ([x0,x1,Value.slice none 0 0,Value.int IntKind.i64 0,x4,x5,x6,x7,x8,x9,b,a,c,d,f,g,i,k,l,m,n,o,p,q,r,s,t,u,w,x,y,z,A,B,C,D,E,F,G,H,I,J,K,L,M,N,P,Q,R,U,V,W,X,Y,Z,a0,a1,a2,a3,a4,a5,a6,a7,a8,a9,b0,b1,b2,b3],S)):=by
 kernel_rfl
theorem zo.r1 :jw Try.prog ⟨false,false,false⟩ (zW Try.prog O) (reg Try.f49 1) (reg Try.f49 1).toList ([x0,x1,x2,x3,x4,x5,x6,x7,x8,x9,b,a,c,d,f,g,i,k,l,m,n,o,p,q,r,s,t,u,w,x,y,z,A,B,C,D,E,F,G,H,I,J,K,L,M,N,P,Q,R,U,V,W,X,Y,Z,a0,a1,a2,a3,a4,a5,a6,a7,a8,a9,b0,b1,b2,b3]) S =
  ( some ([x0,x1,x2,x3,Value.int IntKind.i64 0,x5,x6,x7,x8,x9,b,a,c,d,f,g,i,k,l,m,n,o,p,q,r,s,t,u,w,x,y,z,A,B,C,D,E,F,G,H,I,J,K,L,M,N,P,Q,R,U,V,W,X,Y,Z,a0,a1,a2,a3,a4,a5,a6,a7,a8,a9,b0,b1,b2,b3],S)):=by
 kernel_rfl
theorem zo.r2 :jw Try.prog ⟨false,false,false⟩ (zW Try.prog O) (reg Try.f49 2) (reg Try.f49 2).toList ([x0,x1,x2,x3,x4,x5,x6,x7,x8,x9,b,a,c,d,f,g,i,k,l,m,n,o,p,q,r,s,t,u,w,x,y,z,A,B,C,D,E,F,G,H,I,J,K,L,M,N,P,Q,R,U,V,W,X,Y,Z,a0,a1,a2,a3,a4,a5,a6,a7,a8,a9,b0,b1,b2,b3]) S =
  (zI (wB Try.prog BinOp.leq 3 (dem x4) (Value.int IntKind.i64 3) S) (fun v1 S1=>some ([x0,x1,x2,x3,x4,x5,x6,x7,x8,x9,b,a,dem x4,v1,f,g,i,k,l,m,n,o,p,q,r,s,t,u,w,x,y,z,A,B,C,D,E,F,G,H,I,J,K,L,M,N,P,Q,R,U,V,W,X,Y,Z,a0,a1,a2,a3,a4,a5,a6,a7,a8,a9,b0,b1,b2,b3],S1)) ()):=by
 kernel_rfl
theorem zo.r4 :jw Try.prog ⟨false,false,false⟩ (zW Try.prog O) (reg Try.f49 4) (reg Try.f49 4).toList ([x0,x1,x2,x3,x4,x5,x6,x7,x8,x9,b,a,c,d,f,g,i,k,l,m,n,o,p,q,r,s,t,u,w,x,y,z,A,B,C,D,E,F,G,H,I,J,K,L,M,N,P,Q,R,U,V,W,X,Y,Z,a0,a1,a2,a3,a4,a5,a6,a7,a8,a9,b0,b1,b2,b3]) S =
  (zI (wB Try.prog BinOp.mul 3 (Value.int IntKind.i64 2) (dem x4) S) (fun v2 S1=>zI (wB Try.prog BinOp.add 3 (Value.int IntKind.i64 1) v2 S1) (fun v3 S2=>zI ((zW Try.prog O) 29 [(dem (dem x0)),(dem v3)] S2) (fun v4 S3=>zI (zU v4 0 S3) (fun v6 S4=>zI (zU (zO 0 v4) 1 S4) (fun v7 S5=>zI (zU (zO 1 (zO 0 v4)) 2 S5) (fun v8 S6=>some ([x0,x1,x2,x3,x4,v6,v7,v8,x8,x9,b,a,c,d,f,g,zO 2 (zO 1 (zO 0 v4)),dem x0,dem x4,v2,v3,dem v4,dem v6,dem v7,dem v8,s,t,u,w,x,y,z,A,B,C,D,E,F,G,H,I,J,K,L,M,N,P,Q,R,U,V,W,X,Y,Z,a0,a1,a2,a3,a4,a5,a6,a7,a8,a9,b0,b1,b2,b3],S6)) ()) ()) ()) ()) ()) ()):=by
 kernel_rfl
theorem zo.r5 :jw Try.prog ⟨false,false,false⟩ (zW Try.prog O) (reg Try.f49 5) (reg Try.f49 5).toList ([x0,x1,x2,x3,x4,x5,x6,x7,x8,x9,b,a,c,d,f,g,i,k,l,m,n,o,p,q,r,s,t,u,w,x,y,z,A,B,C,D,E,F,G,H,I,J,K,L,M,N,P,Q,R,U,V,W,X,Y,Z,a0,a1,a2,a3,a4,a5,a6,a7,a8,a9,b0,b1,b2,b3]) S =
  (zI (wB Try.prog BinOp.neq 3 (dem x7) (Value.int IntKind.i64 0) S) (fun v1 S1=>gdK (dem v1) false (ret x6) S1 (fun v3 S2=>gdK (dem v1) false (Zz Try.prog 33 (dem v3)) S2 (fun v4 S3=>gdK (dem v1) false (wB Try.prog BinOp.gtr 3 v4 (Value.int IntKind.i64 0)) S3 (fun v5 S4=>zI (wR (dem v1) (Value.bool true) v5 S4) (fun v6 S5=>some ([x0,x1,x2,x3,x4,x5,x6,x7,x8,x9,b,a,c,d,f,g,i,k,l,m,n,o,p,q,r,dem x7,v1,dem v1,dem v3,v4,v5,v6,A,B,C,D,E,F,G,H,I,J,K,L,M,N,P,Q,R,U,V,W,X,Y,Z,a0,a1,a2,a3,a4,a5,a6,a7,a8,a9,b0,b1,b2,b3],S5)) ()) ()) ()) ()) ()):=by
 refine sP Try.f49 5 0 (v:=x7) ?_
 refine sD Try.f49 5 1 (fun v1 S1=>?_)
 refine sP Try.f49 5 2 (v:=v1) ?_
 refine sG Try.f49 5 3 (j:=2) (fun v3 S2=>?_)
 refine sG Try.f49 5 4 (j:=2) (fun v4 S3=>?_)
 refine sG Try.f49 5 5 (j:=2) (fun v5 S4=>?_)
 refine sD Try.f49 5 6 (fun v6 S5=>?_)
 kernel_rfl
theorem zo.r6 :jw Try.prog ⟨false,false,false⟩ (zW Try.prog O) (reg Try.f49 6) (reg Try.f49 6).toList ([x0,x1,x2,x3,x4,x5,x6,x7,x8,x9,b,a,c,d,f,g,i,k,l,m,n,o,p,q,r,s,t,u,w,x,y,z,A,B,C,D,E,F,G,H,I,J,K,L,M,N,P,Q,R,U,V,W,X,Y,Z,a0,a1,a2,a3,a4,a5,a6,a7,a8,a9,b0,b1,b2,b3]) S =
  (zI (jH Try.prog 44 0 [] S) (fun v0 S1=>some ([x0,x1,x2,x3,x4,x5,x6,x7,v0,x9,b,a,c,d,f,g,i,k,l,m,n,o,p,q,r,s,t,u,w,x,y,z,dem v0,B,C,D,E,F,G,H,I,J,K,L,M,N,P,Q,R,U,V,W,X,Y,Z,a0,a1,a2,a3,a4,a5,a6,a7,a8,a9,b0,b1,b2,b3],S1)) ()):=by
 kernel_rfl
theorem zo.r7 :jw Try.prog ⟨false,false,false⟩ (zW Try.prog O) (reg Try.f49 7) (reg Try.f49 7).toList ([x0,x1,x2,x3,x4,x5,x6,x7,x8,x9,b,a,c,d,f,g,i,k,l,m,n,o,p,q,r,s,t,u,w,x,y,z,A,B,C,D,E,F,G,H,I,J,K,L,M,N,P,Q,R,U,V,W,X,Y,Z,a0,a1,a2,a3,a4,a5,a6,a7,a8,a9,b0,b1,b2,b3]) S =
  ( some ([x0,x1,x2,x3,x4,x5,x6,x7,x8,Value.int IntKind.i64 0,b,a,c,d,f,g,i,k,l,m,n,o,p,q,r,s,t,u,w,x,y,z,A,B,C,D,E,F,G,H,I,J,K,L,M,N,P,Q,R,U,V,W,X,Y,Z,a0,a1,a2,a3,a4,a5,a6,a7,a8,a9,b0,b1,b2,b3],S)):=by
 kernel_rfl
theorem zo.r8 :jw Try.prog ⟨false,false,false⟩ (zW Try.prog O) (reg Try.f49 8) (reg Try.f49 8).toList ([x0,x1,x2,x3,x4,x5,x6,x7,x8,x9,b,a,c,d,f,g,i,k,l,m,n,o,p,q,r,s,t,u,w,x,y,z,A,B,C,D,E,F,G,H,I,J,K,L,M,N,P,Q,R,U,V,W,X,Y,Z,a0,a1,a2,a3,a4,a5,a6,a7,a8,a9,b0,b1,b2,b3]) S =
  (zI (wB Try.prog BinOp.lss 3 (dem x9) (dem x4) S) (fun v2 S1=>some ([x0,x1,x2,x3,x4,x5,x6,x7,x8,x9,b,a,c,d,f,g,i,k,l,m,n,o,p,q,r,s,t,u,w,x,y,z,A,dem x9,dem x4,v2,E,F,G,H,I,J,K,L,M,N,P,Q,R,U,V,W,X,Y,Z,a0,a1,a2,a3,a4,a5,a6,a7,a8,a9,b0,b1,b2,b3],S1)) ()):=by
 kernel_rfl
theorem zo.d10:qW Try.prog (reg Try.f49 10)=true:=by kernel_rfl
theorem zo.ak3:fixed Try.prog (reg Try.f49 10)=false:=by kernel_rfl
theorem zo.k10:checked Try.prog (reg Try.f49 10)=[0]:=by kernel_rfl
theorem zo.g10:again Try.prog (reg Try.f49 10)=[]:=by kernel_rfl
theorem zo.r10 :zG Try.prog O false (.region 10 (reg Try.f49 10) true) ([x0,x1,x2,x3,x4,x5,x6,x7,x8,x9,b,a,c,d,f,g,i,k,l,m,n,o,p,q,r,s,t,u,w,x,y,z,A,B,C,D,E,F,G,H,I,J,K,L,M,N,P,Q,R,U,V,W,X,Y,Z,a0,a1,a2,a3,a4,a5,a6,a7,a8,a9,b0,b1,b2,b3]) S =
  Jb (okK x8 ( zI (wB Try.prog BinOp.mul 3 (Value.int IntKind.i64 2) (dem x9) S) (fun v3 S1=>zI (wB Try.prog BinOp.add 3 (Value.int IntKind.i64 1) v3 S1) (fun v4 S2=>zI (jo Try.prog 24 (dem x5) v4 S2) (fun v5 S3=>zI (jf Try.prog false 3 v5 S3) (fun v6 S4=>zI (wB Try.prog BinOp.mul 3 (Value.int IntKind.i64 2) (dem x9) S4) (fun v9 S5=>zI (wB Try.prog BinOp.add 3 (Value.int IntKind.i64 2) v9 S5) (fun b5 S6=>zI (jo Try.prog 24 (dem x5) b5 S6) (fun b6 S7=>zI (jf Try.prog false 3 b6 S7) (fun b7 S8=>zI (yg Try.prog 43 [(0,(dem v6)),(1,(dem b7))] S8) (fun b8 S9=>zI (jH Try.prog 44 1 [(0,b8)] S9) (fun b9 c0=>zI (wP Try.prog 44 44 x8 b9 c0) (fun b4 c1=>some ([x0,x1,x2,x3,x4,x5,x6,x7,b4,x9,b,a,c,d,f,g,i,k,l,m,n,o,p,q,r,s,t,u,w,x,y,z,A,B,C,D,E,F,dem x8,dem x5,dem x9,v3,v4,v5,v6,dem x5,dem x9,v9,b5,b6,b7,b8,b9,dem b4,Z,a0,a1,a2,a3,a4,a5,a6,a7,a8,a9,b0,b1,b2,b3],c1)) ()) ()) ()) ()) ()) ()) ()) ()) ()) ()) ()) ()):=by
 rw [yF zo.d10 zo.ak3 zo.k10 zo.g10]
 refine congrArg Jb ?_
 refine tPC Try.f49 10 0 (v:=x8) ?_
 refine tP Try.f49 10 1 (v:=x5) ?_
 refine tP Try.f49 10 2 (v:=x9) ?_
 refine tD Try.f49 10 3 (fun v3 S1=>?_)
 refine tD Try.f49 10 4 (fun v4 S2=>?_)
 refine tD Try.f49 10 5 (fun v5 S3=>?_)
 refine tD Try.f49 10 6 (fun v6 S4=>?_)
 refine tP Try.f49 10 7 (v:=x5) ?_
 refine tP Try.f49 10 8 (v:=x9) ?_
 refine tD Try.f49 10 9 (fun v9 S5=>?_)
 refine tD Try.f49 10 10 (fun b5 S6=>?_)
 refine tD Try.f49 10 11 (fun b6 S7=>?_)
 refine tD Try.f49 10 12 (fun b7 S8=>?_)
 refine tD Try.f49 10 13 (fun b8 S9=>?_)
 refine tD Try.f49 10 14 (fun b9 c0=>?_)
 refine tD Try.f49 10 15 (fun b4 c1=>?_)
 refine tP Try.f49 10 16 (v:=b4) ?_
 kernel_rfl
theorem zo.r9 :jw Try.prog ⟨false,false,false⟩ (zW Try.prog O) (reg Try.f49 9) (reg Try.f49 9).toList ([x0,x1,x2,x3,x4,x5,x6,x7,x8,x9,b,a,c,d,f,g,i,k,l,m,n,o,p,q,r,s,t,u,w,x,y,z,A,B,C,D,E,F,G,H,I,J,K,L,M,N,P,Q,R,U,V,W,X,Y,Z,a0,a1,a2,a3,a4,a5,a6,a7,a8,a9,b0,b1,b2,b3]) S =
  (zI (wB Try.prog BinOp.add 3 (dem x9) (Value.int IntKind.i64 1) S) (fun v1 S1=>some ([x0,x1,x2,x3,x4,x5,x6,x7,x8,v1,b,a,c,d,f,g,i,k,l,m,n,o,p,q,r,s,t,u,w,x,y,z,A,B,C,D,dem x9,dem v1,G,H,I,J,K,L,M,N,P,Q,R,U,V,W,X,Y,Z,a0,a1,a2,a3,a4,a5,a6,a7,a8,a9,b0,b1,b2,b3],S1)) ()):=by
 kernel_rfl
theorem zo.r11 :jw Try.prog ⟨false,false,false⟩ (zW Try.prog O) (reg Try.f49 11) (reg Try.f49 11).toList ([x0,x1,x2,x3,x4,x5,x6,x7,x8,x9,b,a,c,d,f,g,i,k,l,m,n,o,p,q,r,s,t,u,w,x,y,z,A,B,C,D,E,F,G,H,I,J,K,L,M,N,P,Q,R,U,V,W,X,Y,Z,a0,a1,a2,a3,a4,a5,a6,a7,a8,a9,b0,b1,b2,b3]) S =
  (zI ((zW Try.prog O) 50 [(dem (dem x8))] S) (fun v1 S1=>zI (zU v1 0 S1) (fun v3 S2=>zI (zU (zO 0 v1) 1 S2) (fun v4 S3=>some ([x0,x1,x2,x3,x4,x5,x6,x7,x8,x9,v3,v4,c,d,f,g,i,k,l,m,n,o,p,q,r,s,t,u,w,x,y,z,A,B,C,D,E,F,G,H,I,J,K,L,M,N,P,Q,R,U,V,W,X,Y,zO 1 (zO 0 v1),dem x8,dem v1,dem v3,dem v4,a4,a5,a6,a7,a8,a9,b0,b1,b2,b3],S3)) ()) ()) ()):=by
 kernel_rfl
theorem zo.r12 :jw Try.prog ⟨false,false,false⟩ (zW Try.prog O) (reg Try.f49 12) (reg Try.f49 12).toList ([x0,x1,x2,x3,x4,x5,x6,x7,x8,x9,b,a,c,d,f,g,i,k,l,m,n,o,p,q,r,s,t,u,w,x,y,z,A,B,C,D,E,F,G,H,I,J,K,L,M,N,P,Q,R,U,V,W,X,Y,Z,a0,a1,a2,a3,a4,a5,a6,a7,a8,a9,b0,b1,b2,b3]) S =
  (zI (wB Try.prog BinOp.eql 3 (dem a) (Value.int IntKind.i64 0) S) (fun v1 S1=>gdK (dem v1) true (ret b) S1 (fun v3 S2=>gdK (dem v1) true (qA Try.prog false false 33 9 (dem v3)) S2 (fun v4 S3=>gdK (dem v1) true (ret x0) S3 (fun v5 S4=>gdK (dem v1) true (qA Try.prog false false 33 9 (dem v5)) S4 (fun v6 S5=>gdK (dem v1) true (wB Try.prog BinOp.eql 9 v4 v6) S5 (fun v7 S6=>zI (wR (dem v1) v7 (Value.bool false) S6) (fun v8 S7=>some ([x0,x1,x2,x3,x4,x5,x6,x7,x8,x9,b,a,c,d,f,g,i,k,l,m,n,o,p,q,r,s,t,u,w,x,y,z,A,B,C,D,E,F,G,H,I,J,K,L,M,N,P,Q,R,U,V,W,X,Y,Z,a0,a1,a2,a3,dem a,v1,dem v1,dem v3,v4,dem v5,v6,v7,v8,b3],S7)) ()) ()) ()) ()) ()) ()) ()):=by
 refine sP Try.f49 12 0 (v:=a) ?_
 refine sD Try.f49 12 1 (fun v1 S1=>?_)
 refine sP Try.f49 12 2 (v:=v1) ?_
 refine sG Try.f49 12 3 (j:=2) (fun v3 S2=>?_)
 refine sG Try.f49 12 4 (j:=2) (fun v4 S3=>?_)
 refine sG Try.f49 12 5 (j:=2) (fun v5 S4=>?_)
 refine sG Try.f49 12 6 (j:=2) (fun v6 S5=>?_)
 refine sG Try.f49 12 7 (j:=2) (fun v7 S6=>?_)
 refine sD Try.f49 12 8 (fun v8 S7=>?_)
 kernel_rfl
theorem zo.r13 :jw Try.prog ⟨false,false,false⟩ (zW Try.prog O) (reg Try.f49 13) (reg Try.f49 13).toList ([x0,x1,x2,x3,x4,x5,x6,x7,x8,x9,b,a,c,d,f,g,i,k,l,m,n,o,p,q,r,s,t,u,w,x,y,z,A,B,C,D,E,F,G,H,I,J,K,L,M,N,P,Q,R,U,V,W,X,Y,Z,a0,a1,a2,a3,a4,a5,a6,a7,a8,a9,b0,b1,b2,b3]) S =
  ( some ([x0,x1,x8,Value.int IntKind.i64 0,x4,x5,x6,x7,dem x8,x9,b,a,c,d,f,g,i,k,l,m,n,o,p,q,r,s,t,u,w,x,y,z,A,B,C,D,E,F,G,H,I,J,K,L,M,N,P,Q,R,U,V,W,X,Y,Z,a0,a1,a2,a3,a4,a5,a6,a7,a8,a9,b0,b1,b2,dem x8],S)):=by
 kernel_rfl
theorem zo.r3 :jw Try.prog ⟨false,false,false⟩ (zW Try.prog O) (reg Try.f49 3) (reg Try.f49 3).toList ([x0,x1,x2,x3,x4,x5,x6,x7,x8,x9,b,a,c,d,f,g,i,k,l,m,n,o,p,q,r,s,t,u,w,x,y,z,A,B,C,D,E,F,G,H,I,J,K,L,M,N,P,Q,R,U,V,W,X,Y,Z,a0,a1,a2,a3,a4,a5,a6,a7,a8,a9,b0,b1,b2,b3]) S =
  (zI (wB Try.prog BinOp.add 3 (dem x4) (Value.int IntKind.i64 1) S) (fun v1 S1=>some ([x0,x1,x2,x3,v1,x5,x6,x7,x8,x9,b,a,c,d,dem x4,dem v1,i,k,l,m,n,o,p,q,r,s,t,u,w,x,y,z,A,B,C,D,E,F,G,H,I,J,K,L,M,N,P,Q,R,U,V,W,X,Y,Z,a0,a1,a2,a3,a4,a5,a6,a7,a8,a9,b0,b1,b2,b3],S1)) ()):=by
 kernel_rfl
theorem zo.r14 :jw Try.prog ⟨false,false,false⟩ (zW Try.prog O) (reg Try.f49 14) (reg Try.f49 14).toList ([x0,x1,x2,x3,x4,x5,x6,x7,x8,x9,b,a,c,d,f,g,i,k,l,m,n,o,p,q,r,s,t,u,w,x,y,z,A,B,C,D,E,F,G,H,I,J,K,L,M,N,P,Q,R,U,V,W,X,Y,Z,a0,a1,a2,a3,a4,a5,a6,a7,a8,a9,b0,b1,b2,b3]) S =
  ( some ([x0,x1,Value.slice none 0 0,Value.int IntKind.i64 61,x4,x5,x6,x7,x8,x9,b,a,c,d,f,g,i,k,l,m,n,o,p,q,r,s,t,u,w,x,y,z,A,B,C,D,E,F,G,H,I,J,K,L,M,N,P,Q,R,U,V,W,X,Y,Z,a0,a1,a2,a3,a4,a5,a6,a7,a8,a9,b0,b1,b2,b3],S)):=by
 kernel_rfl
theorem zo.rs:type_of% (ak5 @zo.r0 (ak5 @zo.r1 (ak5 @zo.r2 (ak5 @zo.r4 (ak5 @zo.r5 (ak5 @zo.r6 (ak5 @zo.r7 (ak5 @zo.r8 (ak5 @zo.r10 (ak5 @zo.r9 (ak5 @zo.r11 (ak5 @zo.r12 (ak5 @zo.r13 (ak5 @zo.r3 (@zo.r14))))))))))))))):=ak5 @zo.r0 (ak5 @zo.r1 (ak5 @zo.r2 (ak5 @zo.r4 (ak5 @zo.r5 (ak5 @zo.r6 (ak5 @zo.r7 (ak5 @zo.r8 (ak5 @zo.r10 (ak5 @zo.r9 (ak5 @zo.r11 (ak5 @zo.r12 (ak5 @zo.r13 (ak5 @zo.r3 (@zo.r14))))))))))))))
theorem zo.runs {x0:Value} {S S1:zn} {e:AEx} {T:List Value} (h:zG Try.prog O false zo.code ([x0,zh,zh,zh,zh,zh,zh,zh,zh,zh,zh,zh,zh,zh,zh,zh,zh,zh,zh,zh,zh,zh,zh,zh,zh,zh,zh,zh,zh,zh,zh,zh,zh,zh,zh,zh,zh,zh,zh,zh,zh,zh,zh,zh,zh,zh,zh,zh,zh,zh,zh,zh,zh,zh,zh,zh,zh,zh,zh,zh,zh,zh,zh,zh,zh,zh,zh,zh,zh]) S=some (e,T,S1)) (he:e=.normal∨e=.ret)  (h0:wu (T.getD 2 zh)=true) (h1:wu (T.getD 3 zh)=true):zW Try.prog O 49 [x0] S=some (Value.tuple #[T.getD 2 zh,T.getD 3 zh],S1) :=
 yD rfl rfl Try.func49 (by decide) zo.body (by exact h) he ((yY ((show zK Try.prog T S1 Try.f49.results.toList=zK Try.prog T S1 [(ResultVar.tmp 2),(ResultVar.tmp 3)] from by kernel_rfl).trans (by simp only [zK])) (by kernel_rfl) (by simp only [List.all_cons,List.all_nil,h0,h1,Bool.and_true])).trans rfl)
end Go.Proofs.Ytfjogganfjkckaa
namespace Go.Proofs.Ytfjogganfjkckaa
open Go.Abs
abbrev zF.id:FuncId:=33
noncomputable def zF.jL:Code:=(Code.seq (Code.region 4 (reg Try.f33 4) false) (Code.seq (Code.cond (Operand.tmp 14) Code.skip (Code.exit 0)) (Code.seq (Code.block 1 (Code.seq (Code.region 5 (reg Try.f33 5) false) (Code.seq (Code.region 6 (reg Try.f33 6) true) (Code.cond (Operand.tmp 24) (Code.seq (Code.region 7 (reg Try.f33 7) false) Code.ret) Code.skip)))) (Code.region 8 (reg Try.f33 8) false))))
noncomputable def zF.code:Code:=(Code.seq (Code.region 0 (reg Try.f33 0) false) (Code.seq (Code.seq (Code.region 1 (reg Try.f33 1) false) (Code.cond (Operand.tmp 10) (Code.seq (Code.region 2 (reg Try.f33 2) false) Code.ret) Code.skip)) (Code.seq (Code.seq (Code.region 3 (reg Try.f33 3) false) (Code.block 0 (Code.loop zF.jL))) (Code.seq (Code.region 9 (reg Try.f33 9) false) Code.ret))))
theorem zF.body:Try.f33.body=some zF.code:=by kernel_rfl
theorem zF.eta {T:List Value} (h:T.length=26):T=[T.getD 0 zh,T.getD 1 zh,T.getD 2 zh,T.getD 3 zh,T.getD 4 zh,T.getD 5 zh,T.getD 6 zh,T.getD 7 zh,T.getD 8 zh,T.getD 9 zh,T.getD 10 zh,T.getD 11 zh,T.getD 12 zh,T.getD 13 zh,T.getD 14 zh,T.getD 15 zh,T.getD 16 zh,T.getD 17 zh,T.getD 18 zh,T.getD 19 zh,T.getD 20 zh,T.getD 21 zh,T.getD 22 zh,T.getD 23 zh,T.getD 24 zh,T.getD 25 zh]:=(qC T 26 h).trans (by kernel_rfl)
variable (d u x y D w z A B C f g c b i j k l m n o p q r s t:Value) (S:zn)
theorem zF.r0 :jw Try.prog ⟨false,false,false⟩ (zW Try.prog O) (reg Try.f33 0) (reg Try.f33 0).toList ([d,u,x,y,D,w,z,A,B,C,f,g,c,b,i,j,k,l,m,n,o,p,q,r,s,t]) S =
  ( some ([d,u,x,y,Value.bool false,w,z,A,B,C,f,g,c,b,i,j,k,l,m,n,o,p,q,r,s,t],S)):=by
 kernel_rfl
theorem zF.r1 :jw Try.prog ⟨false,false,false⟩ (zW Try.prog O) (reg Try.f33 1) (reg Try.f33 1).toList ([d,u,x,y,D,w,z,A,B,C,f,g,c,b,i,j,k,l,m,n,o,p,q,r,s,t]) S =
  (zI (Zz Try.prog 44 (dem d) S) (fun G E=>zI (Zz Try.prog 44 (dem u) E) (fun F H=>zI (wB Try.prog BinOp.neq 3 G F H) (fun R I=>some ([d,u,x,y,D,w,dem d,G,dem u,F,R,g,c,b,i,j,k,l,m,n,o,p,q,r,s,t],I)) ()) ()) ()):=by
 kernel_rfl
theorem zF.r2 :jw Try.prog ⟨false,false,false⟩ (zW Try.prog O) (reg Try.f33 2) (reg Try.f33 2).toList ([d,u,x,y,D,w,z,A,B,C,f,g,c,b,i,j,k,l,m,n,o,p,q,r,s,t]) S =
  ( some ([d,u,x,y,Value.bool false,w,z,A,B,C,f,g,c,b,i,j,k,l,m,n,o,p,q,r,s,t],S)):=by
 kernel_rfl
theorem zF.r3 :jw Try.prog ⟨false,false,false⟩ (zW Try.prog O) (reg Try.f33 3) (reg Try.f33 3).toList ([d,u,x,y,D,w,z,A,B,C,f,g,c,b,i,j,k,l,m,n,o,p,q,r,s,t]) S =
  (zI (Zz Try.prog 44 (dem d) S) (fun G E=>some ([d,u,x,y,D,w,z,A,B,C,f,dem d,G,Value.int IntKind.i64 0,i,j,k,l,m,n,o,p,q,r,s,t],E)) ()):=by
 kernel_rfl
theorem zF.r4 :jw Try.prog ⟨false,false,false⟩ (zW Try.prog O) (reg Try.f33 4) (reg Try.f33 4).toList ([d,u,x,y,D,w,z,A,B,C,f,g,c,b,i,j,k,l,m,n,o,p,q,r,s,t]) S =
  (zI (wB Try.prog BinOp.lss 3 b c S) (fun J E=>some ([d,u,x,y,D,w,z,A,B,C,f,g,c,b,J,j,k,l,m,n,o,p,q,r,s,t],E)) ()):=by
 kernel_rfl
theorem zF.r5 :jw Try.prog ⟨false,false,false⟩ (zW Try.prog O) (reg Try.f33 5) (reg Try.f33 5).toList ([d,u,x,y,D,w,z,A,B,C,f,g,c,b,i,j,k,l,m,n,o,p,q,r,s,t]) S =
  ( some ([d,u,x,y,D,b,z,A,B,C,f,g,c,dem b,i,dem b,k,l,m,n,o,p,q,r,s,t],S)):=by
 kernel_rfl
theorem zF.d6:qW Try.prog (reg Try.f33 6)=true:=by kernel_rfl
theorem zF.ff6:fixed Try.prog (reg Try.f33 6)=false:=by kernel_rfl
theorem zF.k6:checked Try.prog (reg Try.f33 6)=[]:=by kernel_rfl
theorem zF.g6:again Try.prog (reg Try.f33 6)=[]:=by kernel_rfl
theorem zF.r6 :zG Try.prog O false (.region 6 (reg Try.f33 6) true) ([d,u,x,y,D,w,z,A,B,C,f,g,c,b,i,j,k,l,m,n,o,p,q,r,s,t]) S =
  Jb (zI (jo Try.prog 44 (dem d) (dem w) S) (fun K E=>zI (jf Try.prog false 43 K E) (fun F H=>zI (jo Try.prog 44 (dem u) (dem w) H) (fun L I=>zI (jf Try.prog false 43 L I) (fun M N=>zI (wB Try.prog BinOp.neq 43 F M N) (fun P Q=>some ([d,u,x,y,D,w,z,A,B,C,f,g,c,b,i,j,dem d,dem w,K,F,dem u,dem w,L,M,P,t],Q)) ()) ()) ()) ()) ()):=by
 rw [yF zF.d6 zF.ff6 zF.k6 zF.g6]
 refine congrArg Jb ?_
 refine tP Try.f33 6 0 (v:=d) ?_
 refine tP Try.f33 6 1 (v:=w) ?_
 refine tD Try.f33 6 2 (fun K E=>?_)
 refine tD Try.f33 6 3 (fun F H=>?_)
 refine tP Try.f33 6 4 (v:=u) ?_
 refine tP Try.f33 6 5 (v:=w) ?_
 refine tD Try.f33 6 6 (fun L I=>?_)
 refine tD Try.f33 6 7 (fun M N=>?_)
 refine tD Try.f33 6 8 (fun P Q=>?_)
 kernel_rfl
theorem zF.r7 :jw Try.prog ⟨false,false,false⟩ (zW Try.prog O) (reg Try.f33 7) (reg Try.f33 7).toList ([d,u,x,y,D,w,z,A,B,C,f,g,c,b,i,j,k,l,m,n,o,p,q,r,s,t]) S =
  ( some ([d,u,x,y,Value.bool false,w,z,A,B,C,f,g,c,b,i,j,k,l,m,n,o,p,q,r,s,t],S)):=by
 kernel_rfl
theorem zF.r8 :jw Try.prog ⟨false,false,false⟩ (zW Try.prog O) (reg Try.f33 8) (reg Try.f33 8).toList ([d,u,x,y,D,w,z,A,B,C,f,g,c,b,i,j,k,l,m,n,o,p,q,r,s,t]) S =
  (zI (wB Try.prog BinOp.add 3 b (Value.int IntKind.i64 1) S) (fun J E=>some ([d,u,x,y,D,w,z,A,B,C,f,g,c,dem J,i,j,k,l,m,n,o,p,q,r,s,J],E)) ()):=by
 kernel_rfl
theorem zF.r9 :jw Try.prog ⟨false,false,false⟩ (zW Try.prog O) (reg Try.f33 9) (reg Try.f33 9).toList ([d,u,x,y,D,w,z,A,B,C,f,g,c,b,i,j,k,l,m,n,o,p,q,r,s,t]) S =
  ( some ([d,u,x,y,Value.bool true,w,z,A,B,C,f,g,c,b,i,j,k,l,m,n,o,p,q,r,s,t],S)):=by
 kernel_rfl
theorem zF.rs:type_of% (ak5 @zF.r0 (ak5 @zF.r1 (ak5 @zF.r2 (ak5 @zF.r3 (ak5 @zF.r4 (ak5 @zF.r5 (ak5 @zF.r6 (ak5 @zF.r7 (ak5 @zF.r8 (@zF.r9)))))))))):=ak5 @zF.r0 (ak5 @zF.r1 (ak5 @zF.r2 (ak5 @zF.r3 (ak5 @zF.r4 (ak5 @zF.r5 (ak5 @zF.r6 (ak5 @zF.r7 (ak5 @zF.r8 (@zF.r9)))))))))
theorem zF.runs {d u:Value} {S E:zn} {e:AEx} {T:List Value} (h:zG Try.prog O false zF.code ([d,u,zh,zh,zh,zh,zh,zh,zh,zh,zh,zh,zh,zh,zh,zh,zh,zh,zh,zh,zh,zh,zh,zh,zh,zh]) S=some (e,T,E)) (he:e=.normal∨e=.ret):zW Try.prog O 33 [d,u] S=some (T.getD 4 zh,E) :=
 yD rfl rfl Try.func33 (by decide) zF.body (by exact h) he (yA (a:=T.getD 4 zh) ((show zK Try.prog T E Try.f33.results.toList=zK Try.prog T E [(ResultVar.tmp 4)] from by kernel_rfl).trans (by simp only [zK])) (by kernel_rfl))
end Go.Proofs.Ytfjogganfjkckaa
namespace Go.Proofs.Ytfjogganfjkckaa
open Go.Abs
abbrev slices_Equal.id:FuncId:=75
noncomputable def slices_Equal.jL:Code:=(Code.seq (Code.region 4 (reg Try.f75 4) false) (Code.seq (Code.cond (Operand.tmp 14) Code.skip (Code.exit 0)) (Code.seq (Code.block 1 (Code.seq (Code.region 5 (reg Try.f75 5) false) (Code.seq (Code.region 6 (reg Try.f75 6) true) (Code.cond (Operand.tmp 24) (Code.seq (Code.region 7 (reg Try.f75 7) false) Code.ret) Code.skip)))) (Code.region 8 (reg Try.f75 8) false))))
noncomputable def slices_Equal.code:Code:=(Code.seq (Code.region 0 (reg Try.f75 0) false) (Code.seq (Code.seq (Code.region 1 (reg Try.f75 1) false) (Code.cond (Operand.tmp 10) (Code.seq (Code.region 2 (reg Try.f75 2) false) Code.ret) Code.skip)) (Code.seq (Code.seq (Code.region 3 (reg Try.f75 3) false) (Code.block 0 (Code.loop slices_Equal.jL))) (Code.seq (Code.region 9 (reg Try.f75 9) false) Code.ret))))
theorem slices_Equal.body:Try.f75.body=some slices_Equal.code:=by kernel_rfl
theorem slices_Equal.eta {T:List Value} (h:T.length=26):T=[T.getD 0 zh,T.getD 1 zh,T.getD 2 zh,T.getD 3 zh,T.getD 4 zh,T.getD 5 zh,T.getD 6 zh,T.getD 7 zh,T.getD 8 zh,T.getD 9 zh,T.getD 10 zh,T.getD 11 zh,T.getD 12 zh,T.getD 13 zh,T.getD 14 zh,T.getD 15 zh,T.getD 16 zh,T.getD 17 zh,T.getD 18 zh,T.getD 19 zh,T.getD 20 zh,T.getD 21 zh,T.getD 22 zh,T.getD 23 zh,T.getD 24 zh,T.getD 25 zh]:=(qC T 26 h).trans (by kernel_rfl)
variable (d u x y D w z A B C f g c b i j k l m n o p q r s t:Value) (S:zn)
theorem slices_Equal.r0 :jw Try.prog ⟨false,false,false⟩ (zW Try.prog O) (reg Try.f75 0) (reg Try.f75 0).toList ([d,u,x,y,D,w,z,A,B,C,f,g,c,b,i,j,k,l,m,n,o,p,q,r,s,t]) S =
  ( some ([d,u,x,y,Value.bool false,w,z,A,B,C,f,g,c,b,i,j,k,l,m,n,o,p,q,r,s,t],S)):=by
 kernel_rfl
theorem slices_Equal.r1 :jw Try.prog ⟨false,false,false⟩ (zW Try.prog O) (reg Try.f75 1) (reg Try.f75 1).toList ([d,u,x,y,D,w,z,A,B,C,f,g,c,b,i,j,k,l,m,n,o,p,q,r,s,t]) S =
  (zI (Zz Try.prog 44 (dem d) S) (fun G E=>zI (Zz Try.prog 44 (dem u) E) (fun F H=>zI (wB Try.prog BinOp.neq 3 G F H) (fun R I=>some ([d,u,x,y,D,w,dem d,G,dem u,F,R,g,c,b,i,j,k,l,m,n,o,p,q,r,s,t],I)) ()) ()) ()):=by
 kernel_rfl
theorem slices_Equal.r2 :jw Try.prog ⟨false,false,false⟩ (zW Try.prog O) (reg Try.f75 2) (reg Try.f75 2).toList ([d,u,x,y,D,w,z,A,B,C,f,g,c,b,i,j,k,l,m,n,o,p,q,r,s,t]) S =
  ( some ([d,u,x,y,Value.bool false,w,z,A,B,C,f,g,c,b,i,j,k,l,m,n,o,p,q,r,s,t],S)):=by
 kernel_rfl
theorem slices_Equal.r3 :jw Try.prog ⟨false,false,false⟩ (zW Try.prog O) (reg Try.f75 3) (reg Try.f75 3).toList ([d,u,x,y,D,w,z,A,B,C,f,g,c,b,i,j,k,l,m,n,o,p,q,r,s,t]) S =
  (zI (Zz Try.prog 44 (dem d) S) (fun G E=>some ([d,u,x,y,D,w,z,A,B,C,f,dem d,G,Value.int IntKind.i64 0,i,j,k,l,m,n,o,p,q,r,s,t],E)) ()):=by
 kernel_rfl
theorem slices_Equal.r4 :jw Try.prog ⟨false,false,false⟩ (zW Try.prog O) (reg Try.f75 4) (reg Try.f75 4).toList ([d,u,x,y,D,w,z,A,B,C,f,g,c,b,i,j,k,l,m,n,o,p,q,r,s,t]) S =
  (zI (wB Try.prog BinOp.lss 3 b c S) (fun J E=>some ([d,u,x,y,D,w,z,A,B,C,f,g,c,b,J,j,k,l,m,n,o,p,q,r,s,t],E)) ()):=by
 kernel_rfl
theorem slices_Equal.r5 :jw Try.prog ⟨false,false,false⟩ (zW Try.prog O) (reg Try.f75 5) (reg Try.f75 5).toList ([d,u,x,y,D,w,z,A,B,C,f,g,c,b,i,j,k,l,m,n,o,p,q,r,s,t]) S =
  ( some ([d,u,x,y,D,b,z,A,B,C,f,g,c,dem b,i,dem b,k,l,m,n,o,p,q,r,s,t],S)):=by
 kernel_rfl
theorem slices_Equal.d6:qW Try.prog (reg Try.f75 6)=true:=by kernel_rfl
theorem slices_Equal.ff6:fixed Try.prog (reg Try.f75 6)=false:=by kernel_rfl
theorem slices_Equal.k6:checked Try.prog (reg Try.f75 6)=[]:=by kernel_rfl
theorem slices_Equal.g6:again Try.prog (reg Try.f75 6)=[]:=by kernel_rfl
theorem slices_Equal.r6 :zG Try.prog O false (.region 6 (reg Try.f75 6) true) ([d,u,x,y,D,w,z,A,B,C,f,g,c,b,i,j,k,l,m,n,o,p,q,r,s,t]) S =
  Jb (zI (jo Try.prog 44 (dem d) (dem w) S) (fun K E=>zI (jf Try.prog false 43 K E) (fun F H=>zI (jo Try.prog 44 (dem u) (dem w) H) (fun L I=>zI (jf Try.prog false 43 L I) (fun M N=>zI (wB Try.prog BinOp.neq 43 F M N) (fun P Q=>some ([d,u,x,y,D,w,z,A,B,C,f,g,c,b,i,j,dem d,dem w,K,F,dem u,dem w,L,M,P,t],Q)) ()) ()) ()) ()) ()):=by
 rw [yF slices_Equal.d6 slices_Equal.ff6 slices_Equal.k6 slices_Equal.g6]
 refine congrArg Jb ?_
 refine tP Try.f75 6 0 (v:=d) ?_
 refine tP Try.f75 6 1 (v:=w) ?_
 refine tD Try.f75 6 2 (fun K E=>?_)
 refine tD Try.f75 6 3 (fun F H=>?_)
 refine tP Try.f75 6 4 (v:=u) ?_
 refine tP Try.f75 6 5 (v:=w) ?_
 refine tD Try.f75 6 6 (fun L I=>?_)
 refine tD Try.f75 6 7 (fun M N=>?_)
 refine tD Try.f75 6 8 (fun P Q=>?_)
 kernel_rfl
theorem slices_Equal.r7 :jw Try.prog ⟨false,false,false⟩ (zW Try.prog O) (reg Try.f75 7) (reg Try.f75 7).toList ([d,u,x,y,D,w,z,A,B,C,f,g,c,b,i,j,k,l,m,n,o,p,q,r,s,t]) S =
  ( some ([d,u,x,y,Value.bool false,w,z,A,B,C,f,g,c,b,i,j,k,l,m,n,o,p,q,r,s,t],S)):=by
 kernel_rfl
theorem slices_Equal.r8 :jw Try.prog ⟨false,false,false⟩ (zW Try.prog O) (reg Try.f75 8) (reg Try.f75 8).toList ([d,u,x,y,D,w,z,A,B,C,f,g,c,b,i,j,k,l,m,n,o,p,q,r,s,t]) S =
  (zI (wB Try.prog BinOp.add 3 b (Value.int IntKind.i64 1) S) (fun J E=>some ([d,u,x,y,D,w,z,A,B,C,f,g,c,dem J,i,j,k,l,m,n,o,p,q,r,s,J],E)) ()):=by
 kernel_rfl
theorem slices_Equal.r9 :jw Try.prog ⟨false,false,false⟩ (zW Try.prog O) (reg Try.f75 9) (reg Try.f75 9).toList ([d,u,x,y,D,w,z,A,B,C,f,g,c,b,i,j,k,l,m,n,o,p,q,r,s,t]) S =
  ( some ([d,u,x,y,Value.bool true,w,z,A,B,C,f,g,c,b,i,j,k,l,m,n,o,p,q,r,s,t],S)):=by
 kernel_rfl
theorem slices_Equal.rs:type_of% (ak5 @slices_Equal.r0 (ak5 @slices_Equal.r1 (ak5 @slices_Equal.r2 (ak5 @slices_Equal.r3 (ak5 @slices_Equal.r4 (ak5 @slices_Equal.r5 (ak5 @slices_Equal.r6 (ak5 @slices_Equal.r7 (ak5 @slices_Equal.r8 (@slices_Equal.r9)))))))))):=ak5 @slices_Equal.r0 (ak5 @slices_Equal.r1 (ak5 @slices_Equal.r2 (ak5 @slices_Equal.r3 (ak5 @slices_Equal.r4 (ak5 @slices_Equal.r5 (ak5 @slices_Equal.r6 (ak5 @slices_Equal.r7 (ak5 @slices_Equal.r8 (@slices_Equal.r9)))))))))
theorem slices_Equal.runs {d u:Value} {S E:zn} {e:AEx} {T:List Value} (h:zG Try.prog O false slices_Equal.code ([d,u,zh,zh,zh,zh,zh,zh,zh,zh,zh,zh,zh,zh,zh,zh,zh,zh,zh,zh,zh,zh,zh,zh,zh,zh]) S=some (e,T,E)) (he:e=.normal∨e=.ret):zW Try.prog O 75 [d,u] S=some (T.getD 4 zh,E) :=
 yD rfl rfl Try.func75 (by decide) slices_Equal.body (by exact h) he (yA (a:=T.getD 4 zh) ((show zK Try.prog T E Try.f75.results.toList=zK Try.prog T E [(ResultVar.tmp 4)] from by kernel_rfl).trans (by simp only [zK])) (by kernel_rfl))
end Go.Proofs.Ytfjogganfjkckaa
namespace Go.Proofs.Ytfjogganfjkckaa
open Go.Abs
abbrev jG.id:FuncId:=70
noncomputable def jG.jL:Code:=(Code.seq (Code.region 3 (reg Try.f70 3) false) (Code.seq (Code.cond (Operand.tmp 10) Code.skip (Code.exit 0)) (Code.seq (Code.block 1 (Code.seq (Code.region 4 (reg Try.f70 4) false) (Code.seq (Code.seq (Code.region 5 (reg Try.f70 5) false) (Code.cond (Operand.tmp 16) (Code.seq (Code.region 6 (reg Try.f70 6) false) Code.ret) Code.skip)) (Code.region 7 (reg Try.f70 7) false)))) (Code.region 8 (reg Try.f70 8) false))))
noncomputable def jG.code:Code:=(Code.seq (Code.region 0 (reg Try.f70 0) false) (Code.seq (Code.region 1 (reg Try.f70 1) false) (Code.seq (Code.seq (Code.region 2 (reg Try.f70 2) false) (Code.block 0 (Code.loop jG.jL))) (Code.seq (Code.region 9 (reg Try.f70 9) false) Code.ret))))
theorem jG.body:Try.f70.body=some jG.code:=by kernel_rfl
theorem jG.eta {T:List Value} (h:T.length=24):T=[T.getD 0 zh,T.getD 1 zh,T.getD 2 zh,T.getD 3 zh,T.getD 4 zh,T.getD 5 zh,T.getD 6 zh,T.getD 7 zh,T.getD 8 zh,T.getD 9 zh,T.getD 10 zh,T.getD 11 zh,T.getD 12 zh,T.getD 13 zh,T.getD 14 zh,T.getD 15 zh,T.getD 16 zh,T.getD 17 zh,T.getD 18 zh,T.getD 19 zh,T.getD 20 zh,T.getD 21 zh,T.getD 22 zh,T.getD 23 zh]:=(qC T 24 h).trans (by kernel_rfl)
variable (r v B s w t z x y u b c d f g i j k l m n o p q:Value) (S:zn)
theorem jG.r0 :jw Try.prog ⟨false,false,false⟩ (zW Try.prog O) (reg Try.f70 0) (reg Try.f70 0).toList ([r,v,B,s,w,t,z,x,y,u,b,c,d,f,g,i,j,k,l,m,n,o,p,q]) S =
  ( some ([r,v,Value.bool false,s,w,t,z,x,y,u,b,c,d,f,g,i,j,k,l,m,n,o,p,q],S)):=by
 kernel_rfl
theorem jG.r1 :jw Try.prog ⟨false,false,false⟩ (zW Try.prog O) (reg Try.f70 1) (reg Try.f70 1).toList ([r,v,B,s,w,t,z,x,y,u,b,c,d,f,g,i,j,k,l,m,n,o,p,q]) S =
  (zI (vW Try.prog 126 none S) (fun E A=>some ([r,v,B,E,w,t,dem E,x,y,u,b,c,d,f,g,i,j,k,l,m,n,o,p,q],A)) ()):=by
 kernel_rfl
theorem jG.r2 :jw Try.prog ⟨false,false,false⟩ (zW Try.prog O) (reg Try.f70 2) (reg Try.f70 2).toList ([r,v,B,s,w,t,z,x,y,u,b,c,d,f,g,i,j,k,l,m,n,o,p,q]) S =
  (zI (Zz Try.prog 44 (dem r) S) (fun C A=>some ([r,v,B,s,w,t,z,dem r,C,Value.int IntKind.i64 0,b,c,d,f,g,i,j,k,l,m,n,o,p,q],A)) ()):=by
 kernel_rfl
theorem jG.r3 :jw Try.prog ⟨false,false,false⟩ (zW Try.prog O) (reg Try.f70 3) (reg Try.f70 3).toList ([r,v,B,s,w,t,z,x,y,u,b,c,d,f,g,i,j,k,l,m,n,o,p,q]) S =
  (zI (wB Try.prog BinOp.lss 3 u y S) (fun E A=>some ([r,v,B,s,w,t,z,x,y,u,E,c,d,f,g,i,j,k,l,m,n,o,p,q],A)) ()):=by
 kernel_rfl
theorem jG.r4 :jw Try.prog ⟨false,false,false⟩ (zW Try.prog O) (reg Try.f70 4) (reg Try.f70 4).toList ([r,v,B,s,w,t,z,x,y,u,b,c,d,f,g,i,j,k,l,m,n,o,p,q]) S =
  (zI (jo Try.prog 44 x u S) (fun E A=>zI (jf Try.prog false 43 E A) (fun C F=>zI (yG Try.prog 43 F) (fun D G=>zI (wM Try.prog 43 D (dem C) G) (fun H I=>some ([r,v,B,s,w,D,z,x,y,u,b,E,C,f,g,i,j,k,l,m,n,o,p,q],I)) ()) ()) ()) ()):=by
 kernel_rfl
theorem jG.r5 :jw Try.prog ⟨false,false,false⟩ (zW Try.prog O) (reg Try.f70 5) (reg Try.f70 5).toList ([r,v,B,s,w,t,z,x,y,u,b,c,d,f,g,i,j,k,l,m,n,o,p,q]) S =
  (zI (zA Try.prog 43 t 0 S) (fun C A=>zI (jf Try.prog false 3 C A) (fun D F=>zI (vI Try.prog false 126 (dem s) D false F) (fun H G=>some ([r,v,B,s,w,t,z,x,y,u,b,c,d,dem s,C,D,H,k,l,m,n,o,p,q],G)) ()) ()) ()):=by
 kernel_rfl
theorem jG.r6 :jw Try.prog ⟨false,false,false⟩ (zW Try.prog O) (reg Try.f70 6) (reg Try.f70 6).toList ([r,v,B,s,w,t,z,x,y,u,b,c,d,f,g,i,j,k,l,m,n,o,p,q]) S =
  ( some ([r,v,Value.bool false,s,w,t,z,x,y,u,b,c,d,f,g,i,j,k,l,m,n,o,p,q],S)):=by
 kernel_rfl
theorem jG.r7 :jw Try.prog ⟨false,false,false⟩ (zW Try.prog O) (reg Try.f70 7) (reg Try.f70 7).toList ([r,v,B,s,w,t,z,x,y,u,b,c,d,f,g,i,j,k,l,m,n,o,p,q]) S =
  (zI (zA Try.prog 43 t 0 S) (fun C A=>zI (jf Try.prog false 3 C A) (fun D F=>zI (y9 Try.prog 126 (dem s) D (Value.bool true) F) (fun H G=>some ([r,v,B,s,w,t,z,x,y,u,b,c,d,f,g,i,j,dem s,C,D,n,o,p,q],G)) ()) ()) ()):=by
 kernel_rfl
theorem jG.r8 :jw Try.prog ⟨false,false,false⟩ (zW Try.prog O) (reg Try.f70 8) (reg Try.f70 8).toList ([r,v,B,s,w,t,z,x,y,u,b,c,d,f,g,i,j,k,l,m,n,o,p,q]) S =
  (zI (wB Try.prog BinOp.add 3 u (Value.int IntKind.i64 1) S) (fun E A=>some ([r,v,B,s,w,t,z,x,y,dem E,b,c,d,f,g,i,j,k,l,m,E,o,p,q],A)) ()):=by
 kernel_rfl
theorem jG.r9 :jw Try.prog ⟨false,false,false⟩ (zW Try.prog O) (reg Try.f70 9) (reg Try.f70 9).toList ([r,v,B,s,w,t,z,x,y,u,b,c,d,f,g,i,j,k,l,m,n,o,p,q]) S =
  (zI (Zz Try.prog 44 (dem r) S) (fun C A=>zI (wB Try.prog BinOp.leq 3 C (Value.int IntKind.i64 3) A) (fun D F=>some ([r,v,D,s,w,t,z,x,y,u,b,c,d,f,g,i,j,k,l,m,n,dem r,C,dem D],F)) ()) ()):=by
 kernel_rfl
theorem jG.rs:type_of% (ak5 @jG.r0 (ak5 @jG.r1 (ak5 @jG.r2 (ak5 @jG.r3 (ak5 @jG.r4 (ak5 @jG.r5 (ak5 @jG.r6 (ak5 @jG.r7 (ak5 @jG.r8 (@jG.r9)))))))))):=ak5 @jG.r0 (ak5 @jG.r1 (ak5 @jG.r2 (ak5 @jG.r3 (ak5 @jG.r4 (ak5 @jG.r5 (ak5 @jG.r6 (ak5 @jG.r7 (ak5 @jG.r8 (@jG.r9)))))))))
theorem jG.runs {r:Value} {S A:zn} {e:AEx} {T:List Value} (h:zG Try.prog O false jG.code ([r,zh,zh,zh,zh,zh,zh,zh,zh,zh,zh,zh,zh,zh,zh,zh,zh,zh,zh,zh,zh,zh,zh,zh]) zn.empty=some (e,T,A)) (he:e=.normal∨e=.ret) (hca:[r].all (jP 16)=true) (hcv:jP 16 (T.getD 2 zh)=true):zW Try.prog O 70 [r] S=some (T.getD 2 zh,S) :=
 yu rfl rfl Try.func70 (by decide) jG.body (by exact h) he (yA (a:=T.getD 2 zh) ((show zK Try.prog T A Try.f70.results.toList=zK Try.prog T A [(ResultVar.tmp 2)] from by kernel_rfl).trans (by simp only [zK])) (by kernel_rfl)) hca hcv
end Go.Proofs.Ytfjogganfjkckaa
namespace Go.Proofs.Ytfjogganfjkckaa
open Go.Abs
abbrev jY.id:FuncId:=62
noncomputable def jY.jL:Code:=(Code.seq (Code.region 5 (reg Try.f62 5) false) (Code.seq (Code.cond (Operand.tmp 23) Code.skip (Code.exit 0)) (Code.seq (Code.block 1 (Code.seq (Code.region 6 (reg Try.f62 6) false) (Code.seq (Code.region 7 (reg Try.f62 7) false) (Code.seq (Code.seq (Code.region 8 (reg Try.f62 8) false) (Code.cond (Operand.tmp 32) (Code.seq (Code.region 9 (reg Try.f62 9) false) Code.ret) Code.skip)) (Code.region 10 (reg Try.f62 10) false))))) (Code.region 11 (reg Try.f62 11) false))))
noncomputable def jY.code:Code:=(Code.seq (Code.region 0 (reg Try.f62 0) false) (Code.seq (Code.seq (Code.region 1 (reg Try.f62 1) false) (Code.cond (Operand.tmp 12) (Code.seq (Code.region 2 (reg Try.f62 2) false) Code.ret) Code.skip)) (Code.seq (Code.region 3 (reg Try.f62 3) false) (Code.seq (Code.seq (Code.region 4 (reg Try.f62 4) false) (Code.block 0 (Code.loop jY.jL))) (Code.seq (Code.region 12 (reg Try.f62 12) false) Code.ret)))))
theorem jY.body:Try.f62.body=some jY.code:=by kernel_rfl
theorem jY.eta {T:List Value} (h:T.length=39):T=[T.getD 0 zh,T.getD 1 zh,T.getD 2 zh,T.getD 3 zh,T.getD 4 zh,T.getD 5 zh,T.getD 6 zh,T.getD 7 zh,T.getD 8 zh,T.getD 9 zh,T.getD 10 zh,T.getD 11 zh,T.getD 12 zh,T.getD 13 zh,T.getD 14 zh,T.getD 15 zh,T.getD 16 zh,T.getD 17 zh,T.getD 18 zh,T.getD 19 zh,T.getD 20 zh,T.getD 21 zh,T.getD 22 zh,T.getD 23 zh,T.getD 24 zh,T.getD 25 zh,T.getD 26 zh,T.getD 27 zh,T.getD 28 zh,T.getD 29 zh,T.getD 30 zh,T.getD 31 zh,T.getD 32 zh,T.getD 33 zh,T.getD 34 zh,T.getD 35 zh,T.getD 36 zh,T.getD 37 zh,T.getD 38 zh]:=(qC T 39 h).trans (by kernel_rfl)
variable (F J N P H M K L I G d f g i j k l m n o b c a p q r s t u v w x y z A B C D E:Value) (S:zn)
theorem jY.r0 :jw Try.prog ⟨false,false,false⟩ (zW Try.prog O) (reg Try.f62 0) (reg Try.f62 0).toList ([F,J,N,P,H,M,K,L,I,G,d,f,g,i,j,k,l,m,n,o,b,c,a,p,q,r,s,t,u,v,w,x,y,z,A,B,C,D,E]) S =
  ( some ([F,J,Value.slice none 0 0,Value.int IntKind.i64 0,H,M,K,L,I,G,d,f,g,i,j,k,l,m,n,o,b,c,a,p,q,r,s,t,u,v,w,x,y,z,A,B,C,D,E],S)):=by
 kernel_rfl
theorem jY.r1 :jw Try.prog ⟨false,false,false⟩ (zW Try.prog O) (reg Try.f62 1) (reg Try.f62 1).toList ([F,J,N,P,H,M,K,L,I,G,d,f,g,i,j,k,l,m,n,o,b,c,a,p,q,r,s,t,u,v,w,x,y,z,A,B,C,D,E]) S =
  (zI ((zW Try.prog O) 70 [(dem (dem F))] S) (fun R Q=>zI (aUn Try.prog UnOp.not R Q) (fun U X=>some ([F,J,N,P,H,M,K,L,I,G,dem F,R,U,i,j,k,l,m,n,o,b,c,a,p,q,r,s,t,u,v,w,x,y,z,A,B,C,D,E],X)) ()) ()):=by
 kernel_rfl
theorem jY.r2 :jw Try.prog ⟨false,false,false⟩ (zW Try.prog O) (reg Try.f62 2) (reg Try.f62 2).toList ([F,J,N,P,H,M,K,L,I,G,d,f,g,i,j,k,l,m,n,o,b,c,a,p,q,r,s,t,u,v,w,x,y,z,A,B,C,D,E]) S =
  ( some ([F,J,Value.slice none 0 0,Value.int IntKind.i64 61,H,M,K,L,I,G,d,f,g,i,j,k,l,m,n,o,b,c,a,p,q,r,s,t,u,v,w,x,y,z,A,B,C,D,E],S)):=by
 kernel_rfl
theorem jY.r3 :jw Try.prog ⟨false,false,false⟩ (zW Try.prog O) (reg Try.f62 3) (reg Try.f62 3).toList ([F,J,N,P,H,M,K,L,I,G,d,f,g,i,j,k,l,m,n,o,b,c,a,p,q,r,s,t,u,v,w,x,y,z,A,B,C,D,E]) S =
  (zI (Zz Try.prog 44 (dem F) S) (fun R Q=>zI (jH Try.prog 24 1 [(0,R)] Q) (fun U X=>zI ((zW Try.prog O) 63 [(dem U)] X) (fun W Y=>zI (zU W 0 Y) (fun v5 Z=>zI (zU (zO 0 W) 1 Z) (fun v6 S5=>some ([F,J,N,P,v5,v6,K,L,I,G,d,f,g,zO 1 (zO 0 W),dem F,R,U,dem W,dem v5,dem v6,b,c,a,p,q,r,s,t,u,v,w,x,y,z,A,B,C,D,E],S5)) ()) ()) ()) ()) ()):=by
 kernel_rfl
theorem jY.r4 :jw Try.prog ⟨false,false,false⟩ (zW Try.prog O) (reg Try.f62 4) (reg Try.f62 4).toList ([F,J,N,P,H,M,K,L,I,G,d,f,g,i,j,k,l,m,n,o,b,c,a,p,q,r,s,t,u,v,w,x,y,z,A,B,C,D,E]) S =
  (zI (Zz Try.prog 44 (dem F) S) (fun R Q=>some ([F,J,N,P,H,M,K,L,I,G,d,f,g,i,j,k,l,m,n,o,dem F,R,Value.int IntKind.i64 0,p,q,r,s,t,u,v,w,x,y,z,A,B,C,D,E],Q)) ()):=by
 kernel_rfl
theorem jY.r5 :jw Try.prog ⟨false,false,false⟩ (zW Try.prog O) (reg Try.f62 5) (reg Try.f62 5).toList ([F,J,N,P,H,M,K,L,I,G,d,f,g,i,j,k,l,m,n,o,b,c,a,p,q,r,s,t,u,v,w,x,y,z,A,B,C,D,E]) S =
  (zI (wB Try.prog BinOp.lss 3 a c S) (fun V Q=>some ([F,J,N,P,H,M,K,L,I,G,d,f,g,i,j,k,l,m,n,o,b,c,a,V,q,r,s,t,u,v,w,x,y,z,A,B,C,D,E],Q)) ()):=by
 kernel_rfl
theorem jY.r6 :jw Try.prog ⟨false,false,false⟩ (zW Try.prog O) (reg Try.f62 6) (reg Try.f62 6).toList ([F,J,N,P,H,M,K,L,I,G,d,f,g,i,j,k,l,m,n,o,b,c,a,p,q,r,s,t,u,v,w,x,y,z,A,B,C,D,E]) S =
  (zI (jo Try.prog 44 b a S) (fun V Q=>zI (jf Try.prog false 43 V Q) (fun R X=>zI (yG Try.prog 43 X) (fun U Y=>zI (wM Try.prog 43 U (dem R) Y) (fun W Z=>some ([F,J,N,P,H,M,K,U,I,G,d,f,g,i,j,k,l,m,n,o,b,c,a,p,V,R,s,t,u,v,w,x,y,z,A,B,C,D,E],Z)) ()) ()) ()) ()):=by
 kernel_rfl
theorem jY.r7 :jw Try.prog ⟨false,false,false⟩ (zW Try.prog O) (reg Try.f62 7) (reg Try.f62 7).toList ([F,J,N,P,H,M,K,L,I,G,d,f,g,i,j,k,l,m,n,o,b,c,a,p,q,r,s,t,u,v,w,x,y,z,A,B,C,D,E]) S =
  (zI (jf Try.prog false 43 L S) (fun V Q=>zI ((zW Try.prog O) 71 [(dem V)] Q) (fun R X=>zI (zU R 0 X) (fun W Y=>zI (zU (zO 0 R) 1 Y) (fun v4 Z=>some ([F,J,N,P,H,M,K,L,W,v4,d,f,g,i,j,k,l,m,n,o,b,c,a,p,q,r,zO 1 (zO 0 R),V,dem R,dem W,dem v4,x,y,z,A,B,C,D,E],Z)) ()) ()) ()) ()):=by
 kernel_rfl
theorem jY.r8 :jw Try.prog ⟨false,false,false⟩ (zW Try.prog O) (reg Try.f62 8) (reg Try.f62 8).toList ([F,J,N,P,H,M,K,L,I,G,d,f,g,i,j,k,l,m,n,o,b,c,a,p,q,r,s,t,u,v,w,x,y,z,A,B,C,D,E]) S =
  (zI (wB Try.prog BinOp.neq 64 (dem G) (Value.int IntKind.i64 0) S) (fun R Q=>some ([F,J,N,P,H,M,K,L,I,G,d,f,g,i,j,k,l,m,n,o,b,c,a,p,q,r,s,t,u,v,w,dem G,R,z,A,B,C,D,E],Q)) ()):=by
 kernel_rfl
theorem jY.r9 :jw Try.prog ⟨false,false,false⟩ (zW Try.prog O) (reg Try.f62 9) (reg Try.f62 9).toList ([F,J,N,P,H,M,K,L,I,G,d,f,g,i,j,k,l,m,n,o,b,c,a,p,q,r,s,t,u,v,w,x,y,z,A,B,C,D,E]) S =
  ( some ([F,J,Value.slice none 0 0,G,H,M,K,L,I,dem G,d,f,g,i,j,k,l,m,n,o,b,c,a,p,q,r,s,t,u,v,w,x,y,dem G,A,B,C,D,E],S)):=by
 kernel_rfl
theorem jY.r10 :jw Try.prog ⟨false,false,false⟩ (zW Try.prog O) (reg Try.f62 10) (reg Try.f62 10).toList ([F,J,N,P,H,M,K,L,I,G,d,f,g,i,j,k,l,m,n,o,b,c,a,p,q,r,s,t,u,v,w,x,y,z,A,B,C,D,E]) S =
  (zI (wP Try.prog 33 33 H (dem I) S) (fun U Q=>some ([F,J,N,P,U,M,K,L,I,G,d,f,g,i,j,k,l,m,n,o,b,c,a,p,q,r,s,t,u,v,w,x,y,z,dem H,dem I,dem U,D,E],Q)) ()):=by
 kernel_rfl
theorem jY.r11 :jw Try.prog ⟨false,false,false⟩ (zW Try.prog O) (reg Try.f62 11) (reg Try.f62 11).toList ([F,J,N,P,H,M,K,L,I,G,d,f,g,i,j,k,l,m,n,o,b,c,a,p,q,r,s,t,u,v,w,x,y,z,A,B,C,D,E]) S =
  (zI (wB Try.prog BinOp.add 3 a (Value.int IntKind.i64 1) S) (fun V Q=>some ([F,J,N,P,H,M,K,L,I,G,d,f,g,i,j,k,l,m,n,o,b,c,dem V,p,q,r,s,t,u,v,w,x,y,z,A,B,C,V,E],Q)) ()):=by
 kernel_rfl
theorem jY.r12 :jw Try.prog ⟨false,false,false⟩ (zW Try.prog O) (reg Try.f62 12) (reg Try.f62 12).toList ([F,J,N,P,H,M,K,L,I,G,d,f,g,i,j,k,l,m,n,o,b,c,a,p,q,r,s,t,u,v,w,x,y,z,A,B,C,D,E]) S =
  ( some ([F,J,H,Value.int IntKind.i64 0,dem H,M,K,L,I,G,d,f,g,i,j,k,l,m,n,o,b,c,a,p,q,r,s,t,u,v,w,x,y,z,A,B,C,D,dem H],S)):=by
 kernel_rfl
theorem jY.rs:type_of% (ak5 @jY.r0 (ak5 @jY.r1 (ak5 @jY.r2 (ak5 @jY.r3 (ak5 @jY.r4 (ak5 @jY.r5 (ak5 @jY.r6 (ak5 @jY.r7 (ak5 @jY.r8 (ak5 @jY.r9 (ak5 @jY.r10 (ak5 @jY.r11 (@jY.r12))))))))))))):=ak5 @jY.r0 (ak5 @jY.r1 (ak5 @jY.r2 (ak5 @jY.r3 (ak5 @jY.r4 (ak5 @jY.r5 (ak5 @jY.r6 (ak5 @jY.r7 (ak5 @jY.r8 (ak5 @jY.r9 (ak5 @jY.r10 (ak5 @jY.r11 (@jY.r12))))))))))))
theorem jY.runs {F:Value} {S Q:zn} {e:AEx} {T:List Value} (h:zG Try.prog O false jY.code ([F,zh,zh,zh,zh,zh,zh,zh,zh,zh,zh,zh,zh,zh,zh,zh,zh,zh,zh,zh,zh,zh,zh,zh,zh,zh,zh,zh,zh,zh,zh,zh,zh,zh,zh,zh,zh,zh,zh]) zn.empty=some (e,T,Q)) (he:e=.normal∨e=.ret)  (h0:wu (T.getD 2 zh)=true) (h1:wu (T.getD 3 zh)=true) (hca:[F].all (jP 16)=true) (hcv:jP 16 (Value.tuple #[T.getD 2 zh,T.getD 3 zh])=true):zW Try.prog O 62 [F] S=some (Value.tuple #[T.getD 2 zh,T.getD 3 zh],S) :=
 yu rfl rfl Try.func62 (by decide) jY.body (by exact h) he ((yY ((show zK Try.prog T Q Try.f62.results.toList=zK Try.prog T Q [(ResultVar.tmp 2),(ResultVar.tmp 3)] from by kernel_rfl).trans (by simp only [zK])) (by kernel_rfl) (by simp only [List.all_cons,List.all_nil,h0,h1,Bool.and_true])).trans rfl) hca hcv
end Go.Proofs.Ytfjogganfjkckaa
namespace Go.Proofs.Ytfjogganfjkckaa
open Go.Abs
abbrev zu.id:FuncId:=50
noncomputable def zu.jL:Code:=(Code.seq (Code.region 10 (reg Try.f50 10) false) (Code.seq (Code.cond (Operand.tmp 30) Code.skip (Code.exit 2)) (Code.seq (Code.block 3 (Code.seq (Code.region 11 (reg Try.f50 11) false) (Code.seq (Code.region 12 (reg Try.f50 12) false) (Code.cond (Operand.tmp 37) (Code.seq (Code.region 13 (reg Try.f50 13) false) Code.ret) Code.skip)))) (Code.region 14 (reg Try.f50 14) false))))
noncomputable def zu.kP:Code:=(Code.seq (Code.region 5 (reg Try.f50 5) false) (Code.seq (Code.cond (Operand.tmp 18) Code.skip (Code.exit 0)) (Code.seq (Code.block 1 (Code.seq (Code.region 6 (reg Try.f50 6) false) (Code.seq (Code.seq (Code.region 7 (reg Try.f50 7) false) (Code.cond (Operand.tmp 24) (Code.seq (Code.region 8 (reg Try.f50 8) false) Code.ret) Code.skip)) (Code.seq (Code.seq (Code.region 9 (reg Try.f50 9) false) (Code.block 2 (Code.loop zu.jL))) (Code.region 15 (reg Try.f50 15) false))))) (Code.region 16 (reg Try.f50 16) false))))
noncomputable def zu.code:Code:=(Code.seq (Code.region 0 (reg Try.f50 0) false) (Code.seq (Code.seq (Code.region 1 (reg Try.f50 1) false) (Code.cond (Operand.tmp 11) (Code.seq (Code.region 2 (reg Try.f50 2) false) Code.ret) Code.skip)) (Code.seq (Code.region 3 (reg Try.f50 3) false) (Code.seq (Code.seq (Code.region 4 (reg Try.f50 4) false) (Code.block 0 (Code.loop zu.kP))) (Code.seq (Code.region 17 (reg Try.f50 17) false) Code.ret)))))
theorem zu.body:Try.f50.body=some zu.code:=by kernel_rfl
theorem zu.eta {T:List Value} (h:T.length=51):T=[T.getD 0 zh,T.getD 1 zh,T.getD 2 zh,T.getD 3 zh,T.getD 4 zh,T.getD 5 zh,T.getD 6 zh,T.getD 7 zh,T.getD 8 zh,T.getD 9 zh,T.getD 10 zh,T.getD 11 zh,T.getD 12 zh,T.getD 13 zh,T.getD 14 zh,T.getD 15 zh,T.getD 16 zh,T.getD 17 zh,T.getD 18 zh,T.getD 19 zh,T.getD 20 zh,T.getD 21 zh,T.getD 22 zh,T.getD 23 zh,T.getD 24 zh,T.getD 25 zh,T.getD 26 zh,T.getD 27 zh,T.getD 28 zh,T.getD 29 zh,T.getD 30 zh,T.getD 31 zh,T.getD 32 zh,T.getD 33 zh,T.getD 34 zh,T.getD 35 zh,T.getD 36 zh,T.getD 37 zh,T.getD 38 zh,T.getD 39 zh,T.getD 40 zh,T.getD 41 zh,T.getD 42 zh,T.getD 43 zh,T.getD 44 zh,T.getD 45 zh,T.getD 46 zh,T.getD 47 zh,T.getD 48 zh,T.getD 49 zh,T.getD 50 zh]:=(qC T 51 h).trans (by kernel_rfl)
variable (U Y x2 x3 W X V Z x8 x9 i j k l m c d a n o p q r s t u v f g b w x y z A B C D E F G H I J K L M N P Q R:Value) (S:zn)
theorem zu.r0 :jw Try.prog ⟨false,false,false⟩ (zW Try.prog O) (reg Try.f50 0) (reg Try.f50 0).toList ([U,Y,x2,x3,W,X,V,Z,x8,x9,i,j,k,l,m,c,d,a,n,o,p,q,r,s,t,u,v,f,g,b,w,x,y,z,A,B,C,D,E,F,G,H,I,J,K,L,M,N,P,Q,R]) S =
  ( some ([U,Y,Value.slice none 0 0,Value.int IntKind.i64 0,W,X,V,Z,x8,x9,i,j,k,l,m,c,d,a,n,o,p,q,r,s,t,u,v,f,g,b,w,x,y,z,A,B,C,D,E,F,G,H,I,J,K,L,M,N,P,Q,R],S)):=by
 kernel_rfl
theorem zu.r1 :jw Try.prog ⟨false,false,false⟩ (zW Try.prog O) (reg Try.f50 1) (reg Try.f50 1).toList ([U,Y,x2,x3,W,X,V,Z,x8,x9,i,j,k,l,m,c,d,a,n,o,p,q,r,s,t,u,v,f,g,b,w,x,y,z,A,B,C,D,E,F,G,H,I,J,K,L,M,N,P,Q,R]) S =
  (zI (Zz Try.prog 44 (dem U) S) (fun v1 S1=>zI (wB Try.prog BinOp.gtr 3 v1 (Value.int IntKind.i64 3) S1) (fun v2 S2=>some ([U,Y,x2,x3,W,X,V,Z,x8,dem U,v1,v2,k,l,m,c,d,a,n,o,p,q,r,s,t,u,v,f,g,b,w,x,y,z,A,B,C,D,E,F,G,H,I,J,K,L,M,N,P,Q,R],S2)) ()) ()):=by
 kernel_rfl
theorem zu.r2 :jw Try.prog ⟨false,false,false⟩ (zW Try.prog O) (reg Try.f50 2) (reg Try.f50 2).toList ([U,Y,x2,x3,W,X,V,Z,x8,x9,i,j,k,l,m,c,d,a,n,o,p,q,r,s,t,u,v,f,g,b,w,x,y,z,A,B,C,D,E,F,G,H,I,J,K,L,M,N,P,Q,R]) S =
  ( some ([U,Y,Value.slice none 0 0,Value.int IntKind.i64 61,W,X,V,Z,x8,x9,i,j,k,l,m,c,d,a,n,o,p,q,r,s,t,u,v,f,g,b,w,x,y,z,A,B,C,D,E,F,G,H,I,J,K,L,M,N,P,Q,R],S)):=by
 kernel_rfl
theorem zu.r3 :jw Try.prog ⟨false,false,false⟩ (zW Try.prog O) (reg Try.f50 3) (reg Try.f50 3).toList ([U,Y,x2,x3,W,X,V,Z,x8,x9,i,j,k,l,m,c,d,a,n,o,p,q,r,s,t,u,v,f,g,b,w,x,y,z,A,B,C,D,E,F,G,H,I,J,K,L,M,N,P,Q,R]) S =
  (zI (Zz Try.prog 44 (dem U) S) (fun v1 S1=>zI (jH Try.prog 24 1 [(0,v1)] S1) (fun v2 S2=>some ([U,Y,x2,x3,v2,X,V,Z,x8,x9,i,j,dem U,v1,dem v2,c,d,a,n,o,p,q,r,s,t,u,v,f,g,b,w,x,y,z,A,B,C,D,E,F,G,H,I,J,K,L,M,N,P,Q,R],S2)) ()) ()):=by
 kernel_rfl
theorem zu.r4 :jw Try.prog ⟨false,false,false⟩ (zW Try.prog O) (reg Try.f50 4) (reg Try.f50 4).toList ([U,Y,x2,x3,W,X,V,Z,x8,x9,i,j,k,l,m,c,d,a,n,o,p,q,r,s,t,u,v,f,g,b,w,x,y,z,A,B,C,D,E,F,G,H,I,J,K,L,M,N,P,Q,R]) S =
  (zI (Zz Try.prog 44 (dem U) S) (fun v1 S1=>some ([U,Y,x2,x3,W,X,V,Z,x8,x9,i,j,k,l,m,dem U,v1,Value.int IntKind.i64 0,n,o,p,q,r,s,t,u,v,f,g,b,w,x,y,z,A,B,C,D,E,F,G,H,I,J,K,L,M,N,P,Q,R],S1)) ()):=by
 kernel_rfl
theorem zu.r5 :jw Try.prog ⟨false,false,false⟩ (zW Try.prog O) (reg Try.f50 5) (reg Try.f50 5).toList ([U,Y,x2,x3,W,X,V,Z,x8,x9,i,j,k,l,m,c,d,a,n,o,p,q,r,s,t,u,v,f,g,b,w,x,y,z,A,B,C,D,E,F,G,H,I,J,K,L,M,N,P,Q,R]) S =
  (zI (wB Try.prog BinOp.lss 3 a d S) (fun v0 S1=>some ([U,Y,x2,x3,W,X,V,Z,x8,x9,i,j,k,l,m,c,d,a,v0,o,p,q,r,s,t,u,v,f,g,b,w,x,y,z,A,B,C,D,E,F,G,H,I,J,K,L,M,N,P,Q,R],S1)) ()):=by
 kernel_rfl
theorem zu.r6 :jw Try.prog ⟨false,false,false⟩ (zW Try.prog O) (reg Try.f50 6) (reg Try.f50 6).toList ([U,Y,x2,x3,W,X,V,Z,x8,x9,i,j,k,l,m,c,d,a,n,o,p,q,r,s,t,u,v,f,g,b,w,x,y,z,A,B,C,D,E,F,G,H,I,J,K,L,M,N,P,Q,R]) S =
  (zI (jo Try.prog 44 c (dem a) S) (fun v1 S1=>zI (jf Try.prog false 43 v1 S1) (fun v2 S2=>zI (yG Try.prog 43 S2) (fun v3 S3=>zI (wM Try.prog 43 v3 (dem v2) S3) (fun v5 S4=>some ([U,Y,x2,x3,W,a,v3,Z,x8,x9,i,j,k,l,m,c,d,dem a,n,dem a,v1,v2,r,s,t,u,v,f,g,b,w,x,y,z,A,B,C,D,E,F,G,H,I,J,K,L,M,N,P,Q,R],S4)) ()) ()) ()) ()):=by
 kernel_rfl
theorem zu.r7 :jw Try.prog ⟨false,false,false⟩ (zW Try.prog O) (reg Try.f50 7) (reg Try.f50 7).toList ([U,Y,x2,x3,W,X,V,Z,x8,x9,i,j,k,l,m,c,d,a,n,o,p,q,r,s,t,u,v,f,g,b,w,x,y,z,A,B,C,D,E,F,G,H,I,J,K,L,M,N,P,Q,R]) S =
  (zI (jf Try.prog false 43 V S) (fun v0 S1=>zI ((zW Try.prog O) 48 [(dem v0)] S1) (fun v1 S2=>zI (aUn Try.prog UnOp.not v1 S2) (fun v2 S3=>some ([U,Y,x2,x3,W,X,V,Z,x8,x9,i,j,k,l,m,c,d,a,n,o,p,q,v0,v1,v2,u,v,f,g,b,w,x,y,z,A,B,C,D,E,F,G,H,I,J,K,L,M,N,P,Q,R],S3)) ()) ()) ()):=by
 kernel_rfl
theorem zu.r8 :jw Try.prog ⟨false,false,false⟩ (zW Try.prog O) (reg Try.f50 8) (reg Try.f50 8).toList ([U,Y,x2,x3,W,X,V,Z,x8,x9,i,j,k,l,m,c,d,a,n,o,p,q,r,s,t,u,v,f,g,b,w,x,y,z,A,B,C,D,E,F,G,H,I,J,K,L,M,N,P,Q,R]) S =
  ( some ([U,Y,Value.slice none 0 0,Value.int IntKind.i64 61,W,X,V,Z,x8,x9,i,j,k,l,m,c,d,a,n,o,p,q,r,s,t,u,v,f,g,b,w,x,y,z,A,B,C,D,E,F,G,H,I,J,K,L,M,N,P,Q,R],S)):=by
 kernel_rfl
theorem zu.r9 :jw Try.prog ⟨false,false,false⟩ (zW Try.prog O) (reg Try.f50 9) (reg Try.f50 9).toList ([U,Y,x2,x3,W,X,V,Z,x8,x9,i,j,k,l,m,c,d,a,n,o,p,q,r,s,t,u,v,f,g,b,w,x,y,z,A,B,C,D,E,F,G,H,I,J,K,L,M,N,P,Q,R]) S =
  (zI (ZC Try.prog false 44 (dem U) none (some (dem X)) S) (fun v2 S1=>zI (Zz Try.prog 44 v2 S1) (fun v3 S2=>some ([U,Y,x2,x3,W,X,V,Z,x8,x9,i,j,k,l,m,c,d,a,n,o,p,q,r,s,t,dem U,dem X,v2,v3,Value.int IntKind.i64 0,w,x,y,z,A,B,C,D,E,F,G,H,I,J,K,L,M,N,P,Q,R],S2)) ()) ()):=by
 kernel_rfl
theorem zu.r10 :jw Try.prog ⟨false,false,false⟩ (zW Try.prog O) (reg Try.f50 10) (reg Try.f50 10).toList ([U,Y,x2,x3,W,X,V,Z,x8,x9,i,j,k,l,m,c,d,a,n,o,p,q,r,s,t,u,v,f,g,b,w,x,y,z,A,B,C,D,E,F,G,H,I,J,K,L,M,N,P,Q,R]) S =
  (zI (wB Try.prog BinOp.lss 3 b g S) (fun v0 S1=>some ([U,Y,x2,x3,W,X,V,Z,x8,x9,i,j,k,l,m,c,d,a,n,o,p,q,r,s,t,u,v,f,g,b,v0,x,y,z,A,B,C,D,E,F,G,H,I,J,K,L,M,N,P,Q,R],S1)) ()):=by
 kernel_rfl
theorem zu.r11 :jw Try.prog ⟨false,false,false⟩ (zW Try.prog O) (reg Try.f50 11) (reg Try.f50 11).toList ([U,Y,x2,x3,W,X,V,Z,x8,x9,i,j,k,l,m,c,d,a,n,o,p,q,r,s,t,u,v,f,g,b,w,x,y,z,A,B,C,D,E,F,G,H,I,J,K,L,M,N,P,Q,R]) S =
  (zI (jo Try.prog 44 f b S) (fun v0 S1=>zI (jf Try.prog false 43 v0 S1) (fun v1 S2=>zI (yG Try.prog 43 S2) (fun v2 S3=>zI (wM Try.prog 43 v2 (dem v1) S3) (fun v3 S4=>some ([U,Y,x2,x3,W,X,V,Z,v2,x9,i,j,k,l,m,c,d,a,n,o,p,q,r,s,t,u,v,f,g,b,w,v0,v1,z,A,B,C,D,E,F,G,H,I,J,K,L,M,N,P,Q,R],S4)) ()) ()) ()) ()):=by
 kernel_rfl
theorem zu.r12 :jw Try.prog ⟨false,false,false⟩ (zW Try.prog O) (reg Try.f50 12) (reg Try.f50 12).toList ([U,Y,x2,x3,W,X,V,Z,x8,x9,i,j,k,l,m,c,d,a,n,o,p,q,r,s,t,u,v,f,g,b,w,x,y,z,A,B,C,D,E,F,G,H,I,J,K,L,M,N,P,Q,R]) S =
  (zI (zA Try.prog 43 x8 0 S) (fun v0 S1=>zI (jf Try.prog false 3 v0 S1) (fun v1 S2=>zI (zA Try.prog 43 V 0 S2) (fun v2 S3=>zI (jf Try.prog false 3 v2 S3) (fun v3 S4=>zI (wB Try.prog BinOp.eql 3 v1 v3 S4) (fun v4 S5=>some ([U,Y,x2,x3,W,X,V,Z,x8,x9,i,j,k,l,m,c,d,a,n,o,p,q,r,s,t,u,v,f,g,b,w,x,y,v0,v1,v2,v3,v4,E,F,G,H,I,J,K,L,M,N,P,Q,R],S5)) ()) ()) ()) ()) ()):=by
 kernel_rfl
theorem zu.r13 :jw Try.prog ⟨false,false,false⟩ (zW Try.prog O) (reg Try.f50 13) (reg Try.f50 13).toList ([U,Y,x2,x3,W,X,V,Z,x8,x9,i,j,k,l,m,c,d,a,n,o,p,q,r,s,t,u,v,f,g,b,w,x,y,z,A,B,C,D,E,F,G,H,I,J,K,L,M,N,P,Q,R]) S =
  ( some ([U,Y,Value.slice none 0 0,Value.int IntKind.i64 61,W,X,V,Z,x8,x9,i,j,k,l,m,c,d,a,n,o,p,q,r,s,t,u,v,f,g,b,w,x,y,z,A,B,C,D,E,F,G,H,I,J,K,L,M,N,P,Q,R],S)):=by
 kernel_rfl
theorem zu.r14 :jw Try.prog ⟨false,false,false⟩ (zW Try.prog O) (reg Try.f50 14) (reg Try.f50 14).toList ([U,Y,x2,x3,W,X,V,Z,x8,x9,i,j,k,l,m,c,d,a,n,o,p,q,r,s,t,u,v,f,g,b,w,x,y,z,A,B,C,D,E,F,G,H,I,J,K,L,M,N,P,Q,R]) S =
  (zI (wB Try.prog BinOp.add 3 b (Value.int IntKind.i64 1) S) (fun v0 S1=>some ([U,Y,x2,x3,W,X,V,Z,x8,x9,i,j,k,l,m,c,d,a,n,o,p,q,r,s,t,u,v,f,g,dem v0,w,x,y,z,A,B,C,D,v0,F,G,H,I,J,K,L,M,N,P,Q,R],S1)) ()):=by
 kernel_rfl
theorem zu.r15 :jw Try.prog ⟨false,false,false⟩ (zW Try.prog O) (reg Try.f50 15) (reg Try.f50 15).toList ([U,Y,x2,x3,W,X,V,Z,x8,x9,i,j,k,l,m,c,d,a,n,o,p,q,r,s,t,u,v,f,g,b,w,x,y,z,A,B,C,D,E,F,G,H,I,J,K,L,M,N,P,Q,R]) S =
  (zI (zA Try.prog 43 V 0 S) (fun v1 S1=>zI (jf Try.prog false 3 v1 S1) (fun v2 S2=>zI (zA Try.prog 43 V 1 S2) (fun v3 S3=>zI (jf Try.prog false 3 v3 S3) (fun v4 S4=>zI (jH Try.prog 24 2 [(0,v2),(1,v4)] S4) (fun v5 S5=>zI (wP Try.prog 24 24 W v5 S5) (fun v6 S6=>some ([U,Y,x2,x3,v6,X,V,Z,x8,x9,i,j,k,l,m,c,d,a,n,o,p,q,r,s,t,u,v,f,g,b,w,x,y,z,A,B,C,D,E,dem W,v1,v2,v3,v4,v5,dem v6,M,N,P,Q,R],S6)) ()) ()) ()) ()) ()) ()):=by
 kernel_rfl
theorem zu.r16 :jw Try.prog ⟨false,false,false⟩ (zW Try.prog O) (reg Try.f50 16) (reg Try.f50 16).toList ([U,Y,x2,x3,W,X,V,Z,x8,x9,i,j,k,l,m,c,d,a,n,o,p,q,r,s,t,u,v,f,g,b,w,x,y,z,A,B,C,D,E,F,G,H,I,J,K,L,M,N,P,Q,R]) S =
  (zI (wB Try.prog BinOp.add 3 a (Value.int IntKind.i64 1) S) (fun v0 S1=>some ([U,Y,x2,x3,W,X,V,Z,x8,x9,i,j,k,l,m,c,d,dem v0,n,o,p,q,r,s,t,u,v,f,g,b,w,x,y,z,A,B,C,D,E,F,G,H,I,J,K,L,v0,N,P,Q,R],S1)) ()):=by
 kernel_rfl
theorem zu.r17 :jw Try.prog ⟨false,false,false⟩ (zW Try.prog O) (reg Try.f50 17) (reg Try.f50 17).toList ([U,Y,x2,x3,W,X,V,Z,x8,x9,i,j,k,l,m,c,d,a,n,o,p,q,r,s,t,u,v,f,g,b,w,x,y,z,A,B,C,D,E,F,G,H,I,J,K,L,M,N,P,Q,R]) S =
  (zI ((zW Try.prog O) 35 [(dem (dem W))] S) (fun v1 S1=>zI (zU v1 0 S1) (fun v2 S2=>zI (zU (zO 0 v1) 1 S2) (fun v3 S3=>some ([U,Y,v2,v3,W,X,V,Z,x8,x9,i,j,k,l,m,c,d,a,n,o,p,q,r,s,t,u,v,f,g,b,w,x,y,z,A,B,C,D,E,F,G,H,I,J,K,L,M,dem W,zO 1 (zO 0 v1),dem v2,dem v3],S3)) ()) ()) ()):=by
 kernel_rfl
theorem zu.rs:type_of% (ak5 @zu.r0 (ak5 @zu.r1 (ak5 @zu.r2 (ak5 @zu.r3 (ak5 @zu.r4 (ak5 @zu.r5 (ak5 @zu.r6 (ak5 @zu.r7 (ak5 @zu.r8 (ak5 @zu.r9 (ak5 @zu.r10 (ak5 @zu.r11 (ak5 @zu.r12 (ak5 @zu.r13 (ak5 @zu.r14 (ak5 @zu.r15 (ak5 @zu.r16 (@zu.r17)))))))))))))))))):=ak5 @zu.r0 (ak5 @zu.r1 (ak5 @zu.r2 (ak5 @zu.r3 (ak5 @zu.r4 (ak5 @zu.r5 (ak5 @zu.r6 (ak5 @zu.r7 (ak5 @zu.r8 (ak5 @zu.r9 (ak5 @zu.r10 (ak5 @zu.r11 (ak5 @zu.r12 (ak5 @zu.r13 (ak5 @zu.r14 (ak5 @zu.r15 (ak5 @zu.r16 (@zu.r17)))))))))))))))))
theorem zu.runs {U:Value} {S S1:zn} {e:AEx} {T:List Value} (h:zG Try.prog O false zu.code ([U,zh,zh,zh,zh,zh,zh,zh,zh,zh,zh,zh,zh,zh,zh,zh,zh,zh,zh,zh,zh,zh,zh,zh,zh,zh,zh,zh,zh,zh,zh,zh,zh,zh,zh,zh,zh,zh,zh,zh,zh,zh,zh,zh,zh,zh,zh,zh,zh,zh,zh]) zn.empty=some (e,T,S1)) (he:e=.normal∨e=.ret)  (h0:wu (T.getD 2 zh)=true) (h1:wu (T.getD 3 zh)=true) (hca:[U].all (jP 16)=true) (hcv:jP 16 (Value.tuple #[T.getD 2 zh,T.getD 3 zh])=true):zW Try.prog O 50 [U] S=some (Value.tuple #[T.getD 2 zh,T.getD 3 zh],S) :=
 yu rfl rfl Try.func50 (by decide) zu.body (by exact h) he ((yY ((show zK Try.prog T S1 Try.f50.results.toList=zK Try.prog T S1 [(ResultVar.tmp 2),(ResultVar.tmp 3)] from by kernel_rfl).trans (by simp only [zK])) (by kernel_rfl) (by simp only [List.all_cons,List.all_nil,h0,h1,Bool.and_true])).trans rfl) hca hcv
end Go.Proofs.Ytfjogganfjkckaa
namespace Go.Proofs.Ytfjogganfjkckaa
open Go.Abs
abbrev yN.id:FuncId:=71
noncomputable def yN.code:Code:=(Code.seq (Code.region 0 (reg Try.f71 0) false) (Code.seq (Code.seq (Code.region 1 (reg Try.f71 1) false) (Code.cond (Operand.tmp 8) (Code.seq (Code.region 2 (reg Try.f71 2) false) Code.ret) Code.skip)) (Code.seq (Code.region 3 (reg Try.f71 3) false) (Code.seq (Code.region 4 (reg Try.f71 4) false) Code.ret))))
theorem yN.body:Try.f71.body=some yN.code:=by kernel_rfl
variable (a m u v n o p q r s b c d f g i j k l:Value) (S:zn)
theorem yN.r0 :jw Try.prog ⟨false,false,false⟩ (zW Try.prog O) (reg Try.f71 0) (reg Try.f71 0).toList ([a,m,u,v,n,o,p,q,r,s,b,c,d,f,g,i,j,k,l]) S =
  (zI (JJ (dem a) S) (fun w t=>some ([a,w,Value.slice none 0 0,Value.int IntKind.i64 0,n,o,p,q,r,s,b,c,d,f,g,i,j,k,l],t)) ()):=by
 kernel_rfl
theorem yN.r1 :jw Try.prog ⟨false,false,false⟩ (zW Try.prog O) (reg Try.f71 1) (reg Try.f71 1).toList ([a,m,u,v,n,o,p,q,r,s,b,c,d,f,g,i,j,k,l]) S =
  (zI (jf Try.prog false 43 m S) (fun w t=>zI ((zW Try.prog O) 68 [(dem w)] t) (fun x A=>zI (aUn Try.prog UnOp.not x A) (fun y B=>some ([a,m,u,v,n,o,w,x,y,s,b,c,d,f,g,i,j,k,l],B)) ()) ()) ()):=by
 kernel_rfl
theorem yN.r2 :jw Try.prog ⟨false,false,false⟩ (zW Try.prog O) (reg Try.f71 2) (reg Try.f71 2).toList ([a,m,u,v,n,o,p,q,r,s,b,c,d,f,g,i,j,k,l]) S =
  ( some ([a,m,Value.slice none 0 0,Value.int IntKind.i64 61,n,o,p,q,r,s,b,c,d,f,g,i,j,k,l],S)):=by
 kernel_rfl
theorem yN.r3 :jw Try.prog ⟨false,false,false⟩ (zW Try.prog O) (reg Try.f71 3) (reg Try.f71 3).toList ([a,m,u,v,n,o,p,q,r,s,b,c,d,f,g,i,j,k,l]) S =
  (zI (zA Try.prog 43 m 0 S) (fun w t=>zI (jf Try.prog false 3 w t) (fun x A=>zI (zA Try.prog 43 m 1 A) (fun y B=>zI (jf Try.prog false 3 y B) (fun C G=>zI (jH Try.prog 24 2 [(0,x),(1,C)] G) (fun D H=>zI ((zW Try.prog O) 63 [(dem D)] H) (fun z I=>zI (zU z 0 I) (fun E J=>zI (zU (zO 0 z) 1 J) (fun F K=>some ([a,m,u,v,E,F,p,q,r,zO 1 (zO 0 z),w,x,y,C,D,dem z,dem E,dem F,l],K)) ()) ()) ()) ()) ()) ()) ()) ()):=by
 kernel_rfl
theorem yN.r4 :jw Try.prog ⟨false,false,false⟩ (zW Try.prog O) (reg Try.f71 4) (reg Try.f71 4).toList ([a,m,u,v,n,o,p,q,r,s,b,c,d,f,g,i,j,k,l]) S =
  ( some ([a,m,n,Value.int IntKind.i64 0,dem n,o,p,q,r,s,b,c,d,f,g,i,j,k,dem n],S)):=by
 kernel_rfl
theorem yN.rs:type_of% (ak5 @yN.r0 (ak5 @yN.r1 (ak5 @yN.r2 (ak5 @yN.r3 (@yN.r4))))):=ak5 @yN.r0 (ak5 @yN.r1 (ak5 @yN.r2 (ak5 @yN.r3 (@yN.r4))))
theorem yN.runs {a:Value} {S t:zn} {e:AEx} {T:List Value} (h:zG Try.prog O false yN.code ([a,zh,zh,zh,zh,zh,zh,zh,zh,zh,zh,zh,zh,zh,zh,zh,zh,zh,zh]) zn.empty=some (e,T,t)) (he:e=.normal∨e=.ret)  (h0:wu (T.getD 2 zh)=true) (h1:wu (T.getD 3 zh)=true) (hca:[a].all (jP 16)=true) (hcv:jP 16 (Value.tuple #[T.getD 2 zh,T.getD 3 zh])=true):zW Try.prog O 71 [a] S=some (Value.tuple #[T.getD 2 zh,T.getD 3 zh],S) :=
 yu rfl rfl Try.func71 (by decide) yN.body (by exact h) he ((yY ((show zK Try.prog T t Try.f71.results.toList=zK Try.prog T t [(ResultVar.tmp 2),(ResultVar.tmp 3)] from by kernel_rfl).trans (by simp only [zK])) (by kernel_rfl) (by simp only [List.all_cons,List.all_nil,h0,h1,Bool.and_true])).trans rfl) hca hcv
end Go.Proofs.Ytfjogganfjkckaa
namespace Go.Proofs.Ytfjogganfjkckaa
open Go.Abs
abbrev jD.id:FuncId:=36
noncomputable def jD.code:Code:=(Code.seq (Code.region 0 (reg Try.f36 0) false) (Code.seq (Code.seq (Code.region 1 (reg Try.f36 1) false) (Code.cond (Operand.tmp 6) (Code.seq (Code.region 2 (reg Try.f36 2) false) Code.ret) Code.skip)) (Code.seq (Code.region 3 (reg Try.f36 3) false) Code.ret)))
theorem jD.body:Try.f36.body=some jD.code:=by kernel_rfl
variable (a i r s k l m n o p b c d f g:Value) (S:zn)
theorem jD.r0 :jw Try.prog ⟨false,false,false⟩ (zW Try.prog O) (reg Try.f36 0) (reg Try.f36 0).toList ([a,i,r,s,k,l,m,n,o,p,b,c,d,f,g]) S =
  (zI (JJ (dem a) S) (fun q j=>some ([a,q,Value.slice none 0 0,Value.int IntKind.i64 0,k,l,m,n,o,p,b,c,d,f,g],j)) ()):=by
 kernel_rfl
theorem jD.r1 :jw Try.prog ⟨false,false,false⟩ (zW Try.prog O) (reg Try.f36 1) (reg Try.f36 1).toList ([a,i,r,s,k,l,m,n,o,p,b,c,d,f,g]) S =
  (zI (jf Try.prog false 43 i S) (fun q j=>zI ((zW Try.prog O) 48 [(dem q)] j) (fun t v=>zI (aUn Try.prog UnOp.not t v) (fun u w=>some ([a,i,r,s,q,t,u,n,o,p,b,c,d,f,g],w)) ()) ()) ()):=by
 kernel_rfl
theorem jD.r2 :jw Try.prog ⟨false,false,false⟩ (zW Try.prog O) (reg Try.f36 2) (reg Try.f36 2).toList ([a,i,r,s,k,l,m,n,o,p,b,c,d,f,g]) S =
  ( some ([a,i,Value.slice none 0 0,Value.int IntKind.i64 61,k,l,m,n,o,p,b,c,d,f,g],S)):=by
 kernel_rfl
theorem jD.r3 :jw Try.prog ⟨false,false,false⟩ (zW Try.prog O) (reg Try.f36 3) (reg Try.f36 3).toList ([a,i,r,s,k,l,m,n,o,p,b,c,d,f,g]) S =
  (zI (zA Try.prog 43 i 0 S) (fun q j=>zI (jf Try.prog false 3 q j) (fun t v=>zI (zA Try.prog 43 i 1 v) (fun u w=>zI (jf Try.prog false 3 u w) (fun y C=>zI (jH Try.prog 24 2 [(0,t),(1,y)] C) (fun z D=>zI ((zW Try.prog O) 35 [(dem z)] D) (fun x E=>zI (zU x 0 E) (fun A F=>zI (zU (zO 0 x) 1 F) (fun B G=>some ([a,i,A,B,k,l,m,q,t,u,y,z,zO 1 (zO 0 x),dem A,dem B],G)) ()) ()) ()) ()) ()) ()) ()) ()):=by
 kernel_rfl
theorem jD.rs:type_of% (ak5 @jD.r0 (ak5 @jD.r1 (ak5 @jD.r2 (@jD.r3)))):=ak5 @jD.r0 (ak5 @jD.r1 (ak5 @jD.r2 (@jD.r3)))
theorem jD.runs {a:Value} {S j:zn} {e:AEx} {T:List Value} (h:zG Try.prog O false jD.code ([a,zh,zh,zh,zh,zh,zh,zh,zh,zh,zh,zh,zh,zh,zh]) zn.empty=some (e,T,j)) (he:e=.normal∨e=.ret)  (h0:wu (T.getD 2 zh)=true) (h1:wu (T.getD 3 zh)=true) (hca:[a].all (jP 16)=true) (hcv:jP 16 (Value.tuple #[T.getD 2 zh,T.getD 3 zh])=true):zW Try.prog O 36 [a] S=some (Value.tuple #[T.getD 2 zh,T.getD 3 zh],S) :=
 yu rfl rfl Try.func36 (by decide) jD.body (by exact h) he ((yY ((show zK Try.prog T j Try.f36.results.toList=zK Try.prog T j [(ResultVar.tmp 2),(ResultVar.tmp 3)] from by kernel_rfl).trans (by simp only [zK])) (by kernel_rfl) (by simp only [List.all_cons,List.all_nil,h0,h1,Bool.and_true])).trans rfl) hca hcv
end Go.Proofs.Ytfjogganfjkckaa
namespace Go.Proofs.Ytfjogganfjkckaa
open Go.Abs
abbrev wZ.id:FuncId:=64
noncomputable def wZ.code:Code:=(Code.seq (Code.region 0 (reg Try.f64 0) false) (Code.seq (Code.region 1 (reg Try.f64 1) false) (Code.seq (Code.seq (Code.region 2 (reg Try.f64 2) false) (Code.cond (Operand.tmp 16) (Code.seq (Code.region 3 (reg Try.f64 3) false) Code.ret) Code.skip)) (Code.seq (Code.region 4 (reg Try.f64 4) true) (Code.seq (Code.region 5 (reg Try.f64 5) true) Code.ret)))))
theorem wZ.body:Try.f64.body=some wZ.code:=by kernel_rfl
variable (c E C H I b z D A F d f g i j k l m n o p q r s t u w x y:Value) (S:zn)
theorem wZ.r0 :jw Try.prog ⟨false,false,false⟩ (zW Try.prog O) (reg Try.f64 0) (reg Try.f64 0).toList ([c,E,C,H,I,b,z,D,A,F,d,f,g,i,j,k,l,m,n,o,p,q,r,s,t,u,w,x,y]) S =
  (zI (yG Try.prog 43 S) (fun J a=>some ([c,E,J,Value.slice none 0 0,Value.bool false,b,z,D,A,F,d,f,g,i,j,k,l,m,n,o,p,q,r,s,t,u,w,x,y],a)) ()):=by
 kernel_rfl
theorem wZ.r1 :jw Try.prog ⟨false,false,false⟩ (zW Try.prog O) (reg Try.f64 1) (reg Try.f64 1).toList ([c,E,C,H,I,b,z,D,A,F,d,f,g,i,j,k,l,m,n,o,p,q,r,s,t,u,w,x,y]) S =
  (zI ((zW Try.prog O) 55 [(dem (dem c)),(Value.int IntKind.i64 2)] S) (fun B a=>zI (zU B 0 a) (fun N K=>zI (zU (zO 0 B) 1 K) (fun G L=>zI (zU (zO 1 (zO 0 B)) 2 L) (fun P Q=>some ([c,E,C,H,I,N,G,P,A,zO 2 (zO 1 (zO 0 B)),dem c,dem B,dem N,dem G,dem P,k,l,m,n,o,p,q,r,s,t,u,w,x,y],Q)) ()) ()) ()) ()):=by
 kernel_rfl
theorem wZ.r2 :jw Try.prog ⟨false,false,false⟩ (zW Try.prog O) (reg Try.f64 2) (reg Try.f64 2).toList ([c,E,C,H,I,b,z,D,A,F,d,f,g,i,j,k,l,m,n,o,p,q,r,s,t,u,w,x,y]) S =
  (zI (wB Try.prog BinOp.neq 64 (dem D) (Value.int IntKind.i64 0) S) (fun B a=>some ([c,E,C,H,I,b,z,D,A,F,d,f,g,i,j,dem D,B,m,n,o,p,q,r,s,t,u,w,x,y],a)) ()):=by
 kernel_rfl
theorem wZ.r3 :jw Try.prog ⟨false,false,false⟩ (zW Try.prog O) (reg Try.f64 3) (reg Try.f64 3).toList ([c,E,C,H,I,b,z,D,A,F,d,f,g,i,j,k,l,m,n,o,p,q,r,s,t,u,w,x,y]) S =
  (zI (yg Try.prog 43 [] S) (fun J a=>zI (wM Try.prog 43 C (dem J) a) (fun B K=>some ([c,E,C,Value.slice none 0 0,Value.bool false,b,z,D,A,F,d,f,g,i,j,k,l,J,n,o,p,q,r,s,t,u,w,x,y],K)) ()) ()):=by
 kernel_rfl
theorem wZ.d4:qW Try.prog (reg Try.f64 4)=true:=by kernel_rfl
theorem wZ.ff4:fixed Try.prog (reg Try.f64 4)=false:=by kernel_rfl
theorem wZ.k4:checked Try.prog (reg Try.f64 4)=[0,1,2,3,4,5,6]:=by kernel_rfl
theorem wZ.g4:again Try.prog (reg Try.f64 4)=[(2,7),(5,7)]:=by kernel_rfl
theorem wZ.r4 :zG Try.prog O false (.region 4 (reg Try.f64 4) true) ([c,E,C,H,I,b,z,D,A,F,d,f,g,i,j,k,l,m,n,o,p,q,r,s,t,u,w,x,y]) S =
  Jb (okK b ( zI (jo Try.prog 24 (dem b) (Value.int IntKind.i64 0) S) (fun B a=>okK B ( zI (jf Try.prog false 3 B a) (fun M K=>okK M ( okK b ( zI (jo Try.prog 24 (dem b) (Value.int IntKind.i64 1) K) (fun G L=>okK G ( zI (jf Try.prog false 3 G L) (fun P Q=>okK P ( zI (yg Try.prog 43 [(0,(dem M)),(1,(dem P))] Q) (fun R W=>okK R ( zI (yG Try.prog 43 W) (fun V U=>zI (wM Try.prog 43 V (dem R) U) (fun Y X=>ckK (qK B a U && (qK G L U && (true))) (some ([c,E,C,H,I,b,z,D,V,F,d,f,g,i,j,k,l,m,dem b,B,M,dem b,G,P,R,u,w,x,y],X)) ()) ()) ()) ()) ()) ()) ()) ()) ()) ()) ()) ()) ()) ()) ()):=by
 rw [yF wZ.d4 wZ.ff4 wZ.k4 wZ.g4]
 refine congrArg Jb ?_
 refine uPC Try.f64 4 0 (v:=b) (pe:=zh) ?_
 refine uDC Try.f64 4 1 (pe:=zh) (fun B a=>?_)
 refine uDC Try.f64 4 2 (pe:=B) (fun M K=>?_)
 refine uPC Try.f64 4 3 (v:=b) (pe:=zh) ?_
 refine uDC Try.f64 4 4 (pe:=zh) (fun G L=>?_)
 refine uDC Try.f64 4 5 (pe:=G) (fun P Q=>?_)
 refine uDC Try.f64 4 6 (pe:=zh) (fun R W=>?_)
 refine uD Try.f64 4 7 (pe:=zh) (fun V U=>?_)
 refine uD Try.f64 4 8 (pe:=zh) (fun Y X=>?_)
 kernel_rfl
theorem wZ.d5:qW Try.prog (reg Try.f64 5)=true:=by kernel_rfl
theorem wZ.ff5:fixed Try.prog (reg Try.f64 5)=false:=by kernel_rfl
theorem wZ.k5:checked Try.prog (reg Try.f64 5)=[0,1,1]:=by kernel_rfl
theorem wZ.g5:again Try.prog (reg Try.f64 5)=[(0,3)]:=by kernel_rfl
theorem wZ.r5 :zG Try.prog O false (.region 5 (reg Try.f64 5) true) ([c,E,C,H,I,b,z,D,A,F,d,f,g,i,j,k,l,m,n,o,p,q,r,s,t,u,w,x,y]) S =
  Jb (zI (jf Try.prog false 43 A S) (fun J a=>okK J ( okK z ( zI (jf Try.prog false 43 A a) (fun M K=>zI ((zW Try.prog O) 68 [(dem M)] K) (fun N L=>zI (wM Try.prog 43 C (dem J) L) (fun G Q=>ckK (qK A S L && (true)) (some ([c,E,C,z,N,b,dem z,D,A,F,d,f,g,i,j,k,l,m,n,o,p,q,r,s,t,J,dem z,M,dem N],Q)) ()) ()) ()) ()) ()) ()) ()):=by
 rw [yF wZ.d5 wZ.ff5 wZ.k5 wZ.g5]
 refine congrArg Jb ?_
 refine uDC Try.f64 5 0 (pe:=A) (fun J a=>?_)
 refine uPC Try.f64 5 1 (v:=z) (pe:=zh) ?_
 refine uD Try.f64 5 2 (pe:=A) (fun M K=>?_)
 refine uD Try.f64 5 3 (pe:=zh) (fun N L=>?_)
 refine uD Try.f64 5 4 (pe:=zh) (fun G Q=>?_)
 refine uP Try.f64 5 5 (v:=z) (pe:=zh) ?_
 refine uP Try.f64 5 6 (v:=N) (pe:=zh) ?_
 kernel_rfl
theorem wZ.rs:type_of% (ak5 @wZ.r0 (ak5 @wZ.r1 (ak5 @wZ.r2 (ak5 @wZ.r3 (ak5 @wZ.r4 (@wZ.r5)))))):=ak5 @wZ.r0 (ak5 @wZ.r1 (ak5 @wZ.r2 (ak5 @wZ.r3 (ak5 @wZ.r4 (@wZ.r5)))))
theorem wZ.runs {c:Value} {S a:zn} {e:AEx} {T:List Value} (h:zG Try.prog O false wZ.code ([c,zh,zh,zh,zh,zh,zh,zh,zh,zh,zh,zh,zh,zh,zh,zh,zh,zh,zh,zh,zh,zh,zh,zh,zh,zh,zh,zh,zh]) zn.empty=some (e,T,a)) (he:e=.normal∨e=.ret) {w0:Value} (c0:jf Try.prog false 43 (T.getD 2 zh) a=some (w0,a)) (h0:wu (w0)=true) (h1:wu (T.getD 3 zh)=true) (h2:wu (T.getD 4 zh)=true) (hca:[c].all (jP 16)=true) (hcv:jP 16 (Value.tuple #[w0,T.getD 3 zh,T.getD 4 zh])=true):zW Try.prog O 64 [c] S=some (Value.tuple #[w0,T.getD 3 zh,T.getD 4 zh],S) :=
 yu rfl rfl Try.func64 (by decide) wZ.body (by exact h) he ((yY ((show zK Try.prog T a Try.f64.results.toList=zK Try.prog T a [(ResultVar.cell 2 43),(ResultVar.tmp 3),(ResultVar.tmp 4)] from by kernel_rfl).trans (by simp only [zK,c0])) (by kernel_rfl) (by simp only [List.all_cons,List.all_nil,h0,h1,h2,Bool.and_true])).trans rfl) hca hcv
end Go.Proofs.Ytfjogganfjkckaa
namespace Go.Proofs.Ytfjogganfjkckaa
open Go.Abs
abbrev yR.id:FuncId:=56
noncomputable def yR.code:Code:=(Code.seq (Code.region 0 (reg Try.f56 0) false) (Code.seq (Code.region 1 (reg Try.f56 1) false) (Code.seq (Code.seq (Code.region 2 (reg Try.f56 2) false) (Code.cond (Operand.tmp 19) (Code.seq (Code.region 3 (reg Try.f56 3) false) Code.ret) Code.skip)) (Code.seq (Code.region 4 (reg Try.f56 4) false) Code.ret))))
theorem yR.body:Try.f56.body=some yR.code:=by kernel_rfl
variable (a u t C w x s y z A d f g i k l m n o p q r:Value) (S:zn)
theorem yR.r0 :jw Try.prog ⟨false,false,false⟩ (zW Try.prog O) (reg Try.f56 0) (reg Try.f56 0).toList ([a,u,t,C,w,x,s,y,z,A,d,f,g,i,k,l,m,n,o,p,q,r]) S =
  (zI (yG Try.prog 43 S) (fun D b=>some ([a,u,D,Value.int IntKind.i64 0,w,x,s,y,z,A,d,f,g,i,k,l,m,n,o,p,q,r],b)) ()):=by
 kernel_rfl
theorem yR.r1 :jw Try.prog ⟨false,false,false⟩ (zW Try.prog O) (reg Try.f56 1) (reg Try.f56 1).toList ([a,u,t,C,w,x,s,y,z,A,d,f,g,i,k,l,m,n,o,p,q,r]) S =
  (zI ((zW Try.prog O) 64 [(dem (dem a))] S) (fun c b=>zI (zU c 0 b) (fun E B=>zI (zU (zO 0 c) 1 B) (fun F I=>zI (zU (zO 1 (zO 0 c)) 2 I) (fun G J=>zI (yG Try.prog 43 J) (fun H K=>zI (wM Try.prog 43 H (dem E) K) (fun M L=>some ([a,u,t,C,H,F,G,zO 2 (zO 1 (zO 0 c)),dem a,dem c,E,dem F,dem G,i,k,l,m,n,o,p,q,r],L)) ()) ()) ()) ()) ()) ()):=by
 kernel_rfl
theorem yR.r2 :jw Try.prog ⟨false,false,false⟩ (zW Try.prog O) (reg Try.f56 2) (reg Try.f56 2).toList ([a,u,t,C,w,x,s,y,z,A,d,f,g,i,k,l,m,n,o,p,q,r]) S =
  (zI (aUn Try.prog UnOp.not (dem s) S) (fun c b=>gdK (dem c) false (ret x) b (fun E B=>gdK (dem c) false (Zz Try.prog 33 (dem E)) B (fun F I=>gdK (dem c) false (wB Try.prog BinOp.gtr 3 F (Value.int IntKind.i64 0)) I (fun G J=>zI (wR (dem c) (Value.bool true) G J) (fun H K=>some ([a,u,t,C,w,x,s,y,z,A,d,f,g,dem s,c,dem c,dem E,F,G,H,q,r],K)) ()) ()) ()) ()) ()):=by
 refine sP Try.f56 2 0 (v:=s) ?_
 refine sD Try.f56 2 1 (fun c b=>?_)
 refine sP Try.f56 2 2 (v:=c) ?_
 refine sG Try.f56 2 3 (j:=2) (fun E B=>?_)
 refine sG Try.f56 2 4 (j:=2) (fun F I=>?_)
 refine sG Try.f56 2 5 (j:=2) (fun G J=>?_)
 refine sD Try.f56 2 6 (fun H K=>?_)
 kernel_rfl
theorem yR.r3 :jw Try.prog ⟨false,false,false⟩ (zW Try.prog O) (reg Try.f56 3) (reg Try.f56 3).toList ([a,u,t,C,w,x,s,y,z,A,d,f,g,i,k,l,m,n,o,p,q,r]) S =
  (zI (yg Try.prog 43 [] S) (fun D b=>zI (wM Try.prog 43 t (dem D) b) (fun c B=>some ([a,u,t,Value.int IntKind.i64 61,w,x,s,y,z,A,d,f,g,i,k,l,m,n,o,p,D,r],B)) ()) ()):=by
 kernel_rfl
theorem yR.r4 :jw Try.prog ⟨false,false,false⟩ (zW Try.prog O) (reg Try.f56 4) (reg Try.f56 4).toList ([a,u,t,C,w,x,s,y,z,A,d,f,g,i,k,l,m,n,o,p,q,r]) S =
  (zI (jf Try.prog false 43 w S) (fun D b=>zI (wM Try.prog 43 t (dem D) b) (fun c B=>some ([a,u,t,Value.int IntKind.i64 0,w,x,s,y,z,A,d,f,g,i,k,l,m,n,o,p,q,D],B)) ()) ()):=by
 kernel_rfl
theorem yR.rs:type_of% (ak5 @yR.r0 (ak5 @yR.r1 (ak5 @yR.r2 (ak5 @yR.r3 (@yR.r4))))):=ak5 @yR.r0 (ak5 @yR.r1 (ak5 @yR.r2 (ak5 @yR.r3 (@yR.r4))))
theorem yR.runs {a:Value} {S b:zn} {e:AEx} {T:List Value} (h:zG Try.prog O false yR.code ([a,zh,zh,zh,zh,zh,zh,zh,zh,zh,zh,zh,zh,zh,zh,zh,zh,zh,zh,zh,zh,zh]) zn.empty=some (e,T,b)) (he:e=.normal∨e=.ret) {w0:Value} (c0:jf Try.prog false 43 (T.getD 2 zh) b=some (w0,b)) (h0:wu (w0)=true) (h1:wu (T.getD 3 zh)=true) (hca:[a].all (jP 16)=true) (hcv:jP 16 (Value.tuple #[w0,T.getD 3 zh])=true):zW Try.prog O 56 [a] S=some (Value.tuple #[w0,T.getD 3 zh],S) :=
 yu rfl rfl Try.func56 (by decide) yR.body (by exact h) he ((yY ((show zK Try.prog T b Try.f56.results.toList=zK Try.prog T b [(ResultVar.cell 2 43),(ResultVar.tmp 3)] from by kernel_rfl).trans (by simp only [zK,c0])) (by kernel_rfl) (by simp only [List.all_cons,List.all_nil,h0,h1,Bool.and_true])).trans rfl) hca hcv
end Go.Proofs.Ytfjogganfjkckaa
namespace Go.Proofs.Ytfjogganfjkckaa
open Go.Abs
abbrev zS.id:FuncId:=30
noncomputable def zS.code:Code:=(Code.seq (Code.region 0 (reg Try.f30 0) false) (Code.seq (Code.region 1 (reg Try.f30 1) false) (Code.seq (Code.seq (Code.region 2 (reg Try.f30 2) true) (Code.cond (Operand.tmp 30) (Code.seq (Code.region 3 (reg Try.f30 3) false) Code.ret) Code.skip)) (Code.seq (Code.region 4 (reg Try.f30 4) true) Code.ret))))
theorem zS.body:Try.f30.body=some zS.code:=by kernel_rfl
variable (f P N Z c Q M V W X g i k l m n o p q r s t u w x y z A B C D E F G H I J K L:Value) (S:zn)
theorem zS.r0 :jw Try.prog ⟨false,false,false⟩ (zW Try.prog O) (reg Try.f30 0) (reg Try.f30 0).toList ([f,P,N,Z,c,Q,M,V,W,X,g,i,k,l,m,n,o,p,q,r,s,t,u,w,x,y,z,A,B,C,D,E,F,G,H,I,J,K,L]) S =
  (zI (yG Try.prog 43 S) (fun v0 d=>some ([f,P,v0,Value.int IntKind.i64 0,c,Q,M,V,W,X,g,i,k,l,m,n,o,p,q,r,s,t,u,w,x,y,z,A,B,C,D,E,F,G,H,I,J,K,L],d)) ()):=by
 kernel_rfl
theorem zS.r1 :jw Try.prog ⟨false,false,false⟩ (zW Try.prog O) (reg Try.f30 1) (reg Try.f30 1).toList ([f,P,N,Z,c,Q,M,V,W,X,g,i,k,l,m,n,o,p,q,r,s,t,u,w,x,y,z,A,B,C,D,E,F,G,H,I,J,K,L]) S =
  (zI ((zW Try.prog O) 29 [(dem (dem f)),(Value.int IntKind.i64 2)] S) (fun a d=>zI (zU a 0 d) (fun v3 Y=>zI (zU (zO 0 a) 1 Y) (fun R S3=>zI (zU (zO 1 (zO 0 a)) 2 S3) (fun U S4=>some ([f,P,N,Z,v3,R,U,zO 2 (zO 1 (zO 0 a)),dem f,dem a,dem v3,dem R,dem U,l,m,n,o,p,q,r,s,t,u,w,x,y,z,A,B,C,D,E,F,G,H,I,J,K,L],S4)) ()) ()) ()) ()):=by
 kernel_rfl
theorem zS.d2:qW Try.prog (reg Try.f30 2)=true:=by kernel_rfl
theorem zS.ff2:fixed Try.prog (reg Try.f30 2)=false:=by kernel_rfl
theorem zS.k2:checked Try.prog (reg Try.f30 2)=[]:=by kernel_rfl
theorem zS.g2:again Try.prog (reg Try.f30 2)=[]:=by kernel_rfl
theorem zS.r2 :zG Try.prog O false (.region 2 (reg Try.f30 2) true) ([f,P,N,Z,c,Q,M,V,W,X,g,i,k,l,m,n,o,p,q,r,s,t,u,w,x,y,z,A,B,C,D,E,F,G,H,I,J,K,L]) S =
  Jb (zI (wB Try.prog BinOp.neq 3 (dem M) (Value.int IntKind.i64 0) S) (fun a d=>gdK (dem a) false (ret Q) d (fun v3 Y=>gdK (dem a) false (Zz Try.prog 33 (dem v3)) Y (fun R S3=>gdK (dem a) false (wB Try.prog BinOp.gtr 3 R (Value.int IntKind.i64 0)) S3 (fun U S4=>zI (wR (dem a) (Value.bool true) U S4) (fun b S5=>gdK (dem b) false (ret c) S5 (fun v8 S6=>gdK (dem b) false (jo Try.prog 24 (dem v8) (Value.int IntKind.i64 0)) S6 (fun v9 S7=>gdK (dem b) false (jf Try.prog false 3 v9) S7 (fun a0 S8=>gdK (dem b) false (ret c) S8 (fun a1 S9=>gdK (dem b) false (jo Try.prog 24 (dem a1) (Value.int IntKind.i64 1)) S9 (fun a2 a7=>gdK (dem b) false (jf Try.prog false 3 a2) a7 (fun a3 a8=>gdK (dem b) false (yg Try.prog 43 [(0,(dem a0)),(1,(dem a3))]) a8 (fun a4 a9=>gdK (dem b) false ((zW Try.prog O) 48 [(dem a4)]) a9 (fun a5 b0=>gdK (dem b) false (aUn Try.prog UnOp.not a5) b0 (fun a6 b1=>zI (wR (dem b) (Value.bool true) a6 b1) (fun b2 b3=>some ([f,P,N,Z,c,Q,M,V,W,X,g,i,k,dem M,a,dem a,dem v3,R,U,b,dem b,dem v8,v9,a0,dem a1,a2,a3,a4,a5,a6,b2,E,F,G,H,I,J,K,L],b3)) ()) ()) ()) ()) ()) ()) ()) ()) ()) ()) ()) ()) ()) ()) ()):=by
 rw [yF zS.d2 zS.ff2 zS.k2 zS.g2]
 refine congrArg Jb ?_
 refine tP Try.f30 2 0 (v:=M) ?_
 refine tD Try.f30 2 1 (fun a d=>?_)
 refine tP Try.f30 2 2 (v:=a) ?_
 refine tG Try.f30 2 3 (j:=2) (fun v3 Y=>?_)
 refine tG Try.f30 2 4 (j:=2) (fun R S3=>?_)
 refine tG Try.f30 2 5 (j:=2) (fun U S4=>?_)
 refine tD Try.f30 2 6 (fun b S5=>?_)
 refine tP Try.f30 2 7 (v:=b) ?_
 refine tG Try.f30 2 8 (j:=7) (fun v8 S6=>?_)
 refine tG Try.f30 2 9 (j:=7) (fun v9 S7=>?_)
 refine tG Try.f30 2 10 (j:=7) (fun a0 S8=>?_)
 refine tG Try.f30 2 11 (j:=7) (fun a1 S9=>?_)
 refine tG Try.f30 2 12 (j:=7) (fun a2 a7=>?_)
 refine tG Try.f30 2 13 (j:=7) (fun a3 a8=>?_)
 refine tG Try.f30 2 14 (j:=7) (fun a4 a9=>?_)
 refine tG Try.f30 2 15 (j:=7) (fun a5 b0=>?_)
 refine tG Try.f30 2 16 (j:=7) (fun a6 b1=>?_)
 refine tD Try.f30 2 17 (fun b2 b3=>?_)
 kernel_rfl
theorem zS.r3 :jw Try.prog ⟨false,false,false⟩ (zW Try.prog O) (reg Try.f30 3) (reg Try.f30 3).toList ([f,P,N,Z,c,Q,M,V,W,X,g,i,k,l,m,n,o,p,q,r,s,t,u,w,x,y,z,A,B,C,D,E,F,G,H,I,J,K,L]) S =
  (zI (yg Try.prog 43 [] S) (fun v0 d=>zI (wM Try.prog 43 N (dem v0) d) (fun a Y=>some ([f,P,N,Value.int IntKind.i64 61,c,Q,M,V,W,X,g,i,k,l,m,n,o,p,q,r,s,t,u,w,x,y,z,A,B,C,D,v0,F,G,H,I,J,K,L],Y)) ()) ()):=by
 kernel_rfl
theorem zS.d4:qW Try.prog (reg Try.f30 4)=true:=by kernel_rfl
theorem zS.ff4:fixed Try.prog (reg Try.f30 4)=false:=by kernel_rfl
theorem zS.k4:checked Try.prog (reg Try.f30 4)=[]:=by kernel_rfl
theorem zS.g4:again Try.prog (reg Try.f30 4)=[]:=by kernel_rfl
theorem zS.r4 :zG Try.prog O false (.region 4 (reg Try.f30 4) true) ([f,P,N,Z,c,Q,M,V,W,X,g,i,k,l,m,n,o,p,q,r,s,t,u,w,x,y,z,A,B,C,D,E,F,G,H,I,J,K,L]) S =
  Jb (zI (jo Try.prog 24 (dem c) (Value.int IntKind.i64 0) S) (fun a d=>zI (jf Try.prog false 3 a d) (fun v2 Y=>zI (jo Try.prog 24 (dem c) (Value.int IntKind.i64 1) Y) (fun R S3=>zI (jf Try.prog false 3 R S3) (fun U S4=>zI (yg Try.prog 43 [(0,(dem v2)),(1,(dem U))] S4) (fun b S5=>zI (wM Try.prog 43 N (dem b) S5) (fun v7 S6=>some ([f,P,N,Value.int IntKind.i64 0,c,Q,M,V,W,X,g,i,k,l,m,n,o,p,q,r,s,t,u,w,x,y,z,A,B,C,D,E,dem c,a,v2,dem c,R,U,b],S6)) ()) ()) ()) ()) ()) ()):=by
 rw [yF zS.d4 zS.ff4 zS.k4 zS.g4]
 refine congrArg Jb ?_
 refine tP Try.f30 4 0 (v:=c) ?_
 refine tD Try.f30 4 1 (fun a d=>?_)
 refine tD Try.f30 4 2 (fun v2 Y=>?_)
 refine tP Try.f30 4 3 (v:=c) ?_
 refine tD Try.f30 4 4 (fun R S3=>?_)
 refine tD Try.f30 4 5 (fun U S4=>?_)
 refine tD Try.f30 4 6 (fun b S5=>?_)
 refine tD Try.f30 4 7 (fun v7 S6=>?_)
 refine tP Try.f30 4 8 (v:=(Value.int IntKind.i64 0)) ?_
 kernel_rfl
theorem zS.rs:type_of% (ak5 @zS.r0 (ak5 @zS.r1 (ak5 @zS.r2 (ak5 @zS.r3 (@zS.r4))))):=ak5 @zS.r0 (ak5 @zS.r1 (ak5 @zS.r2 (ak5 @zS.r3 (@zS.r4))))
theorem zS.runs {f:Value} {S d:zn} {e:AEx} {T:List Value} (h:zG Try.prog O false zS.code ([f,zh,zh,zh,zh,zh,zh,zh,zh,zh,zh,zh,zh,zh,zh,zh,zh,zh,zh,zh,zh,zh,zh,zh,zh,zh,zh,zh,zh,zh,zh,zh,zh,zh,zh,zh,zh,zh,zh]) zn.empty=some (e,T,d)) (he:e=.normal∨e=.ret) {w0:Value} (c0:jf Try.prog false 43 (T.getD 2 zh) d=some (w0,d)) (h0:wu (w0)=true) (h1:wu (T.getD 3 zh)=true) (hca:[f].all (jP 16)=true) (hcv:jP 16 (Value.tuple #[w0,T.getD 3 zh])=true):zW Try.prog O 30 [f] S=some (Value.tuple #[w0,T.getD 3 zh],S) :=
 yu rfl rfl Try.func30 (by decide) zS.body (by exact h) he ((yY ((show zK Try.prog T d Try.f30.results.toList=zK Try.prog T d [(ResultVar.cell 2 43),(ResultVar.tmp 3)] from by kernel_rfl).trans (by simp only [zK,c0])) (by kernel_rfl) (by simp only [List.all_cons,List.all_nil,h0,h1,Bool.and_true])).trans rfl) hca hcv
end Go.Proofs.Ytfjogganfjkckaa
namespace Go.Proofs.Ytfjogganfjkckaa
open Go.Abs
abbrev qy.id:FuncId:=68
noncomputable def qy.code:Code:=(Code.seq (Code.region 0 (reg Try.f68 0) false) (Code.seq (Code.region 1 (reg Try.f68 1) false) Code.ret))
theorem qy.body:Try.f68.body=some qy.code:=by kernel_rfl
variable (c i Y J K L M N P Q l m n o p q r s t u w:Value) (S:zn)
theorem qy.r0 :jw Try.prog ⟨false,false,false⟩ (zW Try.prog O) (reg Try.f68 0) (reg Try.f68 0).toList ([c,i,Y,J,K,L,M,N,P,Q,l,m,n,o,p,q,r,s,t,u,w]) S =
  (zI (JJ (dem c) S) (fun x d=>some ([c,x,Value.bool false,J,K,L,M,N,P,Q,l,m,n,o,p,q,r,s,t,u,w],d)) ()):=by
 kernel_rfl
theorem qy.r1 :jw Try.prog ⟨false,false,false⟩ (zW Try.prog O) (reg Try.f68 1) (reg Try.f68 1).toList ([c,i,Y,J,K,L,M,N,P,Q,l,m,n,o,p,q,r,s,t,u,w]) S =
  (zI (zA Try.prog 43 i 0 S) (fun x d=>zI (jf Try.prog false 3 x d) (fun R Z=>zI (wB Try.prog BinOp.geq 3 R (Value.int IntKind.i64 1) Z) (fun f S3=>gdK (dem f) true (zA Try.prog 43 i 0) S3 (fun U S4=>gdK (dem f) true (jf Try.prog false 3 U) S4 (fun V S5=>gdK (dem f) true (wB Try.prog BinOp.leq 3 V (Value.int IntKind.i64 1000000)) S5 (fun W S6=>zI (wR (dem f) W (Value.bool false) S6) (fun g S7=>gdK (dem g) true (zA Try.prog 43 i 1) S7 (fun X S8=>gdK (dem g) true (jf Try.prog false 3 X) S8 (fun y S9=>gdK (dem g) true (wB Try.prog BinOp.geq 3 y (Value.int IntKind.i64 0)) S9 (fun z D=>zI (wR (dem g) z (Value.bool false) D) (fun b E=>gdK (dem b) true (zA Try.prog 43 i 1) E (fun A F=>gdK (dem b) true (jf Try.prog false 3 A) F (fun B G=>gdK (dem b) true (wB Try.prog BinOp.leq 3 B (Value.int IntKind.i64 1000)) G (fun C H=>zI (wR (dem b) C (Value.bool false) H) (fun k I=>some ([c,i,k,x,R,f,dem f,U,V,W,g,dem g,X,y,z,b,dem b,A,B,C,dem k],I)) ()) ()) ()) ()) ()) ()) ()) ()) ()) ()) ()) ()) ()) ()) ()):=by
 refine sD Try.f68 1 0 (fun x d=>?_)
 refine sD Try.f68 1 1 (fun R Z=>?_)
 refine sD Try.f68 1 2 (fun f S3=>?_)
 refine sP Try.f68 1 3 (v:=f) ?_
 refine sG Try.f68 1 4 (j:=3) (fun U S4=>?_)
 refine sG Try.f68 1 5 (j:=3) (fun V S5=>?_)
 refine sG Try.f68 1 6 (j:=3) (fun W S6=>?_)
 refine sD Try.f68 1 7 (fun g S7=>?_)
 refine sP Try.f68 1 8 (v:=g) ?_
 refine sG Try.f68 1 9 (j:=8) (fun X S8=>?_)
 refine sG Try.f68 1 10 (j:=8) (fun y S9=>?_)
 refine sG Try.f68 1 11 (j:=8) (fun z D=>?_)
 refine sD Try.f68 1 12 (fun b E=>?_)
 refine sP Try.f68 1 13 (v:=b) ?_
 refine sG Try.f68 1 14 (j:=13) (fun A F=>?_)
 refine sG Try.f68 1 15 (j:=13) (fun B G=>?_)
 refine sG Try.f68 1 16 (j:=13) (fun C H=>?_)
 refine sD Try.f68 1 17 (fun k I=>?_)
 refine sP Try.f68 1 18 (v:=k) ?_
 kernel_rfl
theorem qy.rs:type_of% (ak5 @qy.r0 (@qy.r1)):=ak5 @qy.r0 (@qy.r1)
theorem qy.runs {c:Value} {S d:zn} {e:AEx} {T:List Value} (h:zG Try.prog O false qy.code ([c,zh,zh,zh,zh,zh,zh,zh,zh,zh,zh,zh,zh,zh,zh,zh,zh,zh,zh,zh,zh]) zn.empty=some (e,T,d)) (he:e=.normal∨e=.ret) (hca:[c].all (jP 16)=true) (hcv:jP 16 (T.getD 2 zh)=true):zW Try.prog O 68 [c] S=some (T.getD 2 zh,S) :=
 yu rfl rfl Try.func68 (by decide) qy.body (by exact h) he (yA (a:=T.getD 2 zh) ((show zK Try.prog T d Try.f68.results.toList=zK Try.prog T d [(ResultVar.tmp 2)] from by kernel_rfl).trans (by simp only [zK])) (by kernel_rfl)) hca hcv
end Go.Proofs.Ytfjogganfjkckaa
namespace Go.Proofs.Ytfjogganfjkckaa
open Go.Abs
abbrev jv.id:FuncId:=48
noncomputable def jv.code:Code:=(Code.seq (Code.region 0 (reg Try.f48 0) false) (Code.seq (Code.region 1 (reg Try.f48 1) false) Code.ret))
theorem jv.body:Try.f48.body=some jv.code:=by kernel_rfl
variable (c i Y J K L M N P Q l m n o p q r s t u w:Value) (S:zn)
theorem jv.r0 :jw Try.prog ⟨false,false,false⟩ (zW Try.prog O) (reg Try.f48 0) (reg Try.f48 0).toList ([c,i,Y,J,K,L,M,N,P,Q,l,m,n,o,p,q,r,s,t,u,w]) S =
  (zI (JJ (dem c) S) (fun x d=>some ([c,x,Value.bool false,J,K,L,M,N,P,Q,l,m,n,o,p,q,r,s,t,u,w],d)) ()):=by
 kernel_rfl
theorem jv.r1 :jw Try.prog ⟨false,false,false⟩ (zW Try.prog O) (reg Try.f48 1) (reg Try.f48 1).toList ([c,i,Y,J,K,L,M,N,P,Q,l,m,n,o,p,q,r,s,t,u,w]) S =
  (zI (zA Try.prog 43 i 0 S) (fun x d=>zI (jf Try.prog false 3 x d) (fun R Z=>zI (wB Try.prog BinOp.gtr 3 R (Value.int IntKind.i64 0) Z) (fun f S3=>gdK (dem f) true (zA Try.prog 43 i 0) S3 (fun U S4=>gdK (dem f) true (jf Try.prog false 3 U) S4 (fun V S5=>gdK (dem f) true (wB Try.prog BinOp.leq 3 V (Value.int IntKind.i64 1000000)) S5 (fun W S6=>zI (wR (dem f) W (Value.bool false) S6) (fun g S7=>gdK (dem g) true (zA Try.prog 43 i 1) S7 (fun X S8=>gdK (dem g) true (jf Try.prog false 3 X) S8 (fun y S9=>gdK (dem g) true (wB Try.prog BinOp.geq 3 y (Value.int IntKind.i64 0)) S9 (fun z D=>zI (wR (dem g) z (Value.bool false) D) (fun b E=>gdK (dem b) true (zA Try.prog 43 i 1) E (fun A F=>gdK (dem b) true (jf Try.prog false 3 A) F (fun B G=>gdK (dem b) true (wB Try.prog BinOp.leq 3 B (Value.int IntKind.i64 1000)) G (fun C H=>zI (wR (dem b) C (Value.bool false) H) (fun k I=>some ([c,i,k,x,R,f,dem f,U,V,W,g,dem g,X,y,z,b,dem b,A,B,C,dem k],I)) ()) ()) ()) ()) ()) ()) ()) ()) ()) ()) ()) ()) ()) ()) ()):=by
 refine sD Try.f48 1 0 (fun x d=>?_)
 refine sD Try.f48 1 1 (fun R Z=>?_)
 refine sD Try.f48 1 2 (fun f S3=>?_)
 refine sP Try.f48 1 3 (v:=f) ?_
 refine sG Try.f48 1 4 (j:=3) (fun U S4=>?_)
 refine sG Try.f48 1 5 (j:=3) (fun V S5=>?_)
 refine sG Try.f48 1 6 (j:=3) (fun W S6=>?_)
 refine sD Try.f48 1 7 (fun g S7=>?_)
 refine sP Try.f48 1 8 (v:=g) ?_
 refine sG Try.f48 1 9 (j:=8) (fun X S8=>?_)
 refine sG Try.f48 1 10 (j:=8) (fun y S9=>?_)
 refine sG Try.f48 1 11 (j:=8) (fun z D=>?_)
 refine sD Try.f48 1 12 (fun b E=>?_)
 refine sP Try.f48 1 13 (v:=b) ?_
 refine sG Try.f48 1 14 (j:=13) (fun A F=>?_)
 refine sG Try.f48 1 15 (j:=13) (fun B G=>?_)
 refine sG Try.f48 1 16 (j:=13) (fun C H=>?_)
 refine sD Try.f48 1 17 (fun k I=>?_)
 refine sP Try.f48 1 18 (v:=k) ?_
 kernel_rfl
theorem jv.rs:type_of% (ak5 @jv.r0 (@jv.r1)):=ak5 @jv.r0 (@jv.r1)
theorem jv.runs {c:Value} {S d:zn} {e:AEx} {T:List Value} (h:zG Try.prog O false jv.code ([c,zh,zh,zh,zh,zh,zh,zh,zh,zh,zh,zh,zh,zh,zh,zh,zh,zh,zh,zh,zh]) zn.empty=some (e,T,d)) (he:e=.normal∨e=.ret) (hca:[c].all (jP 16)=true) (hcv:jP 16 (T.getD 2 zh)=true):zW Try.prog O 48 [c] S=some (T.getD 2 zh,S) :=
 yu rfl rfl Try.func48 (by decide) jv.body (by exact h) he (yA (a:=T.getD 2 zh) ((show zK Try.prog T d Try.f48.results.toList=zK Try.prog T d [(ResultVar.tmp 2)] from by kernel_rfl).trans (by simp only [zK])) (by kernel_rfl)) hca hcv
end Go.Proofs.Ytfjogganfjkckaa
namespace Go.Proofs.Ytfjogganfjkckaa
open Go.Abs
theorem acN {t:TypeId} {a b:List UInt8} {S:zn}:JF Try.prog .eql t (.string ⟨a.toArray⟩) (.string ⟨b.toArray⟩) S=some (.bool (decide (a=b)),S):=by rw [aea]
end Go.Proofs.Ytfjogganfjkckaa
namespace Go.Proofs.Ytfjogganfjkckaa
open Go.Abs
structure TxV where
 id:Int
 fee:Int
 deriving DecidableEq
def fT (t:TxV):List Value:=[.int .i64 t.id,.int .i64 t.fee]
abbrev tv (t:TxV):Value:=.agg [Value.int .i64 t.id,.int .i64 t.fee].toArray
structure TxV.Ok (t:TxV):Prop where
 id:-9223372036854775808≤t.id∧t.id < 9223372036854775808
 fee:-9223372036854775808≤t.fee∧t.fee < 9223372036854775808
abbrev tTx:Ty:=.pair (.int .i64) (.pair (.int .i64) .unit)
def qp (t:TxV):Bool:=decide (1≤t.id) && decide (t.id≤1000000) && decide (0≤t.fee) && decide (t.fee≤1000)
theorem xg {t:TxV}:qp t=true ↔ 1≤t.id∧t.id≤1000000∧0≤t.fee∧t.fee≤1000:=by
 simp [qp,and_assoc]
abbrev mem1 (t:TxV):zn:=zn.empty.push (.cells [Value.int .i64 t.id,.int .i64 t.fee] (.own []) 0)
theorem box1 (t:TxV):JJ (tv t) zn.empty=some (.pointer (some ⟨0,0,none⟩),mem1 t):=rfl
theorem Zn (t:TxV):(mem1 t).get 0=some (.cells [Value.int .i64 t.id,.int .i64 t.fee] (.own []) 0):=rfl
theorem qy.v (t:TxV) (S:zn):zW Try.prog O qy.id [tv t] S=some (.bool (qp t),S):=by
 obtain ⟨T,hTe⟩:∃ T,T=(tv t::zh::zh::zh::zh::zh::zh::zh::zh::zh::zh::zh::zh::zh::zh::zh::zh::zh::zh::zh::zh::[]):=⟨_,rfl⟩
 have hr:zG Try.prog O false qy.code T zn.empty=zG Try.prog O false qy.code T zn.empty:=rfl
 have l0:=qL (t:=3) (o:=0+0) (Zn t) ZY rfl
 have l1:=qL (t:=3) (o:=0+1) (Zn t) ZY rfl
 by_cases h1:1≤t.id <;> by_cases h2:t.id≤1000000 <;> by_cases h3:0≤t.fee <;> by_cases h4:t.fee≤1000
 all_goals
  conv at hr =>
   rhs
   rw [hTe]
   simp only [qy.code,qy.rs,zSs,reduceIte,Nat.reduceEqDiff,Int.reduceEq,Int.reduceLT,Int.reduceLE,box1,kS,ZU,l0,l1,h1,h2,h3,h4]
  rw [hTe] at hr
  simp only [qp,h1,h2,h3,h4,decide_true,decide_false,Bool.and_true,Bool.and_false,Bool.false_and]
  exact qy.runs hr (.inr rfl) rfl rfl
theorem jv.v (t:TxV) (S:zn):zW Try.prog O jv.id [tv t] S=some (.bool (qp t),S):=by
 obtain ⟨T,hTe⟩:∃ T,T=(tv t::zh::zh::zh::zh::zh::zh::zh::zh::zh::zh::zh::zh::zh::zh::zh::zh::zh::zh::zh::zh::[]):=⟨_,rfl⟩
 have hr:zG Try.prog O false jv.code T zn.empty=zG Try.prog O false jv.code T zn.empty:=rfl
 have l0:=qL (t:=3) (o:=0+0) (Zn t) ZY rfl
 have l1:=qL (t:=3) (o:=0+1) (Zn t) ZY rfl
 have h0:decide (1≤t.id)=decide (0 < t.id):=decide_eq_decide.mpr (by omega)
 unfold qp
 rw [h0]
 by_cases h1:0 < t.id <;> by_cases h2:t.id≤1000000 <;> by_cases h3:0≤t.fee <;> by_cases h4:t.fee≤1000
 all_goals
  conv at hr =>
   rhs
   rw [hTe]
   simp only [jv.code,jv.rs,zSs,reduceIte,Nat.reduceEqDiff,Int.reduceEq,Int.reduceLT,Int.reduceLE,box1,kS,ZU,l0,l1,h1,h2,h3,h4]
  rw [hTe] at hr
  simp only [h1,h2,h3,h4,decide_true,decide_false,Bool.and_true,Bool.and_false,Bool.false_and]
  exact jv.runs hr (.inr rfl) rfl rfl
theorem ajO (x:tTx.Val) (hg:tTx.Good x):∃ t:TxV,tTx.WO x=fT t∧t.Ok:=by
 obtain ⟨a,b,u⟩:=x
 obtain ⟨h1,h2,_⟩:=hg
 exact ⟨⟨a,b⟩,rfl,Yw h1,Yw h2⟩
end Go.Proofs.Ytfjogganfjkckaa
namespace Go.Proofs.Ytfjogganfjkckaa
open Go.Abs
def txB (t:TxV):List UInt8:=encs [t.id,t.fee]
def aji (t:TxV):Value:=if qp t then .tuple #[by_ 2 (txB t),.int .i64 0] else .tuple #[.slice none 0 0,.int .i64 61]
theorem abI {t:TxV} (h:qp t=true):(txB t).length≤20:=by
 obtain ⟨h1,h2,h3,h4⟩:=xg.mp h
 have:=Z7 (l:=[t.id,t.fee]) (by intro n hn;simp at hn;rcases hn with rfl | rfl <;> omega)
 exact this
theorem ace (x y:Int):sv 2 1 2 [.int .i64 x,.int .i64 y]=iz 2 [x,y]:=rfl
theorem yN.v (t:TxV) (S:zn):zW Try.prog O yN.id [tv t] S=some (aji t,S):=by
 obtain ⟨T,hTe⟩:∃ T,T=(tv t::zh::zh::zh::zh::zh::zh::zh::zh::zh::zh::zh::zh::zh::zh::zh::zh::zh::zh::[]):=⟨_,rfl⟩
 have hr:zG Try.prog O false yN.code T zn.empty=zG Try.prog O false yN.code T zn.empty:=rfl
 have l0:=qL (t:=3) (o:=0+0) (Zn t) ZY rfl
 have l1:=qL (t:=3) (o:=0+1) (Zn t) ZY rfl
 have lt:=QJ (Zn t)
 unfold aji
 by_cases h:qp t=true
 ·
  have hh:=xg.mp h
  have c1:=fun S=>jB.v (l:=[t.id,t.fee]) Okl.read (by decide) (by simp;omega) S
  conv at hr =>
   rhs
   rw [hTe]
   simp only [yN.code,yN.rs,zSs,reduceIte,Nat.reduceEqDiff,Int.reduceEq,Int.reduceLT,Int.reduceLE,box1,lt,vX,qy.v,h,kS,ZU,l0,l1,Y9,ace,c1,JE (l:=[t.id,t.fee]) (by simp) (by simp;omega) (by simp)]
  rw [hTe] at hr
  rw [if_pos h]
  exact yN.runs hr (.inr rfl) (by simp only [List.getD_cons_succ,List.getD_cons_zero,wC,jW,jK,jO,jX]) rfl rfl (yO (all2 (qx (k:=2) (Nat.le_refl 2)) rfl))
 ·
  rw [Bool.not_eq_true] at h
  conv at hr =>
   rhs
   rw [hTe]
   simp only [yN.code,yN.rs,zSs,reduceIte,Nat.reduceEqDiff,Int.reduceEq,Int.reduceLT,Int.reduceLE,box1,lt,vX,qy.v,h]
  rw [hTe] at hr
  rw [if_neg (by rw [h];decide)]
  exact yN.runs hr (.inr rfl) rfl rfl rfl rfl
theorem jD.v (t:TxV) (S:zn):zW Try.prog O jD.id [tv t] S=some (aji t,S):=by
 obtain ⟨T,hTe⟩:∃ T,T=(tv t::zh::zh::zh::zh::zh::zh::zh::zh::zh::zh::zh::zh::zh::zh::[]):=⟨_,rfl⟩
 have hr:zG Try.prog O false jD.code T zn.empty=zG Try.prog O false jD.code T zn.empty:=rfl
 have l0:=qL (t:=3) (o:=0+0) (Zn t) ZY rfl
 have l1:=qL (t:=3) (o:=0+1) (Zn t) ZY rfl
 have lt:=QJ (Zn t)
 unfold aji
 by_cases h:qp t=true
 ·
  have hh:=xg.mp h
  have c1:=fun S=>zD.v (l:=[t.id,t.fee]) Okl.read (by decide) (by simp;omega) S
  conv at hr =>
   rhs
   rw [hTe]
   simp only [jD.code,jD.rs,zSs,reduceIte,Nat.reduceEqDiff,Int.reduceEq,Int.reduceLT,Int.reduceLE,box1,lt,vX,jv.v,h,kS,ZU,l0,l1,Y9,ace,c1,JE (l:=[t.id,t.fee]) (by simp) (by simp;omega) (by simp)]
  rw [hTe] at hr
  rw [if_pos h]
  exact jD.runs hr (.inr rfl) (by simp only [List.getD_cons_succ,List.getD_cons_zero,wC,jW,jK,jO,jX]) rfl rfl (yO (all2 (qx (k:=2) (Nat.le_refl 2)) rfl))
 ·
  rw [Bool.not_eq_true] at h
  conv at hr =>
   rhs
   rw [hTe]
   simp only [jD.code,jD.rs,zSs,reduceIte,Nat.reduceEqDiff,Int.reduceEq,Int.reduceLT,Int.reduceLE,box1,lt,vX,jv.v,h]
  rw [hTe] at hr
  rw [if_neg (by rw [h];decide)]
  exact jD.runs hr (.inr rfl) rfl rfl rfl rfl
theorem JC (S:zn):yG Try.prog 43 S=some (.pointer (some ⟨S.next,0,none⟩),S.push (.cells (fT ⟨0,0⟩) (.own []) 0)):=by kernel_rfl
theorem Xn (S:zn) (t:TxV):∃ S2,wM Try.prog 43 (.pointer (some ⟨S.next,0,none⟩)) (tv t) (S.push (.cells (fT ⟨0,0⟩) (.own []) 0))=some (zh,S2)∧S2.get S.next=some (.cells (fT t) (.own []) 0)∧Ext S S2∧S.next < S2.next :=
 Kv S (by rw [qI,List.toList_toArray];rfl) ZF rfl rfl
theorem aa1 {S S0:zn} {q:Nat} {u:TxV} (t:TxV) (hg:S.get q=some (.cells (fT u) (.own []) 0)) (hE:Ext S0 S) (hq:S0.next≤q):∃ S2,wM Try.prog 43 (.pointer (some ⟨q,0,none⟩)) (tv t) S=some (zh,S2)∧S2.get q=some (.cells (fT t) (.own []) 0)∧Ext S0 S2∧S2.next=S.next∧∀ k,k≠q→S2.get k=S.get k :=
 aaH hg ZF rfl rfl (by simp [fT]) hE hq
theorem akb {R:Type} {a b:Int} (r:Option R) (p:vG r):okK (.agg [Value.int .i64 a,.int .i64 b].toArray) r p=r:=kM rfl r p
theorem J6 {S:zn} {q:Nat} {t:TxV} (h:S.get q=some (.cells (fT t) (.own []) 0)):jf Try.prog false 43 (.pointer (some ⟨q,0,none⟩)) S=some (tv t,S):=QJ h
theorem KF {S:zn} {q:Nat} {t:TxV} (h:S.get q=some (.cells (fT t) (.own []) 0)):jf Try.prog false 3 (.pointer (some ⟨q,0+0,none⟩)) S=some (.int .i64 t.id,S):=qL (t:=3) (o:=0+0) h ZY rfl
theorem akp {S:zn} {q:Nat} {t:TxV} (h:S.get q=some (.cells (fT t) (.own []) 0)):jf Try.prog false 3 (.pointer (some ⟨q,0+1,none⟩)) S=some (.int .i64 t.fee,S):=qL (t:=3) (o:=0+1) h ZY rfl
theorem akN (k:Nat) (hk:k≤2) (a b:Int) (h:k≠0) (S:zn):jo Try.prog 24 (iz k [a,b]) (.int .i64 0) S=some (EP [.int .i64 a],S):=abD ⟨hk,fun h0=>absurd h0 h⟩ (by decide) (by simp)
theorem akS (k:Nat) (hk:k≤2) (a b:Int) (h:k≠0) (S:zn):jo Try.prog 24 (iz k [a,b]) (.int .i64 1) S=some (EP [.int .i64 b],S):=abD ⟨hk,fun h0=>absurd h0 h⟩ (by decide) (by simp)
def ahu (l:List UInt8):Value:=match y8 2 l with
 | some ([a,b],r)=>.tuple #[tv ⟨a,b⟩,by_ 2 r,.bool (qp ⟨a,b⟩)]
 | _=>.tuple #[tv ⟨0,0⟩,.slice none 0 0,.bool false]
theorem QM (l:List UInt8):y8 2 l=none∨∃ a b r,y8 2 l=some ([a,b],r)∧r.length≤l.length:=by
 cases h:y8 2 l with
 | none=>exact .inl rfl
 | some ar =>
  obtain ⟨a,r⟩:=ar
  obtain ⟨h1,h2⟩:=Wp h
  match a,h1 with
  | [x,y],_=>exact .inr ⟨x,y,r,rfl,h2⟩
theorem wZ.v {k:Nat} {l:List UInt8} (hk:Okl k l) (k2:k≠2) (hl:l.length≤140737488355328) (S:zn):zW Try.prog O wZ.id [by_ k l] S=some (ahu l,S):=by
 obtain ⟨T,hTe⟩:∃ T,T=(by_ k l::zh::zh::zh::zh::zh::zh::zh::zh::zh::zh::zh::zh::zh::zh::zh::zh::zh::zh::zh::zh::zh::zh::zh::zh::zh::zh::zh::zh::[]):=⟨_,rfl⟩
 have hr:zG Try.prog O false wZ.code T zn.empty=zG Try.prog O false wZ.code T zn.empty:=rfl
 have c1:=fun S=>zL.v (many:=2) hk k2 hl S
 have a1:=JC zn.empty
 have g1:(zn.empty.push (.cells (fT ⟨0,0⟩) (.own []) 0)).get 0=some (.cells (fT ⟨0,0⟩) (.own []) 0):=by kernel_rfl
 have n1:(zn.empty.push (.cells (fT ⟨0,0⟩) (.own []) 0)).next=1:=by kernel_rfl
 rw [show zn.empty.next=0 from rfl] at a1
 have r1:vO 0 (if k=0 then 0 else 2) 2 l=_:=xI (m:=2) (by decide) (by decide)
 rw [r1] at c1
 unfold ahu
 generalize hS1:zn.empty.push (.cells (fT ⟨0,0⟩) (.own []) 0)=S1 at a1 g1 n1
 rcases QM l with h | ⟨a,b,r,h,hlr⟩
 ·
  rw [h] at c1 ⊢
  obtain ⟨S2,p1,p2,p3,p4⟩:=aa1 ⟨0,0⟩ g1 (Ext.refl zn.empty |>.trans (hS1 ▸ Ext.push _ _)) (Nat.zero_le _)
  conv at hr =>
   rhs
   rw [hTe]
   simp only [wZ.code,wZ.rs,zSs,reduceIte,Nat.reduceEqDiff,Int.reduceEq,Int.reduceLT,Int.reduceLE,if_neg k2,a1,c1,wo,p1]
  rw [hTe] at hr
  exact wZ.runs hr (.inr rfl) (J6 p2) rfl rfl rfl (all1 (qx (k:=k) hk.le)) rfl
 ·
  rw [h] at c1 ⊢
  have e0:=akN 1 (by decide) a b (by decide)
  have e1:=akS 1 (by decide) a b (by decide)
  have c2:∀ S,zW Try.prog O 68 [.agg [Value.int .i64 a,.int .i64 b].toArray] S=some (.bool (qp ⟨a,b⟩),S):=fun S=>qy.v ⟨a,b⟩ S
  obtain ⟨S2,p1,p2,p3,p4⟩:=Xn S1 ⟨a,b⟩
  have g2:S2.get 0=some (.cells (fT ⟨0,0⟩) (.own []) 0):=by rw [p3.get 0 (by omega),g1]
  obtain ⟨S3,q1,q2,q3,q4,q5⟩:=aa1 ⟨a,b⟩ g2 (Ext.trans (hS1 ▸ Ext.push _ _:Ext zn.empty S1) p3) (Nat.zero_le _)
  conv at hr =>
   rhs
   rw [hTe]
   simp only [wZ.code,wZ.rs,zSs,reduceIte,Nat.reduceEqDiff,Int.reduceEq,Int.reduceLT,Int.reduceLE,if_neg k2,a1,c1,e0,e1,ql,ZE (yL) (yL),JC,p1,J6 p2,q1,c2,qj p2,akb]
  rw [hTe] at hr
  exact wZ.runs hr (.inr rfl) (J6 q2) rfl (by simp only [List.getD_cons_succ,List.getD_cons_zero,wC,jW,jK,jO,jX]) rfl (all1 (qx (k:=k) hk.le)) (yO (akZ rfl (qx (k:=2) (Nat.le_refl 2)) rfl))
noncomputable def afJ (l:List UInt8):Option TxV:=rd (fun t=>qp t=true) txB l
theorem afN {a b:TxV} {r s:List UInt8} (ha:qp a=true) (hb:qp b=true) (h:txB a++r=txB b++s):a=b∧r=s:=by
 obtain ⟨a1,a2,a3,a4⟩:=xg.mp ha
 obtain ⟨b1,b2,b3,b4⟩:=xg.mp hb
 obtain ⟨h1,h2⟩:=Wx (a:=[a.id,a.fee]) (c:=[b.id,b.fee]) rfl (by simp [Few];omega) (by simp [Few];omega) h
 refine ⟨?_,h2⟩
 cases a;cases b
 simp at h1
 rw [h1.1,h1.2]
theorem JD (l:List UInt8) (t:TxV):afJ l=some t ↔ qp t=true∧l=txB t :=
 afK (fun x y hx hy h=>(afN (r:=[]) (s:=[]) hx hy (by simpa using h)).1) l t
theorem abd {l:List UInt8} (h:∀ t,¬ (qp t=true∧l=txB t)):afJ l=none:=by
 cases hr:afJ l with
 | none=>rfl
 | some t=>exact absurd ((JD l t).mp hr) (h t)
noncomputable def aec (l:List UInt8):Value:=match afJ l with
 | some t=>.tuple #[tv t,.int .i64 0]
 | none=>.tuple #[tv ⟨0,0⟩,.int .i64 61]
theorem afC {l r:List UInt8} {a b:Int} (h:y8 2 l=some ([a,b],r)):afJ l=if qp ⟨a,b⟩=true∧r=[] then some ⟨a,b⟩ else none:=by
 obtain ⟨_,h2,h3⟩:=(yQ _ _ _ _).mp h
 split
 ·
  rename_i hc
  exact (JD _ _).mpr ⟨hc.1,by rw [h2,hc.2,List.append_nil];rfl⟩
 ·
  rename_i hc
  refine abd fun t ht=>hc ?_
  obtain ⟨b1,b2,b3,b4⟩:=xg.mp ht.1
  have h4:encs [t.id,t.fee]++[]=encs [a,b]++r:=by rw [List.append_nil,← h2];exact ht.2.symm
  obtain ⟨h5,h6⟩:=Wx (a:=[t.id,t.fee]) (c:=[a,b]) rfl (by simp [Few];omega) h3 h4
  simp at h5
  rw [← h5.1,← h5.2]
  exact ⟨ht.1,h6.symm⟩
theorem Ql {l:List UInt8} (h:y8 2 l=none):afJ l=none:=by
 refine abd fun t ht=>?_
 obtain ⟨b1,b2,b3,b4⟩:=xg.mp ht.1
 have:=(yQ 2 l [t.id,t.fee] []).mpr ⟨rfl,by rw [List.append_nil];exact ht.2,by simp [Few];omega⟩
 rw [h] at this
 cases this
theorem yR.v {k:Nat} {l:List UInt8} (hk:Okl k l) (k2:k≠2) (hl:l.length≤140737488355328) (S:zn):zW Try.prog O yR.id [by_ k l] S=some (aec l,S):=by
 obtain ⟨T,hTe⟩:∃ T,T=(by_ k l::zh::zh::zh::zh::zh::zh::zh::zh::zh::zh::zh::zh::zh::zh::zh::zh::zh::zh::zh::zh::zh::[]):=⟨_,rfl⟩
 have hr:zG Try.prog O false yR.code T zn.empty=zG Try.prog O false yR.code T zn.empty:=rfl
 have c1:=fun S=>wZ.v hk k2 hl S
 have a1:=JC zn.empty
 have g1:(zn.empty.push (.cells (fT ⟨0,0⟩) (.own []) 0)).get 0=some (.cells (fT ⟨0,0⟩) (.own []) 0):=by kernel_rfl
 have n1:(zn.empty.push (.cells (fT ⟨0,0⟩) (.own []) 0)).next=1:=by kernel_rfl
 rw [show zn.empty.next=0 from rfl] at a1
 have hE1:Ext zn.empty (zn.empty.push (.cells (fT ⟨0,0⟩) (.own []) 0)):=Ext.push _ _
 generalize zn.empty.push (.cells (fT ⟨0,0⟩) (.own []) 0)=S1 at a1 g1 n1 hE1
 unfold ahu at c1
 unfold aec
 rcases QM l with h | ⟨a,b,r,h,hlr⟩
 ·
  rw [h] at c1
  rw [Ql h]
  obtain ⟨S2,p1,p2,p3,p4⟩:=Xn S1 ⟨0,0⟩
  have g2:S2.get 0=some (.cells (fT ⟨0,0⟩) (.own []) 0):=by rw [p3.get 0 (by omega),g1]
  obtain ⟨S3,q1,q2,q3,q4,q5⟩:=aa1 ⟨0,0⟩ g2 (Ext.trans hE1 p3) (Nat.zero_le _)
  conv at hr =>
   rhs
   rw [hTe]
   simp only [yR.code,yR.rs,zSs,reduceIte,Nat.reduceEqDiff,Int.reduceEq,Int.reduceLT,Int.reduceLE,if_neg k2,a1,c1,JC,p1,wo,q1]
  rw [hTe] at hr
  exact yR.runs hr (.inr rfl) (J6 q2) rfl rfl (all1 (qx (k:=k) hk.le)) rfl
 ·
  rw [h] at c1
  rw [afC h]
  by_cases hok:qp ⟨a,b⟩=true
  ·
   obtain ⟨S2,p1,p2,p3,p4⟩:=Xn S1 ⟨a,b⟩
   have g2:S2.get 0=some (.cells (fT ⟨0,0⟩) (.own []) 0):=by rw [p3.get 0 (by omega),g1]
   by_cases h0:r=[]
   ·
    subst h0
    obtain ⟨S3,q1,q2,q3,q4,q5⟩:=aa1 ⟨a,b⟩ g2 (Ext.trans hE1 p3) (Nat.zero_le _)
    conv at hr =>
     rhs
     rw [hTe]
     simp only [yR.code,yR.rs,zSs,reduceIte,Nat.reduceEqDiff,Int.reduceEq,Int.reduceLT,Int.reduceLE,if_neg k2,a1,c1,JC,p1,hok,Zy Okl.read,goInt,List.length_nil,Int.ofNat_zero,Int.natCast_zero,Int.lt_irrefl,J6 p2,q1]
    rw [if_pos ⟨hok,rfl⟩]
    rw [hTe] at hr
    exact yR.runs hr (.inr rfl) (J6 q2) rfl rfl (all1 (qx (k:=k) hk.le)) rfl
   ·
    have hp:(0:Int) < (r.length:Int):=by have:=List.length_pos_iff.mpr h0;omega
    obtain ⟨S3,q1,q2,q3,q4,q5⟩:=aa1 ⟨0,0⟩ g2 (Ext.trans hE1 p3) (Nat.zero_le _)
    conv at hr =>
     rhs
     rw [hTe]
     simp only [yR.code,yR.rs,zSs,reduceIte,Nat.reduceEqDiff,Int.reduceEq,Int.reduceLT,Int.reduceLE,if_neg k2,a1,c1,JC,p1,hok,Zy Okl.read,goInt,decide_eq_true hp,wo,q1]
    rw [if_neg (fun h=>h0 h.2)]
    rw [hTe] at hr
    exact yR.runs hr (.inr rfl) (J6 q2) rfl rfl (all1 (qx (k:=k) hk.le)) rfl
  ·
   rw [if_neg (fun h=>hok h.1)]
   rw [Bool.not_eq_true] at hok
   obtain ⟨S2,p1,p2,p3,p4⟩:=Xn S1 ⟨a,b⟩
   have g2:S2.get 0=some (.cells (fT ⟨0,0⟩) (.own []) 0):=by rw [p3.get 0 (by omega),g1]
   obtain ⟨S3,q1,q2,q3,q4,q5⟩:=aa1 ⟨0,0⟩ g2 (Ext.trans hE1 p3) (Nat.zero_le _)
   conv at hr =>
    rhs
    rw [hTe]
    simp only [yR.code,yR.rs,zSs,reduceIte,Nat.reduceEqDiff,Int.reduceEq,Int.reduceLT,Int.reduceLE,if_neg k2,a1,c1,JC,p1,hok,wo,q1]
   rw [hTe] at hr
   exact yR.runs hr (.inr rfl) (J6 q2) rfl rfl (all1 (qx (k:=k) hk.le)) rfl
theorem zS.v {k:Nat} {l:List UInt8} (hk:Okl k l) (k2:k≠2) (hl:l.length≤140737488355328) (S:zn):zW Try.prog O zS.id [by_ k l] S=some (aec l,S):=by
 obtain ⟨T,hTe⟩:∃ T,T=(by_ k l::zh::zh::zh::zh::zh::zh::zh::zh::zh::zh::zh::zh::zh::zh::zh::zh::zh::zh::zh::zh::zh::zh::zh::zh::zh::zh::zh::zh::zh::zh::zh::zh::zh::zh::zh::zh::zh::zh::[]):=⟨_,rfl⟩
 have hr:zG Try.prog O false zS.code T zn.empty=zG Try.prog O false zS.code T zn.empty:=rfl
 have c1:=fun S=>zx.v (many:=2) hk k2 hl S
 have r1:vO 2 2 2 l=_:=xI (m:=2) (by decide) (by decide)
 rw [r1] at c1
 have a1:=JC zn.empty
 have g1:(zn.empty.push (.cells (fT ⟨0,0⟩) (.own []) 0)).get 0=some (.cells (fT ⟨0,0⟩) (.own []) 0):=by kernel_rfl
 rw [show zn.empty.next=0 from rfl] at a1
 have hE1:Ext zn.empty (zn.empty.push (.cells (fT ⟨0,0⟩) (.own []) 0)):=Ext.push _ _
 generalize zn.empty.push (.cells (fT ⟨0,0⟩) (.own []) 0)=S1 at a1 g1 hE1
 obtain ⟨S3,q1,q2,q3,q4,q5⟩:=aa1 ⟨0,0⟩ g1 hE1 (Nat.zero_le _)
 unfold aec
 rcases QM l with h | ⟨a,b,r,h,hlr⟩
 ·
  rw [h] at c1
  rw [Ql h]
  conv at hr =>
   rhs
   rw [hTe]
   simp only [zS.code,zS.rs,zSs,reduceIte,Nat.reduceEqDiff,Int.reduceEq,Int.reduceLT,Int.reduceLE,if_neg k2,a1,c1,wo,q1]
  rw [hTe] at hr
  exact zS.runs hr (.inr rfl) (J6 q2) rfl rfl (all1 (qx (k:=k) hk.le)) rfl
 ·
  rw [h] at c1
  rw [afC h]
  have e0:=akN 1 (by decide) a b (by decide)
  have e1:=akS 1 (by decide) a b (by decide)
  have c2:∀ S,zW Try.prog O 48 [.agg [Value.int .i64 a,.int .i64 b].toArray] S=some (.bool (qp ⟨a,b⟩),S):=fun S=>jv.v ⟨a,b⟩ S
  by_cases h0:r=[]
  ·
   subst h0
   by_cases hok:qp ⟨a,b⟩=true
   ·
    obtain ⟨S4,p1,p2,p3,p4⟩:=aa1 ⟨a,b⟩ g1 hE1 (Nat.zero_le _)
    conv at hr =>
     rhs
     rw [hTe]
     simp only [zS.code,zS.rs,zSs,reduceIte,Nat.reduceEqDiff,Int.reduceEq,Int.reduceLT,Int.reduceLE,if_neg k2,a1,c1,Zy Okl.read,goInt,List.length_nil,Int.ofNat_zero,Int.natCast_zero,Int.lt_irrefl,e0,e1,ql,ZE (yL) (yL),c2,hok,p1]
    rw [if_pos ⟨hok,rfl⟩]
    rw [hTe] at hr
    exact zS.runs hr (.inr rfl) (J6 p2) rfl rfl (all1 (qx (k:=k) hk.le)) rfl
   ·
    rw [if_neg (fun h=>hok h.1)]
    rw [Bool.not_eq_true] at hok
    conv at hr =>
     rhs
     rw [hTe]
     simp only [zS.code,zS.rs,zSs,reduceIte,Nat.reduceEqDiff,Int.reduceEq,Int.reduceLT,Int.reduceLE,if_neg k2,a1,c1,Zy Okl.read,goInt,List.length_nil,Int.ofNat_zero,Int.natCast_zero,Int.lt_irrefl,e0,e1,ql,ZE (yL) (yL),c2,hok,wo,q1]
    rw [hTe] at hr
    exact zS.runs hr (.inr rfl) (J6 q2) rfl rfl (all1 (qx (k:=k) hk.le)) rfl
  ·
   have hp:(0:Int) < (r.length:Int):=by have:=List.length_pos_iff.mpr h0;omega
   rw [if_neg (fun h=>h0 h.2)]
   conv at hr =>
    rhs
    rw [hTe]
    simp only [zS.code,zS.rs,zSs,reduceIte,Nat.reduceEqDiff,Int.reduceEq,Int.reduceLT,Int.reduceLE,if_neg k2,a1,c1,Zy Okl.read,goInt,decide_eq_true hp,wo,q1]
   rw [hTe] at hr
   exact zS.runs hr (.inr rfl) (J6 q2) rfl rfl (all1 (qx (k:=k) hk.le)) rfl
end Go.Proofs.Ytfjogganfjkckaa
namespace Go.Proofs.Ytfjogganfjkckaa
open Go.Abs
abbrev tl (k:Nat) (l:List TxV):Value:=vs fT 2 k l
theorem acS (t:TxV):(fT t).length=2:=rfl
theorem ajI (t:TxV):(fT t).all (·.oneCell')=true:=rfl
theorem Z5 {k:Nat} {l:List TxV} {S:zn} (h:Okl k l):Zz Try.prog 44 (tl k l) S=some (.int .i64 l.length,S):=acs Jt h
theorem Qj {k:Nat} {l pre suf:List TxV} {t:TxV} {S:zn} (h:Okl k l) (hl:l=pre++t::suf):jo Try.prog 44 (tl k l) (.int .i64 pre.length) S=some (EP [.int .i64 t.id,.int .i64 t.fee],S):=by
 have h1:(pre.length:Int) < (l.length:Int):=by rw [hl];simp;omega
 rw [adV Jt ZF acS h (by omega) h1,Qr hl];rfl
theorem agA {k:Nat} {l:List TxV} {S:zn} {lo hi:Option Value} {i j:Int} (h:Okl k l) (hlo:Zk 0 lo=some i) (hhi:Zk l.length hi=some j) (h0:0≤i) (hij:i≤j) (hj:j≤l.length):ZL Try.prog 44 (tl k l) lo hi S=some (tl (if k=2 then 1 else k) ((l.drop i.toNat).take (j.toNat - i.toNat)),S):=acw Jt ZF acS h hlo hhi h0 hij hj
theorem afe {k:Nat} {l:List TxV} {t:TxV} {S:zn} (h:Okl k l) (hk:k≠1) (hl:l.length≤8796093022000):wP Try.prog 44 44 (tl k l) (tl 2 [t]) S=some (tl 2 (l++[t]),S):=by
 rw [KN Jt ZF ahd rfl aht (by omega) Jt acS ajI h hk Okl.own (by simp;omega) (by simp;omega),if_neg (fun h=>by have:=h.2;simp at this)]
theorem adb {α:Type} (g:α→Int) (v:Value) (l:List α) (k:Int):Xz (l.map fun t=>(g t,v)) k=if k ∈ l.map g then some v else none:=by
 induction l with
 | nil=>rfl
 | cons t l ih =>
  simp only [List.map_cons,Xz,ih,List.mem_cons]
  by_cases h:g t=k
  ·
   simp [h]
  ·
   have h':¬ k=g t:=fun e=>h e.symm
   simp [h,h']
abbrev kI:Int→Value:=fun n=>.int .i64 n
def unl (l:List TxV):Bool:=decide ((l.map TxV.id).Nodup) && decide (l.length≤3)
theorem jG.round {k:Nat} {l:List TxV} (hk:Okl k l) (hl:l.length≤8796093022208) {q:Nat}:∀ (suf pre:List TxV) {T:List Value} {S:zn} {r:St},qw (zG Try.prog O false jG.jL) T S=r→T.length=24 →
  T.getD 0 zh=tl k l→T.getD 3 zh=.map (some q)→T.getD 7 zh=tl k l→T.getD 8 zh=.int .i64 l.length→T.getD 9 zh=.int .i64 pre.length→l=pre++suf →
  MapAt kI S q (pre.map fun t=>(t.id,.bool true))→q < S.next→(pre.map TxV.id).Nodup →
  ∃ e T' S',r=some (e,T',S')∧if (l.map TxV.id).Nodup then e=.exit 0∧T'.length=24∧T'.getD 0 zh=tl k l else e=.ret∧T'.getD 2 zh=.bool false:=by
 intro suf
 induction suf with
 | nil =>
  intro pre T S r hL hT h0 h3 h7 h8 h9 hpre hm hq hn
  have hTe:=jG.eta hT
  rw [h0,h3,h7,h8,h9] at hTe
  have hr:zG Try.prog O false jG.jL T S=zG Try.prog O false jG.jL T S:=rfl
  have d1:¬ (pre.length:Int) < (l.length:Int):=by rw [hpre];simp
  conv at hr =>
   rhs
   rw [hTe]
   simp only [jG.jL,jG.code,jG.rs,zSs,reduceIte,Nat.reduceEqDiff,Int.reduceEq,Int.reduceLT,Int.reduceLE,d1]
  refine ⟨_,_,_,hL.symm.trans (jZ hr (by simp)),?_⟩
  rw [if_pos (by rw [hpre,List.append_nil];exact hn)]
  exact ⟨rfl,rfl,rfl⟩
 | cons t suf ih =>
  intro pre T S r hL hT h0 h3 h7 h8 h9 hpre hm hq hn
  have hTe:=jG.eta hT
  rw [h0,h3,h7,h8,h9] at hTe
  have hr:zG Try.prog O false jG.jL T S=zG Try.prog O false jG.jL T S:=rfl
  have d1:(pre.length:Int) < (l.length:Int):=by rw [hpre];simp;omega
  have e1:=fun S=>Qj (S:=S) hk hpre
  have wi:IntKind.i64.wrap ((pre.length:Int)+1)=((pre++[t]).length:Int):=by rw [wrap_i64 (by omega) (by omega)];simp
  obtain ⟨S2,p1,p2,p3,p4⟩:=Xn S t
  have hm2:MapAt kI S2 q (pre.map fun t=>(t.id,.bool true)):=hm.keep (p3.get q hq)
  have m1:vI Try.prog false 126 (.map (some q)) (.int .i64 t.id) false S2=_:=aeN QK hm2 Qq aaB aio rfl t.id
  rw [adb] at m1
  by_cases ht:t.id ∈ pre.map TxV.id
  ·
   rw [if_pos ht] at m1
   conv at hr =>
    rhs
    rw [hTe]
    simp only [jG.jL,jG.code,jG.rs,zSs,reduceIte,Nat.reduceEqDiff,Int.reduceEq,Int.reduceLT,Int.reduceLE,d1,e1,kY,JC,p1,kS,KF p2,m1,Option.getD_some]
   refine ⟨_,_,_,hL.symm.trans (jZ hr (by simp)),?_⟩
   rw [if_neg (by rw [hpre];simp only [List.map_append,List.map_cons,List.nodup_append];intro h;exact h.2.2 _ ht _ (by simp) rfl)]
   exact ⟨rfl,rfl⟩
  ·
   rw [if_neg ht] at m1
   obtain ⟨S3,u1,u2,u3,u4,u5⟩:=acp QK hm2 Qq aaB t.id (.bool true)
   have u1':y9 Try.prog 126 (.map (some q)) (.int .i64 t.id) (.bool true) S2=some (zh,S3):=u1
   rw [VZ (by rw [adb,if_neg ht])] at u2
   conv at hr =>
    rhs
    rw [hTe]
    simp only [jG.jL,jG.code,jG.rs,zSs,reduceIte,Nat.reduceEqDiff,Int.reduceEq,Int.reduceLT,Int.reduceLE,d1,e1,kY,JC,p1,kS,KF p2,m1,Option.getD_none,u1',wi]
   refine ih (pre++[t]) ((wY hr).symm.trans hL) rfl rfl rfl rfl rfl rfl (by simp [hpre]) (by simpa using u2) (by omega) ?_
   simp only [List.map_append,List.map_cons,List.map_nil,List.nodup_append]
   exact ⟨hn,by simp,fun a ha b hb=>by simp at hb;subst hb;exact fun h=>ht (h ▸ ha)⟩
theorem jG.v {k:Nat} {l:List TxV} (hk:Okl k l) (k2:k≠2) (hl:l.length≤8796093022208) (S:zn):zW Try.prog O jG.id [tl k l] S=some (.bool (unl l),S):=by
 obtain ⟨T,hTe⟩:∃ T,T=(tl k l::zh::zh::zh::zh::zh::zh::zh::zh::zh::zh::zh::zh::zh::zh::zh::zh::zh::zh::zh::zh::zh::zh::zh::[]):=⟨_,rfl⟩
 have hr:zG Try.prog O false jG.code T zn.empty=zG Try.prog O false jG.code T zn.empty:=rfl
 obtain ⟨S1,m1,m2,m3,m4,m5⟩:=abU (P:=Try.prog) (t:=126) kI zn.empty
 conv at hr =>
  rhs
  rw [hTe]
  simp only [jG.code,jG.rs,zSs,reduceIte,Nat.reduceEqDiff,Int.reduceEq,Int.reduceLT,Int.reduceLE,m1,if_neg k2,Z5 hk]
 generalize hL:qw (zG Try.prog O false jG.jL) _ _=r at hr
 obtain ⟨e,T',S',rfl,g⟩:=jG.round hk hl l [] hL rfl rfl rfl rfl rfl rfl rfl m2 (by omega) List.nodup_nil
 unfold unl
 by_cases h:(l.map TxV.id).Nodup
 ·
  rw [if_pos h] at g
  obtain ⟨rfl,g2,g3⟩:=g
  have hTe':=jG.eta g2
  rw [g3] at hTe'
  have d3:decide ((l.length:Int)≤3)=decide (l.length≤3):=decide_eq_decide.mpr (by omega)
  conv at hr =>
   rhs
   rw [hTe']
   simp only [jG.code,jG.rs,zSs,reduceIte,Nat.reduceEqDiff,Int.reduceEq,Int.reduceLT,Int.reduceLE,if_neg k2,Z5 hk,d3]
  rw [hTe] at hr
  rw [decide_eq_true h,Bool.true_and]
  exact jG.runs hr (.inr rfl) (all1 (Jc hk.le fun _ _=>rfl)) rfl
 ·
  rw [if_neg h] at g
  obtain ⟨rfl,g2⟩:=g
  conv at hr =>
   rhs
   simp only [zSs,reduceIte,Nat.reduceEqDiff,Int.reduceEq,Int.reduceLT,Int.reduceLE]
  rw [hTe] at hr
  rw [decide_eq_false h,Bool.false_and]
  have hrun:=jG.runs (S:=S) hr (.inr rfl) (all1 (Jc hk.le fun _ _=>rfl)) (by rw [g2];rfl)
  rw [g2] at hrun
  exact hrun
def Zx (l:List TxV):Bool:=unl l && l.all qp
def flat (l:List TxV):List Int:=l.flatMap fun t=>[t.id,t.fee]
def Vj (l:List TxV):List UInt8:=encs ((l.length:Int)::flat l)
def ahx (l:List TxV):Value:=if Zx l then .tuple #[by_ 2 (Vj l),.int .i64 0] else .tuple #[.slice none 0 0,.int .i64 61]
theorem Yf (a b:List TxV):flat (a++b)=flat a++flat b:=by simp [flat]
theorem Jz (l:List TxV):(flat l).length=2 * l.length:=by
 induction l with
 | nil=>rfl
 | cons t l ih=>rw [show flat (t::l)=[t.id,t.fee]++flat l from rfl,List.length_append,ih];simp;omega
theorem VN {l:List TxV} (h:∀ t ∈ l,qp t=true):∀ n ∈ flat l,0≤n∧n≤1000000:=by
 intro n hn
 simp only [flat,List.mem_flatMap] at hn
 obtain ⟨t,h1,h2⟩:=hn
 obtain ⟨b1,b2,b3,b4⟩:=xg.mp (h t h1)
 simp at h2
 omega
theorem Zg (l:List TxV):Vj l=encs [(l.length:Int)]++encs (flat l):=Zl [(l.length:Int)] (flat l)
theorem YM {l:List TxV} (h:∀ t ∈ l,qp t=true):(encs (flat l)).length≤20 * l.length:=by
 have h1:=Z7 (l:=flat l) (fun n hn=>by have:=VN h n hn;omega)
 rw [Jz] at h1
 omega
theorem jY.round {k:Nat} {l:List TxV} (hk:Okl k l) (hl:l.length≤3) {A:List UInt8} (hA:A.length≤100):∀ (suf pre:List TxV) {T:List Value} {S:zn} {r:St},qw (zG Try.prog O false jY.jL) T S=r→T.length=39 →
  T.getD 4 zh=by_ 2 (A++encs (flat pre))→T.getD 20 zh=tl k l→T.getD 21 zh=.int .i64 l.length→T.getD 22 zh=.int .i64 pre.length→l=pre++suf→(∀ t ∈ pre,qp t=true) →
  ∃ e T' S',r=some (e,T',S')∧if l.all qp=true then e=.exit 0∧T'.length=39∧T'.getD 4 zh=by_ 2 (A++encs (flat l)) else e=.ret∧T'.getD 2 zh=.slice none 0 0∧T'.getD 3 zh=.int .i64 61:=by
 intro suf
 induction suf with
 | nil =>
  intro pre T S r hL hT h4 h20 h21 h22 hpre hp
  have hTe:=jY.eta hT
  rw [h4,h20,h21,h22] at hTe
  have hr:zG Try.prog O false jY.jL T S=zG Try.prog O false jY.jL T S:=rfl
  have d1:¬ (pre.length:Int) < (l.length:Int):=by rw [hpre];simp
  conv at hr =>
   rhs
   rw [hTe]
   simp only [jY.jL,jY.code,jY.rs,zSs,reduceIte,Nat.reduceEqDiff,Int.reduceEq,Int.reduceLT,Int.reduceLE,d1]
  refine ⟨_,_,_,hL.symm.trans (jZ hr (by simp)),?_⟩
  rw [List.append_nil] at hpre
  rw [hpre,if_pos (List.all_eq_true.mpr hp)]
  exact ⟨rfl,rfl,rfl⟩
 | cons t suf ih =>
  intro pre T S r hL hT h4 h20 h21 h22 hpre hp
  have hTe:=jY.eta hT
  rw [h4,h20,h21,h22] at hTe
  have hr:zG Try.prog O false jY.jL T S=zG Try.prog O false jY.jL T S:=rfl
  have d1:(pre.length:Int) < (l.length:Int):=by rw [hpre];simp;omega
  have e1:=fun S=>Qj (S:=S) hk hpre
  have wi:IntKind.i64.wrap ((pre.length:Int)+1)=((pre++[t]).length:Int):=by rw [wrap_i64 (by omega) (by omega)];simp
  obtain ⟨S2,p1,p2,p3,p4⟩:=Xn S t
  have c1:∀ S,zW Try.prog O 71 [.agg [Value.int .i64 t.id,.int .i64 t.fee].toArray] S=some (aji t,S):=fun S=>yN.v t S
  unfold aji at c1
  by_cases ht:qp t=true
  ·
   rw [if_pos ht] at c1
   have hb:=abI ht
   have hf:=YM hp
   have hpl:pre.length≤3:=by omega
   have ap:∀ S,wP Try.prog 33 33 (by_ 2 (A++encs (flat pre))) (by_ 1 (txB t)) S=some (by_ 2 (A++encs (flat (pre++[t]))),S):=fun S=>by
    rw [kX Okl.own (by decide) Okl.read (by simp;omega),Yf,Zl,← List.append_assoc];rfl
   conv at hr =>
    rhs
    rw [hTe]
    simp only [jY.jL,jY.code,jY.rs,zSs,reduceIte,Nat.reduceEqDiff,Int.reduceEq,Int.reduceLT,Int.reduceLE,d1,e1,kY,JC,p1,J6 p2,c1,ap,wi]
   exact ih (pre++[t]) ((wY hr).symm.trans hL) rfl rfl rfl rfl rfl (by simp [hpre]) (fun x hx=>by rcases List.mem_append.1 hx with h | h;{ exact hp x h };{ simp at h;rw [h];exact ht })
  ·
   rw [if_neg ht] at c1
   conv at hr =>
    rhs
    rw [hTe]
    simp only [jY.jL,jY.code,jY.rs,zSs,reduceIte,Nat.reduceEqDiff,Int.reduceEq,Int.reduceLT,Int.reduceLE,d1,e1,kY,JC,p1,J6 p2,c1]
   refine ⟨_,_,_,hL.symm.trans (jZ hr (by simp)),?_⟩
   rw [if_neg (by rw [hpre];simp [ht])]
   exact ⟨rfl,rfl,rfl⟩
theorem jY.v {k:Nat} {l:List TxV} (hk:Okl k l) (k2:k≠2) (hl:l.length≤8796093022208) (S:zn):zW Try.prog O jY.id [tl k l] S=some (ahx l,S):=by
 obtain ⟨T,hTe⟩:∃ T,T=(tl k l::zh::zh::zh::zh::zh::zh::zh::zh::zh::zh::zh::zh::zh::zh::zh::zh::zh::zh::zh::zh::zh::zh::zh::zh::zh::zh::zh::zh::zh::zh::zh::zh::zh::zh::zh::zh::zh::zh::[]):=⟨_,rfl⟩
 have hr:zG Try.prog O false jY.code T zn.empty=zG Try.prog O false jY.code T zn.empty:=rfl
 have c1:=fun S=>jG.v hk k2 hl S
 have cl:jP 16 (tl k l)=true:=Jc hk.le fun _ _=>rfl
 unfold ahx Zx
 by_cases hu:unl l=true
 ·
  have h3:l.length≤3:=by unfold unl at hu;simp at hu;exact hu.2
  have c2:=fun S=>jB.v (l:=[(l.length:Int)]) Okl.read (by decide) (by simp;omega) S
  have hA:(encs [(l.length:Int)]).length≤100:=by
   have:=Z7 (l:=[(l.length:Int)]) (by simp;omega)
   simp at this;omega
  conv at hr =>
   rhs
   rw [hTe]
   simp only [jY.code,jY.rs,zSs,reduceIte,Nat.reduceEqDiff,Int.reduceEq,Int.reduceLT,Int.reduceLE,if_neg k2,c1,hu,Z5 hk,Wn,ahg,c2,JE (l:=[(l.length:Int)]) (by simp) (by intro n hn;simp at hn;omega) (by simp)]
  generalize hL:qw (zG Try.prog O false jY.jL) _ _=r at hr
  obtain ⟨e,T',S',rfl,g⟩:=jY.round hk h3 hA l [] hL rfl (by rw [show flat []=[] from rfl,show encs []=[] from rfl,List.append_nil];rfl) rfl rfl rfl rfl (fun t h=>by cases h)
  by_cases ha:l.all qp=true
  ·
   rw [if_pos ha] at g
   obtain ⟨rfl,g2,g3⟩:=g
   have hTe':=jY.eta g2
   rw [g3] at hTe'
   conv at hr =>
    rhs
    rw [hTe']
    simp only [jY.code,jY.rs,zSs,reduceIte,Nat.reduceEqDiff,Int.reduceEq,Int.reduceLT,Int.reduceLE]
   rw [hTe] at hr
   rw [if_pos (by rw [hu,ha];rfl),Zg]
   exact jY.runs hr (.inr rfl) (by simp only [List.getD_cons_succ,List.getD_cons_zero,wC,jW,jK,jO,jX]) rfl (all1 cl) (yO (all2 (qx (k:=2) (Nat.le_refl 2)) rfl))
  ·
   rw [if_neg ha] at g
   obtain ⟨rfl,g2,g3⟩:=g
   conv at hr =>
    rhs
    simp only [zSs,reduceIte,Nat.reduceEqDiff,Int.reduceEq,Int.reduceLT,Int.reduceLE]
   rw [hTe] at hr
   rw [if_neg (by rw [hu,Bool.true_and];exact ha)]
   have hrun:=jY.runs (S:=S) hr (.inr rfl) (by rw [g2];rfl) (by rw [g3];rfl) (all1 cl) (by rw [g2,g3];rfl)
   rw [g2,g3] at hrun
   exact hrun
 ·
  rw [Bool.not_eq_true] at hu
  conv at hr =>
   rhs
   rw [hTe]
   simp only [jY.code,jY.rs,zSs,reduceIte,Nat.reduceEqDiff,Int.reduceEq,Int.reduceLT,Int.reduceLE,if_neg k2,c1,hu]
  rw [hTe] at hr
  rw [if_neg (by rw [hu];simp)]
  exact jY.runs hr (.inr rfl) rfl rfl (all1 cl) rfl
def good (l:List TxV):Prop:=(l.map TxV.id).Nodup∧∀ t ∈ l,qp t=true
theorem xB {l:List TxV}:Zx l=true ↔ good l∧l.length≤3:=by
 unfold Zx unl good
 simp [and_assoc,and_comm,and_left_comm]
theorem zu.inner {k:Nat} {l:List TxV} (hk:Okl k l) (hl:l.length≤3) {t:TxV} {q:Nat} :
  ∀ (suf pre:List TxV) {T:List Value} {S:zn} {r:St},qw (zG Try.prog O false zu.jL) T S=r→T.length=51→T.getD 6 zh=.pointer (some ⟨q,0,none⟩)→T.getD 27 zh=tl k l→T.getD 28 zh=.int .i64 l.length→T.getD 29 zh=.int .i64 pre.length→l=pre++suf →
  S.get q=some (.cells (fT t) (.own []) 0)→q < S.next →
  ∃ e T' S',r=some (e,T',S')∧Ext S S'∧if t.id ∈ suf.map TxV.id then e=.ret∧T'.getD 2 zh=.slice none 0 0∧T'.getD 3 zh=.int .i64 61 else e=.exit 2∧T'.length=51 ∧
   T'.getD 0 zh=T.getD 0 zh∧T'.getD 4 zh=T.getD 4 zh∧T'.getD 6 zh=T.getD 6 zh∧T'.getD 15 zh=T.getD 15 zh∧T'.getD 16 zh=T.getD 16 zh∧T'.getD 17 zh=T.getD 17 zh:=by
 intro suf
 induction suf with
 | nil =>
  intro pre T S r hL hT h6 h27 h28 h29 hpre hg hq
  have hTe:=zu.eta hT
  rw [h27,h28,h29] at hTe
  have hr:zG Try.prog O false zu.jL T S=zG Try.prog O false zu.jL T S:=rfl
  have d1:¬ (pre.length:Int) < (l.length:Int):=by rw [hpre];simp
  conv at hr =>
   rhs
   rw [hTe]
   simp only [zu.jL,zu.code,zu.rs,zSs,reduceIte,Nat.reduceEqDiff,Int.reduceEq,Int.reduceLT,Int.reduceLE,d1]
  refine ⟨_,_,_,hL.symm.trans (jZ hr (by simp)),Ext.refl _,?_⟩
  rw [if_neg (by simp)]
  exact ⟨rfl,rfl,rfl,rfl,rfl,rfl,rfl,rfl⟩
 | cons u suf ih =>
  intro pre T S r hL hT h6 h27 h28 h29 hpre hg hq
  have hTe:=zu.eta hT
  rw [h6,h27,h28,h29] at hTe
  have hr:zG Try.prog O false zu.jL T S=zG Try.prog O false zu.jL T S:=rfl
  have d1:(pre.length:Int) < (l.length:Int):=by rw [hpre];simp;omega
  have e1:=fun S=>Qj (S:=S) hk hpre
  have wi:IntKind.i64.wrap ((pre.length:Int)+1)=((pre++[u]).length:Int):=by rw [wrap_i64 (by omega) (by omega)];simp
  obtain ⟨S2,p1,p2,p3,p4⟩:=Xn S u
  have g2:S2.get q=some (.cells (fT t) (.own []) 0):=(p3.get q hq).trans hg
  by_cases ht:u.id=t.id
  ·
   conv at hr =>
    rhs
    rw [hTe]
    simp only [zu.jL,zu.code,zu.rs,zSs,reduceIte,Nat.reduceEqDiff,Int.reduceEq,Int.reduceLT,Int.reduceLE,d1,e1,kY,JC,p1,kS,KF p2,KF g2,decide_eq_true ht]
   refine ⟨_,_,_,hL.symm.trans (jZ hr (by simp)),p3,?_⟩
   rw [if_pos (by simp [ht])]
   exact ⟨rfl,rfl,rfl⟩
  ·
   conv at hr =>
    rhs
    rw [hTe]
    simp only [zu.jL,zu.code,zu.rs,zSs,reduceIte,Nat.reduceEqDiff,Int.reduceEq,Int.reduceLT,Int.reduceLE,d1,e1,kY,JC,p1,kS,KF p2,KF g2,decide_eq_false ht,wi]
   obtain ⟨e,T',S',i1,i2,i3⟩:=ih (pre++[u]) ((wY hr).symm.trans hL) rfl rfl rfl rfl rfl (by simp [hpre]) g2 (by omega)
   refine ⟨e,T',S',i1,p3.trans i2,?_⟩
   have hm:t.id ∈ (u::suf).map TxV.id ↔ t.id ∈ suf.map TxV.id:=by
    simp only [List.map_cons,List.mem_cons]
    exact ⟨fun h=>h.resolve_left (fun e=>ht e.symm),.inr⟩
   by_cases hc:t.id ∈ suf.map TxV.id
   ·
    rw [if_pos hc] at i3
    rw [if_pos (hm.mpr hc)]
    exact i3
   ·
    rw [if_neg hc] at i3
    rw [if_neg (fun h=>hc (hm.mp h))]
    obtain ⟨j1,j2,j3,j4,j5,j6,j7,j8⟩:=i3
    exact ⟨j1,j2,j3,j4,j5.trans h6.symm,j6,j7,j8⟩
theorem zu.round {k:Nat} {l:List TxV} (hk:Okl k l) (k2:k≠2) (hl:l.length≤3) {n:Int}:∀ (suf pre:List TxV) {T:List Value} {S:zn} {r:St},qw (zG Try.prog O false zu.kP) T S=r→T.length=51 →
  T.getD 0 zh=tl k l→T.getD 4 zh=iz 2 (n::flat pre)→T.getD 15 zh=tl k l→T.getD 16 zh=.int .i64 l.length→T.getD 17 zh=.int .i64 pre.length→l=pre++suf→good pre →
  ∃ e T' S',r=some (e,T',S')∧((good l∧e=.exit 0∧T'.length=51∧T'.getD 4 zh=iz 2 (n::flat l))∨(¬ good l∧e=.ret∧T'.getD 2 zh=.slice none 0 0∧T'.getD 3 zh=.int .i64 61)):=by
 intro suf
 induction suf with
 | nil =>
  intro pre T S r hL hT h0 h4 h15 h16 h17 hpre hp
  have hTe:=zu.eta hT
  rw [h0,h4,h15,h16,h17] at hTe
  have hr:zG Try.prog O false zu.kP T S=zG Try.prog O false zu.kP T S:=rfl
  have d1:¬ (pre.length:Int) < (l.length:Int):=by rw [hpre];simp
  conv at hr =>
   rhs
   rw [hTe]
   simp only [zu.kP,zu.code,zu.rs,zSs,reduceIte,Nat.reduceEqDiff,Int.reduceEq,Int.reduceLT,Int.reduceLE,d1]
  refine ⟨_,_,_,hL.symm.trans (jZ hr (by simp)),.inl ?_⟩
  rw [List.append_nil] at hpre
  rw [hpre]
  exact ⟨hp,rfl,rfl,rfl⟩
 | cons t suf ih =>
  intro pre T S r hL hT h0 h4 h15 h16 h17 hpre hp
  have hTe:=zu.eta hT
  rw [h0,h4,h15,h16,h17] at hTe
  have hr:zG Try.prog O false zu.kP T S=zG Try.prog O false zu.kP T S:=rfl
  have d1:(pre.length:Int) < (l.length:Int):=by rw [hpre];simp;omega
  have e1:=fun S=>Qj (S:=S) hk hpre
  have wi:IntKind.i64.wrap ((pre.length:Int)+1)=((pre++[t]).length:Int):=by rw [wrap_i64 (by omega) (by omega)];simp
  obtain ⟨S2,p1,p2,p3,p4⟩:=Xn S t
  have c1:∀ S,zW Try.prog O 48 [.agg [Value.int .i64 t.id,.int .i64 t.fee].toArray] S=some (.bool (qp t),S):=fun S=>jv.v t S
  by_cases ht:qp t=true
  ·
   have sl:∀ S,ZL Try.prog 44 (tl k l) none (some (.int .i64 pre.length)) S=some (tl k pre,S):=fun S=>by
    rw [agA hk rfl rfl (by omega) (by omega) (by omega),if_neg k2,hpre]
    simp
   have hkp:Okl k pre:=⟨hk.le,fun h=>by have:=hk.nil h;rw [hpre] at this;simp at this⟩
   conv at hr =>
    rhs
    rw [hTe]
    simp only [zu.kP,zu.code,zu.rs,zSs,reduceIte,Nat.reduceEqDiff,Int.reduceEq,Int.reduceLT,Int.reduceLE,d1,e1,kY,JC,p1,J6 p2,c1,ht,if_neg k2,sl,Z5 hkp]
   generalize hL2:qw (zG Try.prog O false zu.jL) _ _=r2 at hr
   obtain ⟨e,T',S',rfl,g1,g⟩:=zu.inner (t:=t) hkp (by rw [hpre] at hl;simp at hl;omega) pre [] hL2 rfl rfl rfl rfl rfl rfl p2 p4
   by_cases hin:t.id ∈ pre.map TxV.id
   ·
    rw [if_pos hin] at g
    obtain ⟨rfl,g2,g3⟩:=g
    conv at hr =>
     rhs
     simp only [zSs,reduceIte,Nat.reduceEqDiff,Int.reduceEq,Int.reduceLT,Int.reduceLE]
    refine ⟨_,_,_,hL.symm.trans (jZ hr (by simp)),.inr ⟨?_,rfl,g2,g3⟩⟩
    intro hgd
    have:=hgd.1
    rw [hpre] at this
    simp only [List.map_append,List.map_cons,List.nodup_append] at this
    exact this.2.2 _ hin _ (by simp) rfl
   ·
    rw [if_neg hin] at g
    obtain ⟨rfl,g2,f0,f4,f6,f15,f16,f17⟩:=g
    have hTe':=zu.eta g2
    rw [f0,f4,f6,f15,f16,f17] at hTe'
    simp only [List.getD_cons_succ,List.getD_cons_zero] at hTe'
    have g3:S'.get S.next=some (.cells (fT t) (.own []) 0):=(g1.get _ p4).trans p2
    have ap:∀ S,wP Try.prog 24 24 (iz 2 (n::flat pre)) (iz 2 [t.id,t.fee]) S=some (iz 2 (n::flat (pre++[t])),S):=fun S=>by
     rw [YJ Okl.own (by decide) Okl.own (by simp [Jz];omega),Yf];rfl
    conv at hr =>
     rhs
     rw [hTe']
     simp only [zu.code,zu.rs,zSs,reduceIte,Nat.reduceEqDiff,Int.reduceEq,Int.reduceLT,Int.reduceLE,kS,ZU,KF g3,akp g3,Y9,ace,ap,wi]
    refine ih (pre++[t]) ((wY hr).symm.trans hL) rfl rfl rfl rfl rfl rfl (by simp [hpre]) ?_
    refine ⟨?_,fun x hx=>by rcases List.mem_append.1 hx with h | h;{ exact hp.2 x h };{ simp at h;rw [h];exact ht }⟩
    simp only [List.map_append,List.map_cons,List.map_nil,List.nodup_append]
    exact ⟨hp.1,by simp,fun a ha b hb=>by simp at hb;subst hb;exact fun h=>hin (h ▸ ha)⟩
  ·
   have ht':=ht
   rw [Bool.not_eq_true] at ht'
   conv at hr =>
    rhs
    rw [hTe]
    simp only [zu.kP,zu.code,zu.rs,zSs,reduceIte,Nat.reduceEqDiff,Int.reduceEq,Int.reduceLT,Int.reduceLE,d1,e1,kY,JC,p1,J6 p2,c1,ht']
   refine ⟨_,_,_,hL.symm.trans (jZ hr (by simp)),.inr ⟨?_,rfl,rfl,rfl⟩⟩
   intro hgd
   exact ht (hgd.2 t (by rw [hpre];simp))
theorem zu.v {k:Nat} {l:List TxV} (hk:Okl k l) (k2:k≠2) (hl:l.length≤8796093022208) (S:zn):zW Try.prog O zu.id [tl k l] S=some (ahx l,S):=by
 obtain ⟨T,hTe⟩:∃ T,T=(tl k l::zh::zh::zh::zh::zh::zh::zh::zh::zh::zh::zh::zh::zh::zh::zh::zh::zh::zh::zh::zh::zh::zh::zh::zh::zh::zh::zh::zh::zh::zh::zh::zh::zh::zh::zh::zh::zh::zh::zh::zh::zh::zh::zh::zh::zh::zh::zh::zh::zh::zh::[]):=⟨_,rfl⟩
 have hr:zG Try.prog O false zu.code T zn.empty=zG Try.prog O false zu.code T zn.empty:=rfl
 have cl:jP 16 (tl k l)=true:=Jc hk.le fun _ _=>rfl
 unfold ahx
 by_cases h3:l.length≤3
 ·
  have d3:¬ (3:Int) < (l.length:Int):=by omega
  conv at hr =>
   rhs
   rw [hTe]
   simp only [zu.code,zu.rs,zSs,reduceIte,Nat.reduceEqDiff,Int.reduceEq,Int.reduceLT,Int.reduceLE,if_neg k2,Z5 hk,d3,Wn,ahg]
  generalize hL:qw (zG Try.prog O false zu.kP) _ _=r at hr
  obtain ⟨e,T',S',rfl,⟨g0,rfl,g2,g3⟩ | ⟨g0,rfl,g2,g3⟩⟩:=zu.round hk k2 h3 l [] hL rfl rfl rfl rfl rfl rfl rfl ⟨List.nodup_nil,fun t h=>by cases h⟩
  ·
   have hTe':=zu.eta g2
   rw [g3] at hTe'
   have few:=VN g0.2
   have c2:=fun S=>zD.v (l:=(l.length:Int)::flat l) Okl.read (by decide) (by intro n hn;rcases List.mem_cons.1 hn with rfl | hn;{ omega };{ have:=few n hn;omega }) S
   have n2:=JE (k:=2) (l:=(l.length:Int)::flat l) (by simp [Jz];omega) (by intro n hn;rcases List.mem_cons.1 hn with rfl | hn;{ omega };{ have:=few n hn;omega }) (by simp)
   conv at hr =>
    rhs
    rw [hTe']
    simp only [zu.code,zu.rs,zSs,reduceIte,Nat.reduceEqDiff,Int.reduceEq,Int.reduceLT,Int.reduceLE,c2,n2]
   rw [hTe] at hr
   rw [if_pos (xB.mpr ⟨g0,h3⟩)]
   exact zu.runs hr (.inr rfl) (by simp only [List.getD_cons_succ,List.getD_cons_zero,wC,jW,jK,jO,jX]) rfl (all1 cl) (yO (all2 (qx (k:=2) (Nat.le_refl 2)) rfl))
  ·
   conv at hr =>
    rhs
    simp only [zSs,reduceIte,Nat.reduceEqDiff,Int.reduceEq,Int.reduceLT,Int.reduceLE]
   rw [hTe] at hr
   rw [if_neg (fun h=>g0 (xB.mp h).1)]
   have hrun:=zu.runs (S:=S) hr (.inr rfl) (by rw [g2];rfl) (by rw [g3];rfl) (all1 cl) (by rw [g2,g3];rfl)
   rw [g2,g3] at hrun
   exact hrun
 ·
  have d3:(3:Int) < (l.length:Int):=by omega
  conv at hr =>
   rhs
   rw [hTe]
   simp only [zu.code,zu.rs,zSs,reduceIte,Nat.reduceEqDiff,Int.reduceEq,Int.reduceLT,Int.reduceLE,if_neg k2,Z5 hk,d3]
  rw [hTe] at hr
  rw [if_neg (fun h=>h3 (xB.mp h).2)]
  exact zu.runs hr (.inr rfl) rfl rfl (all1 cl) rfl
end Go.Proofs.Ytfjogganfjkckaa
namespace Go.Abs
variable {P:Program} {t:TypeId} {xs ys:Array Value} {d:Nat}
theorem Y7 (P:Program):qQ P program=some P:=rfl
def FEq (P:Program) (d:Nat) (xs ys:Array Value):List Field→List Bool→Prop
 | [],[]=>True
 | f::fs,b::bs=>(f.name≠ "_"∧∃ v w,qQ P (part f.type xs f.offset)=some v∧qQ P (part f.type ys f.offset)=some w∧qQ P (Op.equalIn d f.type v w)=some b)∧FEq P d xs ys fs bs
 | _,_=>False
theorem afw {fs:List Field} (hu:P.underlying t=some (.struct fs.toArray)) (hs:P.stoodInHeld t=false) {bs:List Bool} (h:FEq P d xs ys fs bs):qQ P (Op.equalIn (d+1) t (.agg xs) (.agg ys))=some (bs.all id):=by
 rw [Op.equalIn]
 simp only [qP,vV hu,Option.bind_some,Y7,hs,Bool.false_eq_true,if_false,List.forIn_toArray]
 clear hu hs
 induction fs generalizing bs with
 | nil =>
  cases bs with
  | nil=>rfl
  | cons b bs=>exact absurd h id
 | cons f fs ih =>
  cases bs with
  | nil=>exact absurd h id
  | cons b bs =>
   obtain ⟨⟨h1,v,w,h2,h3,h4⟩,h5⟩:=h
   rw [List.forIn_cons]
   simp only [qP,if_pos h1,h2,h3,h4,Option.bind_some]
   cases b with
   | true =>
    simp only [Bool.not_true,Bool.false_eq_true,if_false,yw,Option.bind_some,List.all_cons,id,Bool.true_and]
    exact ih h5
   | false =>
    simp only [Bool.not_false,if_true,yw,Option.bind_some,List.all_cons,id,Bool.false_and]
theorem adz {fs:List Field} {S:zn} (hu:P.underlying t=some (.struct fs.toArray)) (hs:P.stoodInHeld t=false) (hg:P.eqGuardType P.depth t=false) {bs:List Bool} (h:FEq P 9999 xs ys fs bs)
  (gx:ground (.agg xs)=true) (gy:ground (.agg ys)=true):wB P .eql t (.agg xs) (.agg ys) S=some (.bool (bs.all id),S)∧wB P .neq t (.agg xs) (.agg ys) S=some (.bool (!bs.all id),S):=by
 rw [acV,acV]
 have e:qQ P (Op.equal t (.agg xs) (.agg ys))=some (bs.all id):=afw hu hs h
 have g:qQ P (eqGuard .eql t (.tmp 0) (.tmp 0) (.agg xs) (.agg ys))=some ():=by
  unfold eqGuard
  simp only [Bool.not_true,Bool.false_eq_true,if_false,qP,Y7,Option.bind_some,hg,Bool.not_false,if_true]
  rfl
 have g':qQ P (eqGuard .neq t (.tmp 0) (.tmp 0) (.agg xs) (.agg ys))=some ():=by
  unfold eqGuard
  simp only [Bool.not_true,Bool.false_eq_true,if_false,qP,Y7,Option.bind_some,hg,Bool.not_false,if_true]
  rfl
 have ha:[Value.agg xs,.agg ys].all ground=true:=by simp [gx,gy]
 constructor
 ·
  unfold JF xX
  simp only [hu]
  show qG P [Value.agg xs,.agg ys] _ S=_
  refine yB ha ?_ rfl
  simp only [qP,g,Option.bind_some]
  unfold binOp
  simp only [qP,e,Option.bind_some,yw]
 ·
  unfold JF xX
  simp only [hu]
  show qG P [Value.agg xs,.agg ys] _ S=_
  refine yB ha ?_ rfl
  simp only [qP,g',Option.bind_some]
  unfold binOp
  simp only [qP,e,Option.bind_some,yw]
end Go.Abs
