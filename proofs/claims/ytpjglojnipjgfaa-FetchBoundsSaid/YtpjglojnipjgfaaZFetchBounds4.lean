/-
The law FetchBounds returns true for every input, and leaves it as it was; no condition. Part 4 of 4 of the texts (put together by a program: own names are short, what isn't needed is left out).
-/
import Derived.Test.YtpjglojnipjgfaaZFetchBounds3
import Derived.Test.YtpjglojnipjgfaaChecked
import Derived.KernelRfl
import Derived.Test.YtpjglojnipjgfaaRows
import Derived.WalkKit
import Derived.ProofKit
import Derived.OpenShut
import Derived.ShutString
import Derived.ChangeOld
import Derived.Below
import Derived.SizedLaws
import Derived.Carry
set_option linter.unusedVariables false
set_option linter.unusedSimpArgs false
set_option maxRecDepth 100000
open Go renaming undef → zh
open Go.Proofs.Try renaming prog → zi
open Nat renaming reduceEqDiff → zk
open Int renaming reduceEq → zn
open Int renaming reduceLT → zo
open Int renaming reduceLE → zq
namespace Go.Proofs.Ytpjglojnipjgfaa
open Go.Abs
def idxFrom {α:Type} (p:α→Bool):Int→List α→Int
 | _,[]=>-1
 | i,x::r=>if p x then i else idxFrom p (i+1) r
theorem xX {α:Type} {p:α→Bool}:∀ {l:List α} {i:Int},l.any p=false→idxFrom p i l=-1
 | [],_,_=>rfl
 | x::r,i,h=>by
  rw [List.any_cons,Bool.or_eq_false_iff] at h
  rw [idxFrom,h.1]
  exact xX h.2
theorem QA {α:Type} {p:α→Bool}:∀ {l:List α} {i:Int},l.any p=true→i≤idxFrom p i l
 | [],_,h=>by cases h
 | x::r,i,h=>by
  rw [idxFrom]
  split
  ·
   omega
  ·
   rename_i hx
   rw [List.any_cons,Bool.or_eq_true] at h
   have:=QA (i:=i+1) (h.resolve_left hx)
   omega
theorem acP {α:Type} {p:α→Bool} {l:List α}:decide (0≤idxFrom p 0 l)=l.any p:=by
 cases h:l.any p with
 | false=>rw [xX h];decide
 | true=>rw [decide_eq_true_eq];exact QA h
section
variable {k:Nat} {l:List Int}
theorem slices_Index.round (hv:Okl k l) (hk:k≠2) (hlen:l.length≤17592186044416) {v:Int} {S:zx}:∀ (suf pre:List Int) {T:List Value} {r:St},wZ (zC zi O false slices_Index.jd) T S=r→T.length=19 →
  T.getD 0 zh=iz k l→T.getD 1 zh=.int .i64 v→T.getD 7 zh=.int .i64 l.length→T.getD 8 zh=.int .i64 pre.length→l=pre++suf →
  ∃ e T',r=some (e,T',S)∧if suf.any (fun x=>decide (v=x)) then e=.ret∧T'.getD 4 zh=.int .i64 (idxFrom (fun x=>decide (v=x)) pre.length suf) else e=.exit 0∧T'.length=19:=by
 intro suf
 induction suf with
 | nil =>
  intro pre T r hL hT h0 h1 h7 h8 hl
  have hTe:=slices_Index.eta hT
  rw [h0,h1,h7,h8] at hTe
  have hr:zC zi O false slices_Index.jd T S=zC zi O false slices_Index.jd T S:=rfl
  have hd:¬ (pre.length:Int) < (l.length:Int):=by rw [hl];simp
  conv at hr =>
   rhs
   rw [hTe]
   simp only [slices_Index.jd,slices_Index.code,slices_Index.rs,zSs,reduceIte,zk,zn,zo,zq,hd]
  exact ⟨_,_,hL.symm.trans (jA hr (by simp)),rfl,rfl⟩
 | cons x suf ih =>
  intro pre T r hL hT h0 h1 h7 h8 hl
  have hTe:=slices_Index.eta hT
  rw [h0,h1,h7,h8] at hTe
  have hr:zC zi O false slices_Index.jd T S=zC zi O false slices_Index.jd T S:=rfl
  have hd:(pre.length:Int) < (l.length:Int):=by rw [hl];simp;omega
  have e1:∀ S,zS zi 29 (iz k l) (.int .i64 pre.length) S=some (EP [.int .i64 x],S):=fun S=>by
   rw [ab7 hv (by omega) hd];rw [ZK hl]
  have wi:IntKind.i64.wrap ((pre.length:Int)+1)=((pre++[x]).length:Int):=by rw [wrap_i64 (by omega) (by omega)];simp
  rw [List.any_cons,idxFrom]
  by_cases hx:v=x
  ·
   have hx2:=decide_eq_true hx
   conv at hr =>
    rhs
    rw [hTe]
    simp only [slices_Index.jd,slices_Index.code,slices_Index.rs,zSs,reduceIte,zk,zn,zo,zq,if_neg hk,hd,e1,WS,hx2]
   refine ⟨_,_,hL.symm.trans (jA hr (by simp)),?_⟩
   rw [hx2,Bool.true_or]
   exact ⟨rfl,rfl⟩
  ·
   have hx2:=decide_eq_false hx
   conv at hr =>
    rhs
    rw [hTe]
    simp only [slices_Index.jd,slices_Index.code,slices_Index.rs,zSs,reduceIte,zk,zn,zo,zq,if_neg hk,hd,e1,WS,hx2,wi]
   obtain ⟨e,T',g1,g2⟩:=ih (pre++[x]) ((jK hr).symm.trans hL) rfl rfl rfl rfl rfl (by simp [hl])
   refine ⟨e,T',g1,?_⟩
   rw [hx2,Bool.false_or]
   rw [show (((pre++[x]).length:Nat):Int)=(pre.length:Int)+1 by simp] at g2
   exact g2
theorem slices_Index.v (hv:Okl k l) (hk:k≠2) (hlen:l.length≤17592186044416) {v:Int} (S:zx):zV zi O slices_Index.id [iz k l,.int .i64 v] S=some (.int .i64 (idxFrom (fun x=>decide (v=x)) 0 l),S):=by
 obtain ⟨T,hTe⟩:∃ T,T=(iz k l::.int .i64 v::zh::zh::zh::zh::zh::zh::zh::zh::zh::zh::zh::zh::zh::zh::zh::zh::zh::[]):=⟨_,rfl⟩
 have hr:zC zi O false slices_Index.code T S=zC zi O false slices_Index.code T S:=rfl
 conv at hr =>
  rhs
  rw [hTe]
  simp only [slices_Index.code,slices_Index.rs,zSs,reduceIte,zk,zn,zo,zq,if_neg hk,YK hv,goInt]
 generalize hL:wZ (zC zi O false slices_Index.jd) _ _=r at hr
 obtain ⟨e,T',rfl,g⟩:=slices_Index.round hv hk hlen l [] hL rfl rfl rfl rfl rfl rfl
 cases h:l.any (fun x=>decide (v=x)) with
 | true =>
  rw [h] at g
  obtain ⟨rfl,g2⟩:=g
  conv at hr =>
   rhs
   simp only [zSs,reduceIte,zk,zn,zo,zq]
  rw [hTe] at hr
  have hrun:=slices_Index.runs hr (.inr rfl)
  rw [g2] at hrun
  exact hrun
 | false =>
  rw [h] at g
  obtain ⟨rfl,g2⟩:=g
  have hTe':=slices_Index.eta g2
  conv at hr =>
   rhs
   rw [hTe']
   simp only [slices_Index.code,slices_Index.rs,zSs,reduceIte,zk,zn,zo,zq]
  rw [hTe] at hr
  rw [xX h]
  exact slices_Index.runs hr (.inr rfl)
theorem slices_Contains.v (hv:Okl k l) (hk:k≠2) (hlen:l.length≤17592186044416) {v:Int} (S:zx):zV zi O slices_Contains.id [iz k l,.int .i64 v] S=some (.bool (l.any fun x=>decide (v=x)),S):=by
 obtain ⟨T,hTe⟩:∃ T,T=(iz k l::.int .i64 v::zh::zh::zh::zh::zh::zh::zh::[]):=⟨_,rfl⟩
 have hr:zC zi O false slices_Contains.code T S=zC zi O false slices_Contains.code T S:=rfl
 have c1:=fun S=>slices_Index.v hv hk hlen (v:=v) S
 conv at hr =>
  rhs
  rw [hTe]
  simp only [slices_Contains.code,slices_Contains.rs,zSs,reduceIte,zk,zn,zo,zq,if_neg hk,c1,acP]
 rw [hTe] at hr
 exact slices_Contains.runs hr (.inr rfl)
end
end Go.Proofs.Ytpjglojnipjgfaa
namespace Go.Proofs.Ytpjglojnipjgfaa
open Go.Abs
theorem JH {g:FuncId} {v c:Value} {S:zx}:adH (zV zi O) (.func (Fn.func g) #[] #[c]) [v] S=zV zi O g [v,c] S:=rfl
theorem Qn {hps:FuncId→Bool} {g:FuncId} {v c:Value} {S:zx} (hv:kQ v=false) (hc:kQ c=false):adH (jR hps true (zV zi O)) (.func (Fn.func g) #[] #[c]) [v] S=zV zi O g [v,c] S:=by
 show jR hps true (zV zi O) g [v,c] S=_
 unfold jR
 dsimp only
 split
 ·
  rfl
 ·
  exact QD (call:=zV zi O) (g:=g) (args:=[v,c]) (by simp [hv,hc])
structure jy where
 name:Int
 asked:Int
def fW (w:jy):List Value:=[.int .i64 w.name,.int .i64 w.asked]
abbrev wv (w:jy):Value:=.agg [Value.int .i64 w.name,.int .i64 w.asked].toArray
theorem qZ (w:jy):(fW w).length=2:=rfl
theorem abR (w:jy):(fW w).all (·.oneCell')=true:=rfl
theorem abo (w:jy):(fW w).map qc=fW w:=rfl
theorem YH {α:Type} {p:α→Bool}:∀ {l:List α} {i:Int},l.any p=true→∃ pre x suf,l=pre++x::suf∧pre.any p=false∧p x=true∧idxFrom p i l=i+pre.length
 | [],_,h=>by cases h
 | x::r,i,h=>by
  cases hx:p x with
  | true=>exact ⟨[],x,r,rfl,rfl,hx,by rw [idxFrom,hx];simp⟩
  | false =>
   rw [List.any_cons,hx,Bool.false_or] at h
   obtain ⟨pre,y,suf,h1,h2,h3,h4⟩:=YH (i:=i+1) h
   refine ⟨x::pre,y,suf,by rw [h1];rfl,by rw [List.any_cons,hx,h2];rfl,h3,?_⟩
   rw [idxFrom,hx,if_neg (by decide),h4,List.length_cons]
   omega
theorem filter_none {α:Type} {p:α→Bool} {l:List α} (h:l.any p=false):l.filter (fun x=>!p x)=l:=by
 rw [List.filter_eq_self]
 intro x hx
 rw [List.any_eq_false] at h
 have:=h x hx
 simpa using this
section
variable {l:List jy} {p:jy→Bool} {g:FuncId} {c:Value} {K:zx→Prop}
theorem slices_IndexFunc.adv {k:Nat} (hv:Okl k l) (hk:k≠2) (hlen:l.length≤17592186044416) (hp:∀ S x,K S→x ∈ l→∃ S1,zV zi O g [wv x,c] S=some (.bool (p x),S1)∧Ext S S1∧S1.log=S.log) (hK:∀ S S1,K S→Ext S S1→K S1):∀ (suf pre:List jy) {T:List Value} {r:St} {S:zx},wZ (zC zi O false slices_IndexFunc.jd) T S=r→T.length=19→K S →
  T.getD 0 zh=vs fW 2 k l→T.getD 1 zh=.func (Fn.func g) #[] #[c]→T.getD 7 zh=.int .i64 l.length→T.getD 8 zh=.int .i64 pre.length→l=pre++suf →
  ∃ e T' S',r=some (e,T',S')∧Ext S S'∧S'.log=S.log∧if suf.any p then e=.ret∧T'.getD 4 zh=.int .i64 (idxFrom p pre.length suf) else e=.exit 0∧T'.length=19:=by
 intro suf
 induction suf with
 | nil =>
  intro pre T r S hL hT hS h0 h1 h7 h8 hl
  have hTe:=slices_IndexFunc.eta hT
  rw [h0,h1,h7,h8] at hTe
  have hr:zC zi O false slices_IndexFunc.jd T S=zC zi O false slices_IndexFunc.jd T S:=rfl
  have hd:¬ (pre.length:Int) < (l.length:Int):=by rw [hl];simp
  conv at hr =>
   rhs
   rw [hTe]
   simp only [slices_IndexFunc.jd,slices_IndexFunc.code,slices_IndexFunc.rs,zSs,reduceIte,zk,zn,zo,zq,hd]
  exact ⟨_,_,_,hL.symm.trans (jA hr (by simp)),Ext.refl _,rfl,rfl,rfl⟩
 | cons x suf ih =>
  intro pre T r S hL hT hS h0 h1 h7 h8 hl
  have hTe:=slices_IndexFunc.eta hT
  rw [h0,h1,h7,h8] at hTe
  have hr:zC zi O false slices_IndexFunc.jd T S=zC zi O false slices_IndexFunc.jd T S:=rfl
  have hd:(pre.length:Int) < (l.length:Int):=by rw [hl];simp;omega
  have e1:∀ S,zS zi 58 (vs fW 2 k l) (.int .i64 pre.length) S=some (EP (fW x),S):=fun S=>by
   rw [acg zU zY qZ hv (by omega) hd,abQ hl]
  have l1:∀ S,jf zi false 64 (EP (fW x)) S=some (wv x,S):=fun S=>YQ qg zY rfl
  have wi:IntKind.i64.wrap ((pre.length:Int)+1)=((pre++[x]).length:Int):=by rw [wrap_i64 (by omega) (by omega)];simp
  obtain ⟨S1,p1,x1,g1⟩:=hp S x hS (by rw [hl];simp)
  rw [List.any_cons,idxFrom]
  cases hx:p x with
  | true =>
   rw [hx] at p1
   conv at hr =>
    rhs
    rw [hTe]
    simp only [slices_IndexFunc.jd,slices_IndexFunc.code,slices_IndexFunc.rs,zSs,reduceIte,zk,zn,zo,zq,yC,JH,if_neg hk,hd,e1,l1,p1]
   refine ⟨_,_,_,hL.symm.trans (jA hr (by simp)),x1,g1,?_⟩
   rw [Bool.true_or]
   exact ⟨rfl,rfl⟩
  | false =>
   rw [hx] at p1
   conv at hr =>
    rhs
    rw [hTe]
    simp only [slices_IndexFunc.jd,slices_IndexFunc.code,slices_IndexFunc.rs,zSs,reduceIte,zk,zn,zo,zq,yC,JH,if_neg hk,hd,e1,l1,p1,wi]
   obtain ⟨e,T',S',q1,q2,q3,q4⟩:=ih (pre++[x]) ((jK hr).symm.trans hL) rfl (hK _ _ hS x1) rfl rfl rfl rfl (by simp [hl])
   refine ⟨e,T',S',q1,x1.trans q2,q3.trans g1,?_⟩
   rw [Bool.false_or]
   rw [show (((pre++[x]).length:Nat):Int)=(pre.length:Int)+1 by simp] at q4
   exact q4
theorem slices_IndexFunc.vC {k:Nat} (hv:Okl k l) (hk:k≠2) (hlen:l.length≤17592186044416) (hp:∀ S x,K S→x ∈ l→∃ S1,zV zi O g [wv x,c] S=some (.bool (p x),S1)∧Ext S S1∧S1.log=S.log) (hK:∀ S S1,K S→Ext S S1→K S1) {S:zx} (hS:K S) :
  ∃ S1,zV zi O slices_IndexFunc.id [vs fW 2 k l,.func (Fn.func g) #[] #[c]] S=some (.int .i64 (idxFrom p 0 l),S1)∧Ext S S1∧S1.log=S.log:=by
 obtain ⟨T,hTe⟩:∃ T,T=(vs fW 2 k l::.func (Fn.func g) #[] #[c]::zh::zh::zh::zh::zh::zh::zh::zh::zh::zh::zh::zh::zh::zh::zh::zh::zh::[]):=⟨_,rfl⟩
 have hr:zC zi O false slices_IndexFunc.code T S=zC zi O false slices_IndexFunc.code T S:=rfl
 have ln:=fun S=>Kr (P:=zi) (t:=58) (f:=fW) (e:=2) (S:=S) zU hv
 conv at hr =>
  rhs
  rw [hTe]
  simp only [slices_IndexFunc.code,slices_IndexFunc.rs,zSs,reduceIte,zk,zn,zo,zq,yC,if_neg hk,ln,goInt]
 generalize hL:wZ (zC zi O false slices_IndexFunc.jd) _ _=r at hr
 obtain ⟨e,T',S',rfl,x1,g1,q⟩:=slices_IndexFunc.adv hv hk hlen hp hK l [] hL rfl hS rfl rfl rfl rfl rfl
 cases h:l.any p with
 | true =>
  rw [h] at q
  obtain ⟨rfl,g2⟩:=q
  conv at hr =>
   rhs
   simp only [zSs,reduceIte,zk,zn,zo,zq]
  rw [hTe] at hr
  have hrun:=slices_IndexFunc.runs hr (.inr rfl)
  rw [g2] at hrun
  exact ⟨_,hrun,x1,g1⟩
 | false =>
  rw [h] at q
  obtain ⟨rfl,g2⟩:=q
  have hTe':=slices_IndexFunc.eta g2
  conv at hr =>
   rhs
   rw [hTe']
   simp only [slices_IndexFunc.code,slices_IndexFunc.rs,zSs,reduceIte,zk,zn,zo,zq]
  rw [hTe] at hr
  rw [xX h]
  exact ⟨_,slices_IndexFunc.runs hr (.inr rfl),x1,g1⟩
theorem xQ (S:zx):qL zi 64 S=some (.pointer (some ⟨S.next,0,none⟩),S.push (.cells [.int .i64 0,.int .i64 0] (.own []) 0)):=by kernel_rfl
theorem slices_DeleteFunc.round {r n:Nat} (hlen:n≤17592186044416) {fp0:List Nat} {S0:zx} (hp:∀ S x,K S→x ∈ l→∃ S1,zV zi O g [wv x,c] S=some (.bool (p x),S1)∧Ext S S1∧S1.log=S.log) (hc:kQ c=false) (hK:∀ S S1,K S→Fr fp0 S S1→K S1) :
  ∀ (suf kept mid:List jy) {T:List Value} {rr:St} {S:zx} {fp:List Nat},wZ (zC zi O true slices_DeleteFunc.jd) T S=rr→T.length=42→K S→Fr fp0 S0 S→(∀ x ∈ suf,x ∈ l) →
  T.getD 0 zh=.slice (some ⟨r,0,none⟩) n n→T.getD 1 zh=.func (Fn.func g) #[] #[c]→T.getD 5 zh=.int .i64 kept.length→T.getD 6 zh=.int .i64 (kept++mid).length→n=(kept++mid++suf).length→mid.length≠0 →
  qo fW 2 S (some ⟨r,0,none⟩) (kept++mid++suf) fp→(∀ x ∈ fp,x ∈ fp0) →
  ∃ T' S' mid' fp',rr=some (.exit 0,T',S')∧T'.length=42∧T'.getD 0 zh=.slice (some ⟨r,0,none⟩) n n∧T'.getD 5 zh=.int .i64 (kept++suf.filter fun x=>!p x).length∧n=((kept++suf.filter fun x=>!p x)++mid').length∧mid'.length≠0 ∧
   qo fW 2 S' (some ⟨r,0,none⟩) ((kept++suf.filter fun x=>!p x)++mid') fp'∧(∀ x ∈ fp',x ∈ fp0)∧Fr fp0 S0 S':=by
 intro suf
 induction suf with
 | nil =>
  intro kept mid T rr S fp hL hT hS hF hsl h0 h1 h5 h6 hn hm hA hfp
  have hTe:=slices_DeleteFunc.eta hT
  rw [h0,h1,h5,h6] at hTe
  have hr:zC zi O true slices_DeleteFunc.jd T S=zC zi O true slices_DeleteFunc.jd T S:=rfl
  have ln:=fun S=>ZV zU (some ⟨r,0,none⟩) n n S
  have hd:¬ ((kept++mid).length:Int) < (n:Int):=by rw [hn];simp
  conv at hr =>
   rhs
   rw [hTe]
   simp only [slices_DeleteFunc.jd,slices_DeleteFunc.code,slices_DeleteFunc.rs,zSs,reduceIte,zk,zn,zo,zq,yC,ln,goInt,hd]
  rw [List.append_nil] at hn hA
  refine ⟨_,_,mid,fp,hL.symm.trans (jA hr (by simp)),rfl,rfl,?_,?_,hm,?_,hfp,hF⟩
  ·
   rw [List.filter_nil,List.append_nil];rfl
  ·
   rw [List.filter_nil,List.append_nil];exact hn
  ·
   rw [List.filter_nil,List.append_nil];exact hA
 | cons x suf ih =>
  intro kept mid T rr S fp hL hT hS hF hsl h0 h1 h5 h6 hn hm hA hfp
  have hTe:=slices_DeleteFunc.eta hT
  rw [h0,h1,h5,h6] at hTe
  have hr:zC zi O true slices_DeleteFunc.jd T S=zC zi O true slices_DeleteFunc.jd T S:=rfl
  have ln:=fun S=>ZV zU (some ⟨r,0,none⟩) n n S
  have hd:((kept++mid).length:Int) < (n:Int):=by rw [hn];simp;omega
  have hnl:(kept++mid).length+1≤n:=by omega
  have ix:∀ S,zS zi 58 (.slice (some ⟨r,0,none⟩) n n) (.int .i64 (kept++mid).length) S=some (.pointer (some ⟨r,0+(kept++mid).length * 2,none⟩),S):=fun S=>by
   rw [W9 (o:=0) (n:=n) (c:=n) (q:=r) zU zY (by omega) hd,Int.toNat_natCast]
  have hA0:=hA
  rcases hA0 with ⟨h,_⟩ | ⟨r',anc,rest,ha,hfa,hg,hx⟩
  ·
   cases h
  simp only [Option.some.injEq,Addr.mk.injEq,and_true] at ha
  subst ha
  have l1:jf zi false 64 (.pointer (some ⟨r,0+(kept++mid).length * 2,none⟩)) S=some (wv x,S):=qo.load (P:=zi) (te:=64) (S:=S) qg zY qZ abo (x:=x) (pre:=kept++mid) (suf:=suf) hg
  obtain ⟨S1,n1,n2,n3,n4⟩:=ZM (P:=zi) (t:=64) (z:=[.int .i64 0,.int .i64 0]) (xs:=fW x) (x:=wv x) S rfl zY rfl rfl
  have al:=xQ S
  have l2:jf zi false 64 (.pointer (some ⟨S.next,0,none⟩)) S1=some (wv x,S1):=by
   have:=xJ n2
   exact this
  have hS1:K S1:=hK _ _ hS (Fr.ext n3)
  obtain ⟨S2,p1,x1,g1⟩:=hp S1 x hS1 (hsl x (by simp))
  have hS2:K S2:=hK _ _ hS1 (Fr.ext x1)
  have hA2:=(hA.ext n3).ext x1
  have hF2:Fr fp0 S0 S2:=(hF.trans (Fr.ext n3) (fp2:=[]) (fun x hx=>by cases hx)).trans (Fr.ext x1) (fp2:=[]) (fun x hx=>by cases hx)
  have l3:jf zi false 64 (.pointer (some ⟨S.next,0,none⟩)) S2=some (wv x,S2):=xJ ((x1.get _ n4).trans n2)
  have wj:IntKind.i64.wrap (((kept++mid).length:Int)+1)=((kept++mid).length:Int)+1:=wrap_i64 (by omega) (by omega)
  have dq:=Qn (hps:=O.hp) (g:=g) (v:=wv x) (c:=c) (S:=S1) rfl hc
  cases hpx:p x with
  | true =>
   rw [hpx] at p1
   conv at hr =>
    rhs
    rw [hTe]
    simp only [slices_DeleteFunc.jd,slices_DeleteFunc.code,slices_DeleteFunc.rs,zSs,reduceIte,zk,zn,zo,zq,yC,ln,goInt,hd,ix,l1,al,n1,l2,dq,p1,wj]
   have hs:=(jK hr).symm.trans hL
   obtain ⟨T',S',mid',fp',q1,q2,q3,q4,q5,q6,q7,q8,q9⟩:=ih kept (mid++[x]) hs rfl hS2 hF2 (fun y hy=>hsl y (by simp [hy])) rfl rfl rfl (by show Value.int .i64 _=Value.int .i64 _;congr 1;simp <;> omega) (by rw [hn];simp <;> omega) (by simp) (by simpa using hA2) hfp
   refine ⟨T',S',mid',fp',q1,q2,q3,?_,?_,q6,?_,q8,q9⟩
   ·
    rw [List.filter_cons_of_neg (by simp [hpx])];exact q4
   ·
    rw [List.filter_cons_of_neg (by simp [hpx])];exact q5
   ·
    rw [List.filter_cons_of_neg (by simp [hpx])];exact q7
  | false =>
   rw [hpx] at p1
   obtain ⟨m,mid2,rfl⟩:∃ m mid2,mid=m::mid2:=by
    cases mid with
    | nil=>simp at hm
    | cons m mid2=>exact ⟨m,mid2,rfl⟩
   have hA3:=hA2
   rcases hA3 with ⟨h,_⟩ | ⟨r',anc2,rest2,ha2,hfa2,hg2,hx2⟩
   ·
    cases h
   simp only [Option.some.injEq,Addr.mk.injEq,and_true] at ha2
   subst ha2
   have hk5:(kept.length:Int) < (n:Int):=by rw [hn];simp;omega
   have ix2:∀ S,zS zi 58 (.slice (some ⟨r,0,none⟩) n n) (.int .i64 kept.length) S=some (.pointer (some ⟨r,0+kept.length * 2,none⟩),S):=fun S=>by
    rw [W9 (o:=0) (n:=n) (c:=n) (q:=r) zU zY (by omega) hk5,Int.toNat_natCast]
   have hg3:S2.get r=some (.cells ((kept++m::(mid2++x::suf)).flatMap fW++rest2) (.own anc2) 2):=by rw [hg2];simp
   obtain ⟨S3,s1,s2,s3,s4,s5⟩:=qo.put (P:=zi) (te:=64) (S:=S2) zY qZ abR (by decide) (x:=m) (y:=x) (pre:=kept) (suf:=mid2++x::suf) hg3 (by rw [← hfa2];exact hx2)
   have wi:IntKind.i64.wrap ((kept.length:Int)+1)=(kept.length:Int)+1:=wrap_i64 (by omega) (by omega)
   have hs4:Fr fp0 S2 S3:=s4.more fun x hx=>.inl (hfp x (by rw [hfa2];exact hx))
   have hS3:K S3:=hK _ _ hS2 hs4
   have hF3:Fr fp0 S0 S3:=hF2.trans hs4 fun x hx=>.inl hx
   have hA4:qo fW 2 S3 (some ⟨r,0,none⟩) ((kept++[x])++(mid2++[x])++suf) [r]:=.inr ⟨r,[],rest2,rfl,rfl,by rw [s2];simp,fun y hy=>by
    rw [List.mem_singleton.1 hy]
    exact ⟨by rw [s3];exact (hx2 r (by rw [hfa2];simp)).1,s5⟩⟩
   have sm:yY zi 64 (.pointer (some ⟨r,0+kept.length * 2,none⟩)) (wv x) S2=some (zh,S3):=s1
   conv at hr =>
    rhs
    rw [hTe]
    simp only [slices_DeleteFunc.jd,slices_DeleteFunc.code,slices_DeleteFunc.rs,zSs,reduceIte,zk,zn,zo,zq,yC,ln,goInt,hd,ix,l1,al,n1,l2,dq,p1,wj,l3,ix2,sm,wi]
   have hs:=(jK hr).symm.trans hL
   obtain ⟨T',S',mid',fp',q1,q2,q3,q4,q5,q6,q7,q8,q9⟩:=ih (kept++[x]) (mid2++[x]) hs rfl hS3 hF3 (fun y hy=>hsl y (by simp [hy])) rfl rfl (by show Value.int .i64 _=Value.int .i64 _;congr 1;simp) (by show Value.int .i64 _=Value.int .i64 _;congr 1;simp <;> omega) (by rw [hn];simp <;> omega) (by simp) hA4 (fun y hy=>hfp y (by rw [hfa2];rw [List.mem_singleton.1 hy];simp))
   have hfl:(kept++(x::suf).filter fun x=>!p x)=(kept++[x])++suf.filter fun x=>!p x:=by
    rw [List.filter_cons_of_pos (by simp [hpx])];simp
   refine ⟨T',S',mid',fp',q1,q2,q3,?_,?_,q6,?_,q8,q9⟩
   ·
    rw [hfl];exact q4
   ·
    rw [hfl];exact q5
   ·
    rw [hfl];exact q7
theorem slices_DeleteFunc.v {a:Option Addr} {fp:List Nat} {S:zx} (hA:qo fW 2 S a l fp) (hlen:l.length≤17592186044416) (hp:∀ S x,K S→x ∈ l→∃ S1,zV zi O g [wv x,c] S=some (.bool (p x),S1)∧Ext S S1∧S1.log=S.log) (hc:kQ c=false) (hK:∀ S S1,K S→Fr fp S S1→K S1) (hS:K S) :
  ∃ a' S1 fp',zV zi O slices_DeleteFunc.id [.slice a l.length l.length,.func (Fn.func g) #[] #[c]] S=some (.slice a' (l.filter fun x=>!p x).length (l.filter fun x=>!p x).length,S1) ∧
   qo fW 2 S1 a' (l.filter fun x=>!p x) fp'∧(∀ x ∈ fp',x ∈ fp)∧Fr fp S S1:=by
 obtain ⟨T,hTe⟩:∃ T,T=(.slice a l.length l.length::.func (Fn.func g) #[] #[c]::zh::zh::zh::zh::zh::zh::zh::zh::zh::zh::zh::zh::zh::zh::zh::zh::zh::zh::zh::zh::zh::zh::zh::zh::zh::zh::zh::zh::zh::zh::zh::zh::zh::zh::zh::zh::zh::zh::zh::zh::[]):=⟨_,rfl⟩
 have hr:zC zi O true slices_DeleteFunc.code T S=zC zi O true slices_DeleteFunc.code T S:=rfl
 have hKE:∀ S S1,K S→Ext S S1→K S1:=fun S S1 h k=>hK S S1 h (Fr.ext k)
 cases hany:l.any p with
 | false =>
  have c1:kM (zV zi O) slices_IndexFunc.id [.slice a l.length l.length,.func (Fn.func g) #[] #[c]] S=some (.int .i64 (-1),S)∨∃ S1,kM (zV zi O) slices_IndexFunc.id [.slice a l.length l.length,.func (Fn.func g) #[] #[c]] S=some (.int .i64 (-1),S1)∧Ext S S1:=by
   rcases hA with ⟨rfl,rfl,rfl⟩ | ⟨r,anc,rest,rfl,rfl,hg,hx⟩
   ·
    obtain ⟨S1,q1,q2,q3⟩:=slices_IndexFunc.vC (l:=[]) (p:=p) (g:=g) (c:=c) (K:=K) (k:=0) Okl.none (by decide) (by simp) (fun S x h hx=>by cases hx) hKE hS
    exact .inr ⟨S1,abd q1 (by rfl),q2⟩
   ·
    left
    have hf:=YT (f:=fW) (e:=2) (q:=r) (l:=l) (rest:=rest) (anc:=anc) (S:=S) qZ hg
    obtain ⟨S1,q1,q2,q3⟩:=slices_IndexFunc.vC (k:=1) Okl.read (by decide) hlen hp hKE (hK S (S.set r .dead) hS ((Fr.refl _ _).set (.inl (by simp)) _))
    rw [xX hany] at q1
    exact Jz (YR hf (by rfl)) q1 (by rfl) rfl q3
  have fin:∀ S1,kM (zV zi O) slices_IndexFunc.id [.slice a l.length l.length,.func (Fn.func g) #[] #[c]] S=some (.int .i64 (-1),S1)→Ext S S1→∃ a' S1 fp',zV zi O slices_DeleteFunc.id [.slice a l.length l.length,.func (Fn.func g) #[] #[c]] S=some (.slice a' (l.filter fun x=>!p x).length (l.filter fun x=>!p x).length,S1) ∧
   qo fW 2 S1 a' (l.filter fun x=>!p x) fp'∧(∀ x ∈ fp',x ∈ fp)∧Fr fp S S1:=fun S1 c1 x1=>by
   have c1:kM (zV zi O) 27 [.slice a l.length l.length,.func (Fn.func g) #[] #[c]] S=some (.int .i64 (-1),S1):=c1
   conv at hr =>
    rhs
    rw [hTe]
    simp only [slices_DeleteFunc.code,slices_DeleteFunc.rs,zSs,reduceIte,zk,zn,zo,zq,yC,c1]
   rw [hTe] at hr
   rw [filter_none hany]
   exact ⟨a,S1,fp,slices_DeleteFunc.runs hr (.inr rfl),hA.ext x1,fun x hx=>hx,Fr.ext x1⟩
  rcases c1 with c1 | ⟨S1,c1,x1⟩
  ·
   exact fin S c1 (Ext.refl _)
  ·
   exact fin S1 c1 x1
 | true =>
  obtain ⟨pre,x,suf,hl,hpre,hpx,hidx⟩:=YH (i:=0) hany
  have hA1:=hA
  rcases hA1 with ⟨_,h,_⟩ | ⟨r,anc,rest,rfl,rfl,hg,hx⟩
  ·
   rw [h] at hany;cases hany
  have hf:=YT (f:=fW) (e:=2) (q:=r) (l:=l) (rest:=rest) (anc:=anc) (S:=S) qZ hg
  obtain ⟨S1,q1,q2,q3⟩:=slices_IndexFunc.vC (k:=1) Okl.read (by decide) hlen hp hKE (hK S (S.set r .dead) hS ((Fr.refl _ _).set (.inl (by simp)) _))
  rw [hidx,Int.zero_add] at q1
  have c1:kM (zV zi O) 27 [.slice (some ⟨r,0,none⟩) l.length l.length,.func (Fn.func g) #[] #[c]] S=some (.int .i64 pre.length,S):=Jz (YR hf (by rfl)) q1 (by rfl) rfl q3
  have hll:l.length=pre.length+1+suf.length:=by rw [hl];simp;omega
  have d1:((pre.length:Int)=-1)=False:=eq_false (by omega)
  have wi:IntKind.i64.wrap ((pre.length:Int)+1)=((pre++[x]).length:Int):=by rw [wrap_i64 (by omega) (by omega)];simp
  conv at hr =>
   rhs
   rw [hTe]
   simp only [slices_DeleteFunc.code,slices_DeleteFunc.rs,zSs,reduceIte,zk,zn,zo,zq,yC,c1,d1,wi]
  generalize hL:wZ (zC zi O true slices_DeleteFunc.jd) _ _=rr at hr
  obtain ⟨T',S',mid',fp',rfl,w2,w3,w4,w5,w6,w7,w8,w9⟩:=slices_DeleteFunc.round (l:=l) (p:=p) (g:=g) (c:=c) (K:=K) (r:=r) (n:=l.length) (fp0:=r::anc) (S0:=S) hlen hp hc hK suf pre [x] (fp:=r::anc) hL rfl hS (Fr.refl _ _) (fun y hy=>by rw [hl];simp [hy]) rfl rfl rfl rfl (by rw [hl];simp) (by simp) (by rw [List.append_assoc,List.singleton_append,← hl];exact hA) (fun y hy=>hy)
  have hfil:l.filter (fun x=>!p x)=pre++suf.filter fun x=>!p x:=by
   rw [hl,List.filter_append,filter_none hpre,List.filter_cons_of_neg (by simp [hpx])]
  rw [← hfil] at w4 w5 w7
  generalize hkp:(l.filter fun x=>!p x)=kept at *
  rcases w7 with ⟨h,_⟩ | ⟨r',anc2,rest2,ha2,hfa2,hg2,hx2⟩
  ·
   cases h
  simp only [Option.some.injEq,Addr.mk.injEq,and_true] at ha2
  subst ha2
  have hkn:kept.length+mid'.length=l.length:=by rw [w5];simp
  have sl:∀ S3,S3.get r=S'.get r→wR zi false 58 (.slice (some ⟨r,0,none⟩) l.length l.length) (some (.int .i64 kept.length)) none S3=some (.slice (some ⟨r,0+kept.length * 2,none⟩) mid'.length mid'.length,S3):=fun S3 h3=>by
   rw [Ye (P:=zi) (t:=58) (o:=0) (n:=l.length) (c:=l.length) (l:=kept.length) (h:=l.length) rfl (h3.trans hg2) zU zY rfl rfl (by omega) (by omega) (by omega)]
   simp only [Int.toNat_natCast]
   rw [show l.length - kept.length=mid'.length by omega]
  obtain ⟨S4,rest4,e1,e2,e3,e4,e5⟩:=qo.clear (P:=zi) (t:=58) (te:=64) (S:=S') zU zY Zh rfl rfl rfl (by decide) qZ (pre:=kept) (suf:=mid') hg2 w6 (by rw [← hfa2];exact hx2) mid'.length
  have sl2:wR zi false 58 (.slice (some ⟨r,0,none⟩) l.length l.length) none (some (.int .i64 kept.length)) S4=some (.slice (some ⟨r,0,none⟩) kept.length kept.length,S4):=by
   rw [Ye (P:=zi) (t:=58) (o:=0) (n:=l.length) (c:=l.length) (l:=0) (h:=kept.length) rfl e2 zU zY rfl rfl (by omega) (by omega) (by omega)]
   simp
  have hTe':=slices_DeleteFunc.eta w2
  rw [w3,w4] at hTe'
  have sl1:=sl S' rfl
  conv at hr =>
   rhs
   simp only [zSs,reduceIte,zk,zn,zo,zq]
   rw [hTe']
   simp only [slices_DeleteFunc.code,slices_DeleteFunc.rs,zSs,reduceIte,zk,zn,zo,zq,sl1,e1,sl2]
  rw [hTe] at hr
  refine ⟨some ⟨r,0,none⟩,S4,[r],slices_DeleteFunc.runs hr (.inr rfl),.inr ⟨r,[],rest4,rfl,rfl,e2,fun y hy=>by rw [List.mem_singleton.1 hy];exact ⟨by rw [e3];exact (hx2 r (by rw [hfa2];simp)).1,e5⟩⟩,fun y hy=>by rw [List.mem_singleton.1 hy];simp,w9.trans e4 fun y hy=>.inl (w8 y (by rw [hfa2];exact hy))⟩
end
end Go.Proofs.Ytpjglojnipjgfaa
namespace Go.Proofs.Ytpjglojnipjgfaa
open Go.Abs
abbrev zI.id:FuncId:=29
noncomputable def zI.code:Code:=(.seq (.region 0 (reg Try.f29 0) false) (.seq (.region 1 (reg Try.f29 1) false) Code.ret))
theorem zI.body:Try.f29.body=some zI.code:=by kernel_rfl
variable (b c d o p q z s t u i k l m n:Value) (S:zx)
theorem zI.r0 :jh zi ⟨false,false,false⟩ (zV zi O) (reg Try.f29 0) (reg Try.f29 0).toList ([b,c,d,o,p,q,z,s,t,u,i,k,l,m,n]) S =
  ( some ([b,c,d,o,p,q,Value.bool false,s,t,u,i,k,l,m,n],S)):=by
 kernel_rfl
theorem zI.r1 :jh zi ⟨false,false,false⟩ (zV zi O) (reg Try.f29 1) (reg Try.f29 1).toList ([b,c,d,o,p,q,z,s,t,u,i,k,l,m,n]) S =
  (zT (yj zi BinOp.geq 3 (dem b) (dem c) S) (fun f g=>gdK (dem f) true (ret b) g (fun w A=>gdK (dem f) true (ret d) A (fun x B=>gdK (dem f) true (yj zi BinOp.leq 3 (dem w) (dem x)) B (fun y C=>zT (vk (dem f) y (Value.bool false) C) (fun r D=>some ([b,c,d,o,p,q,r,dem b,dem c,f,dem f,dem w,dem x,y,dem r],D)) ()) ()) ()) ()) ()):=by
 refine sP Try.f29 1 0 (v:=b) ?_
 refine sP Try.f29 1 1 (v:=c) ?_
 refine sD Try.f29 1 2 (fun f g=>?_)
 refine sP Try.f29 1 3 (v:=f) ?_
 refine sG Try.f29 1 4 (j:=3) (fun w A=>?_)
 refine sG Try.f29 1 5 (j:=3) (fun x B=>?_)
 refine sG Try.f29 1 6 (j:=3) (fun y C=>?_)
 refine sD Try.f29 1 7 (fun r D=>?_)
 refine sP Try.f29 1 8 (v:=r) ?_
 kernel_rfl
theorem zI.rs:type_of% (aed @zI.r0 (@zI.r1)):=aed @zI.r0 (@zI.r1)
theorem zI.runs {b c d:Value} {S g:zx} {e:AEx} {T:List Value} (h:zC zi O false zI.code ([b,c,d,zh,zh,zh,zh,zh,zh,zh,zh,zh,zh,zh,zh]) S=some (e,T,g)) (he:e=.normal∨e=.ret):zV zi O 29 [b,c,d] S=some (T.getD 6 zh,g) :=
 jL rfl rfl Try.func29 (by decide) zI.body (by exact h) he (wL (a:=T.getD 6 zh) ((show zK zi T g Try.f29.results.toList=zK zi T g [(ResultVar.tmp 6)] from by kernel_rfl).trans (by simp only [zK])) (by kernel_rfl))
end Go.Proofs.Ytpjglojnipjgfaa
namespace Go.Proofs.Ytpjglojnipjgfaa
open Go.Abs
abbrev zN.id:FuncId:=25
noncomputable def zN.code:Code:=(.seq (.region 0 (reg Try.f25 0) false) (.seq (.region 1 (reg Try.f25 1) false) Code.ret))
theorem zN.body:Try.f25.body=some zN.code:=by kernel_rfl
variable (b g w k l m n o p q f:Value) (S:zx)
theorem zN.r0 :jh zi ⟨false,false,false⟩ (zV zi O) (reg Try.f25 0) (reg Try.f25 0).toList ([b,g,w,k,l,m,n,o,p,q,f]) S =
  ( some ([b,g,Value.bool false,k,l,m,n,o,p,q,f],S)):=by
 kernel_rfl
theorem zN.r1 :jh zi ⟨false,false,false⟩ (zV zi O) (reg Try.f25 1) (reg Try.f25 1).toList ([b,g,w,k,l,m,n,o,p,q,f]) S =
  (zT ((zV zi O) 29 [(dem (dem b)),(.int .i64 65536),(.int .i64 268435455)] S) (fun c d=>gdK (dem c) true (ret b) d (fun r x=>gdK (dem c) true (yj zi BinOp.rem 3 (dem r) (.int .i64 65536)) x (fun s y=>gdK (dem c) true (yj zi BinOp.quo 3 s (.int .i64 256)) y (fun t z=>gdK (dem c) true (yj zi BinOp.lss 3 t (.int .i64 7)) z (fun u A=>zT (vk (dem c) u (Value.bool false) A) (fun i B=>some ([b,g,i,dem b,c,dem c,dem r,s,t,u,dem i],B)) ()) ()) ()) ()) ()) ()):=by
 refine sP Try.f25 1 0 (v:=b) ?_
 refine sD Try.f25 1 1 (fun c d=>?_)
 refine sP Try.f25 1 2 (v:=c) ?_
 refine sG Try.f25 1 3 (j:=2) (fun r x=>?_)
 refine sG Try.f25 1 4 (j:=2) (fun s y=>?_)
 refine sG Try.f25 1 5 (j:=2) (fun t z=>?_)
 refine sG Try.f25 1 6 (j:=2) (fun u A=>?_)
 refine sD Try.f25 1 7 (fun i B=>?_)
 refine sP Try.f25 1 8 (v:=i) ?_
 kernel_rfl
theorem zN.rs:type_of% (aed @zN.r0 (@zN.r1)):=aed @zN.r0 (@zN.r1)
theorem zN.runs {b:Value} {S d:zx} {e:AEx} {T:List Value} (h:zC zi O false zN.code ([b,zh,zh,zh,zh,zh,zh,zh,zh,zh,zh]) S=some (e,T,d)) (he:e=.normal∨e=.ret):zV zi O 25 [b] S=some (T.getD 2 zh,d) :=
 jL rfl rfl Try.func25 (by decide) zN.body (by exact h) he (wL (a:=T.getD 2 zh) ((show zK zi T d Try.f25.results.toList=zK zi T d [(ResultVar.tmp 2)] from by kernel_rfl).trans (by simp only [zK])) (by kernel_rfl))
end Go.Proofs.Ytpjglojnipjgfaa
namespace Go.Proofs.Ytpjglojnipjgfaa
open Go.Abs
abbrev zM.id:FuncId:=19
noncomputable def zM.code:Code:=(.seq (.region 0 (reg Try.f19 0) false) (.seq (.seq (.region 1 (reg Try.f19 1) false) (.cond (.tmp 5) (.seq (.region 2 (reg Try.f19 2) false) Code.ret) Code.skip)) (.seq (.region 3 (reg Try.f19 3) false) Code.ret)))
theorem zM.body:Try.f19.body=some zM.code:=by kernel_rfl
variable (b c l f g i j k:Value) (S:zx)
theorem zM.r0 :jh zi ⟨false,false,false⟩ (zV zi O) (reg Try.f19 0) (reg Try.f19 0).toList ([b,c,l,f,g,i,j,k]) S =
  ( some ([b,c,.int .i64 0,f,g,i,j,k],S)):=by
 kernel_rfl
theorem zM.r1 :jh zi ⟨false,false,false⟩ (zV zi O) (reg Try.f19 1) (reg Try.f19 1).toList ([b,c,l,f,g,i,j,k]) S =
  (zT ((zV zi O) 25 [(dem (dem b))] S) (fun m d=>zT (aUn zi UnOp.not m d) (fun n o=>some ([b,c,l,dem b,m,n,j,k],o)) ()) ()):=by
 kernel_rfl
theorem zM.r2 :jh zi ⟨false,false,false⟩ (zV zi O) (reg Try.f19 2) (reg Try.f19 2).toList ([b,c,l,f,g,i,j,k]) S =
  ( some ([b,c,.int .i64 0,f,g,i,j,k],S)):=by
 kernel_rfl
theorem zM.r3 :jh zi ⟨false,false,false⟩ (zV zi O) (reg Try.f19 3) (reg Try.f19 3).toList ([b,c,l,f,g,i,j,k]) S =
  (zT (yj zi BinOp.quo 3 (dem b) (.int .i64 65536) S) (fun m d=>some ([b,c,m,f,g,i,dem b,dem m],d)) ()):=by
 kernel_rfl
theorem zM.rs:type_of% (aed @zM.r0 (aed @zM.r1 (aed @zM.r2 (@zM.r3)))):=aed @zM.r0 (aed @zM.r1 (aed @zM.r2 (@zM.r3)))
theorem zM.runs {b:Value} {S d:zx} {e:AEx} {T:List Value} (h:zC zi O false zM.code ([b,zh,zh,zh,zh,zh,zh,zh]) S=some (e,T,d)) (he:e=.normal∨e=.ret):zV zi O 19 [b] S=some (T.getD 2 zh,d) :=
 jL rfl rfl Try.func19 (by decide) zM.body (by exact h) he (wL (a:=T.getD 2 zh) ((show zK zi T d Try.f19.results.toList=zK zi T d [(ResultVar.tmp 2)] from by kernel_rfl).trans (by simp only [zK])) (by kernel_rfl))
end Go.Proofs.Ytpjglojnipjgfaa
namespace Go.Proofs.Ytpjglojnipjgfaa
open Go.Abs
def btw (n a b:Int):Bool:=decide (a≤n) && decide (n≤b)
theorem acH {n a b:Int}:btw n a b=true ↔ a≤n∧n≤b:=by simp [btw]
def JL (n:Int):Bool:=btw n 65536 268435455 && decide (n % 65536 / 256 < 7)
theorem V5 {n:Int}:JL n=true ↔ 65536≤n∧n≤268435455∧n % 65536 / 256 < 7:=by simp [JL,btw,and_assoc]
def QE (n:Int):Int:=if JL n=true then n / 65536 else 0
theorem WL {n m:Int} (h:0≤n):n.tmod m=n % m:=Int.tmod_eq_emod_of_nonneg h
theorem QH {n m:Int} (h:0≤n):n.tdiv m=n / m:=Int.tdiv_eq_ediv_of_nonneg h
theorem abZ:(65536:Int)≠0:=by decide
theorem aeb:(256:Int)≠0:=by decide
theorem zI.v (n a b:Int) (S:zx):zV zi O zI.id [.int .i64 n,.int .i64 a,.int .i64 b] S=some (.bool (btw n a b),S):=by
 obtain ⟨T,hTe⟩:∃ T,T=(.int .i64 n::.int .i64 a::.int .i64 b::zh::zh::zh::zh::zh::zh::zh::zh::zh::zh::zh::zh::[]):=⟨_,rfl⟩
 have hr:zC zi O false zI.code T S=zC zi O false zI.code T S:=rfl
 unfold btw
 by_cases h1:a≤n
 ·
  conv at hr =>
   rhs
   rw [hTe]
   simp only [zI.code,zI.rs,zSs,reduceIte,zk,zn,zo,zq,decide_eq_true h1]
  rw [decide_eq_true h1,Bool.true_and]
  rw [hTe] at hr
  exact zI.runs hr (.inr rfl)
 ·
  conv at hr =>
   rhs
   rw [hTe]
   simp only [zI.code,zI.rs,zSs,reduceIte,zk,zn,zo,zq,decide_eq_false h1]
  rw [decide_eq_false h1,Bool.false_and]
  rw [hTe] at hr
  exact zI.runs hr (.inr rfl)
theorem zN.v (n:Int) (S:zx):zV zi O zN.id [.int .i64 n] S=some (.bool (JL n),S):=by
 obtain ⟨T,hTe⟩:∃ T,T=(.int .i64 n::zh::zh::zh::zh::zh::zh::zh::zh::zh::zh::[]):=⟨_,rfl⟩
 have hr:zC zi O false zN.code T S=zC zi O false zN.code T S:=rfl
 unfold JL
 cases h1:btw n 65536 268435455
 ·
  conv at hr =>
   rhs
   rw [hTe]
   simp only [zN.code,zN.rs,zSs,reduceIte,zk,zn,zo,zq,zI.v,h1]
  rw [hTe] at hr
  exact zN.runs hr (.inr rfl)
 ·
  have hb:=acH.mp h1
  have q1:IntKind.i64.wrap ((n.tmod 65536).tdiv 256)=n % 65536 / 256:=by
   rw [WL (by omega),QH (by omega),wrap_i64 (by omega) (by omega)]
  conv at hr =>
   rhs
   rw [hTe]
   simp only [zN.code,zN.rs,zSs,reduceIte,zk,zn,zo,zq,zI.v,h1,Wi _ _ _ abZ,Ku _ _ _ aeb,q1]
  rw [hTe] at hr
  rw [Bool.true_and]
  exact zN.runs hr (.inr rfl)
theorem zM.v (n:Int) (S:zx):zV zi O zM.id [.int .i64 n] S=some (.int .i64 (QE n),S):=by
 obtain ⟨T,hTe⟩:∃ T,T=(.int .i64 n::zh::zh::zh::zh::zh::zh::zh::[]):=⟨_,rfl⟩
 have hr:zC zi O false zM.code T S=zC zi O false zM.code T S:=rfl
 unfold QE
 cases h1:JL n
 ·
  conv at hr =>
   rhs
   rw [hTe]
   simp only [zM.code,zM.rs,zSs,reduceIte,zk,zn,zo,zq,zN.v,h1]
  rw [hTe] at hr
  exact zM.runs hr (.inr rfl)
 ·
  have hb:=V5.mp h1
  have q1:IntKind.i64.wrap (n.tdiv 65536)=n / 65536:=by
   rw [QH (by omega),wrap_i64 (by omega) (by omega)]
  conv at hr =>
   rhs
   rw [hTe]
   simp only [zM.code,zM.rs,zSs,reduceIte,zk,zn,zo,zq,zN.v,h1,Ku _ _ _ abZ,q1]
  rw [hTe] at hr
  exact zM.runs hr (.inr rfl)
end Go.Proofs.Ytpjglojnipjgfaa
namespace Go.Proofs.Ytpjglojnipjgfaa
open Go.Abs
structure Ft (S:zx) (q:Nat) (me nodes:Int) (l:List jy) (fp:List Nat):Prop where
 lt:q < S.next
 len:l.length≤32
 cell:∃ a,S.get q=some (.cells [.int .i64 me,.int .i64 nodes,.slice a l.length l.length] (.own []) 0)∧qo fW 2 S a l fp
section
variable {S:zx} {q:Nat} {me nodes:Int} {l:List jy} {fp:List Nat}
theorem Ft.YM (h:Ft S q me nodes l fp):q ∉ fp:=by
 obtain ⟨a,h1,h2⟩:=h.cell
 exact h2.YM h1
theorem Ft.flt (h:Ft S q me nodes l fp):∀ x ∈ fp,x < S.next:=by
 obtain ⟨a,h1,h2⟩:=h.cell
 exact h2.lt
theorem Ft.ext {S1:zx} (h:Ft S q me nodes l fp) (k:Ext S S1):Ft S1 q me nodes l fp:=by
 obtain ⟨a,h1,h2⟩:=h.cell
 exact ⟨Nat.lt_of_lt_of_le h.lt k.next,h.len,a,by rw [k.get q h.lt];exact h1,h2.ext k⟩
def Ya (q:Nat) (S S1:zx):Prop:=S.next≤S1.next∧∀ p cs own,p≠q→p < S.next→S.get p=some (.cells cs own 0)→S1.get p=S.get p
theorem Ya.refl (q:Nat) (S:zx):Ya q S S:=⟨Nat.le_refl _,fun _ _ _ _ _ _=>rfl⟩
theorem Ya.trans {S1 S2:zx} (h:Ya q S S1) (k:Ya q S1 S2):Ya q S S2:=⟨Nat.le_trans h.1 k.1,fun p cs own hp hl hg=>by
 have h1:=h.2 p cs own hp hl hg
 rw [k.2 p cs own hp (Nat.lt_of_lt_of_le hl h.1) (h1.trans hg),h1]⟩
theorem Ya.ext {S1:zx} (h:Ext S S1):Ya q S S1:=⟨h.next,fun p _ _ _ hl _=>h.get p hl⟩
theorem Ft.stay {S1:zx} (h:Ft S q me nodes l fp) (k:Fr (q::fp) S S1):Ya q S S1:=⟨k.1,fun p cs own hp hl hg=>k.2 p hl (by
 obtain ⟨a,h1,h2⟩:=h.cell
 simp only [List.mem_cons,not_or]
 exact ⟨hp,h2.YM hg⟩)⟩
theorem ji.v (me nodes:Int) (S:zx):∃ S1,zV zi O ji.id [.int .i64 me,.int .i64 nodes] S=some (.pointer (some ⟨S.next,0,none⟩),S1)∧Ft S1 S.next me nodes [] []∧Ext S S1:=by
 obtain ⟨T,hTe⟩:∃ T,T=(.int .i64 me::.int .i64 nodes::zh::zh::zh::zh::zh::zh::zh::[]):=⟨_,rfl⟩
 have hr:zC zi O false ji.code T S=zC zi O false ji.code T S:=rfl
 have bd:=xP (y0:=.int .i64 me) (y1:=.int .i64 nodes) rfl rfl S
 obtain ⟨S1,b1,b2,b3,b4⟩:=abG (.agg [.int .i64 me,.int .i64 nodes,.slice none 0 0].toArray) S
 conv at hr =>
  rhs
  rw [hTe]
  simp only [ji.code,ji.rs,zSs,reduceIte,zk,zn,zo,zq,bd,b1]
 rw [hTe] at hr
 exact ⟨_,ji.runs hr (.inr rfl),⟨b4,by simp,none,b2,.inl ⟨rfl,rfl,rfl⟩⟩,b3⟩
theorem aaJ {k:Nat} {l:List Int} {x:Int} {S:zx} (h:Okl k l) (hk:k≠1) (hl:l.length≤17592186044000):qm zi 29 29 (iz k l) (sv 2 1 1 [.int .i64 x]) S=some (iz 2 (l++[x]),S):=by
 rw [adR];exact ab9 h hk hl
theorem zA.round {r:Nat} (hn:l.length≤32):∀ (suf pre:List jy) {T:List Value} {rr:St} {S:zx} {k:Nat},wZ (zC zi O false zA.jd) T S=rr→T.length=22 →
  T.getD 3 zh=iz k (pre.map (·.name))→T.getD 9 zh=.slice (some ⟨r,0,none⟩) l.length l.length→T.getD 10 zh=.int .i64 l.length→T.getD 11 zh=.int .i64 pre.length→l=pre++suf→Okl k (pre.map (·.name))→k≠1→qo fW 2 S (some ⟨r,0,none⟩) l fp →
  ∃ T' S' k',rr=some (.exit 0,T',S')∧T'.length=22∧T'.getD 3 zh=iz k' (l.map (·.name))∧Okl k' (l.map (·.name))∧k'≠1∧Ext S S':=by
 intro suf
 induction suf with
 | nil =>
  intro pre T rr S k hL hT h3 h9 h10 h11 hl hk k1 hA
  have hTe:=zA.eta hT
  rw [h3,h9,h10,h11] at hTe
  have hr:zC zi O false zA.jd T S=zC zi O false zA.jd T S:=rfl
  have hd:¬ (pre.length:Int) < (l.length:Int):=by rw [hl];simp
  conv at hr =>
   rhs
   rw [hTe]
   simp only [zA.jd,zA.code,zA.rs,zSs,reduceIte,zk,zn,zo,zq,hd]
  have hp:l=pre:=by rw [hl,List.append_nil]
  exact ⟨_,_,k,hL.symm.trans (jA hr (by simp)),rfl,by rw [hp];rfl,by rw [hp];exact hk,k1,Ext.refl _⟩
 | cons x suf ih =>
  intro pre T rr S k hL hT h3 h9 h10 h11 hl hk k1 hA
  have hTe:=zA.eta hT
  rw [h3,h9,h10,h11] at hTe
  have hr:zC zi O false zA.jd T S=zC zi O false zA.jd T S:=rfl
  have hd:(pre.length:Int) < (l.length:Int):=by rw [hl];simp;omega
  have ix:∀ S,zS zi 58 (.slice (some ⟨r,0,none⟩) l.length l.length) (.int .i64 pre.length) S=some (.pointer (some ⟨r,0+pre.length * 2,none⟩),S):=fun S=>by
   rw [W9 (o:=0) (n:=l.length) (c:=l.length) (q:=r) zU zY (by omega) hd,Int.toNat_natCast]
  have hA0:=hA
  rcases hA0 with ⟨h,_⟩ | ⟨r',anc,rest,ha,hfa,hg,hx⟩
  ·
   cases h
  simp only [Option.some.injEq,Addr.mk.injEq,and_true] at ha
  subst ha
  have l1:jf zi false 64 (.pointer (some ⟨r,0+pre.length * 2,none⟩)) S=some (wv x,S):=qo.load (P:=zi) (te:=64) (S:=S) qg zY qZ abo (x:=x) (pre:=pre) (suf:=suf) (by rw [← hl];exact hg)
  obtain ⟨S1,n1,n2,n3,n4⟩:=ZM (P:=zi) (t:=64) (z:=[.int .i64 0,.int .i64 0]) (xs:=fW x) (x:=wv x) S rfl zY rfl rfl
  have al:=xQ S
  have l2:jf zi false 3 (.pointer (some ⟨S.next,0+0,none⟩)) S1=some (.int .i64 x.name,S1):=yh (o:=0+0) n2 Zv rfl
  have hpl:pre.length≤l.length:=by rw [hl];simp
  have ap:=fun S=>aaJ (S:=S) (x:=x.name) hk k1 (by rw [List.length_map];omega)
  have wi:IntKind.i64.wrap ((pre.length:Int)+1)=((pre++[x]).length:Int):=by rw [wrap_i64 (by omega) (by omega)];simp
  conv at hr =>
   rhs
   rw [hTe]
   simp only [zA.jd,zA.code,zA.rs,zSs,reduceIte,zk,zn,zo,zq,hd,ix,l1,al,n1,yX,l2,Xm,ap,wi]
  have hs:=(jK hr).symm.trans hL
  obtain ⟨T',S',k',q1,q2,q3,q4,q5,q6⟩:=ih (pre++[x]) (k:=2) hs rfl (by rw [List.map_append];rfl) rfl rfl rfl (by rw [hl];simp) Okl.own (by decide) (hA.ext n3)
  exact ⟨T',S',k',q1,q2,q3,q4,q5,n3.trans q6⟩
theorem zA.v (h:Ft S q me nodes l fp):∃ k S1,zV zi O zA.id [.pointer (some ⟨q,0,none⟩)] S=some (iz k (l.map (·.name)),S1)∧Okl k (l.map (·.name))∧k≠1∧Ext S S1:=by
 obtain ⟨T,hTe⟩:∃ T,T=(.pointer (some ⟨q,0,none⟩)::zh::zh::zh::zh::zh::zh::zh::zh::zh::zh::zh::zh::zh::zh::zh::zh::zh::zh::zh::zh::zh::[]):=⟨_,rfl⟩
 have hr:zC zi O false zA.code T S=zC zi O false zA.code T S:=rfl
 obtain ⟨a,h1,h2⟩:=h.cell
 have l1:=Z4 (t:=58) (o:=0+2) h1 wU rfl
 have ln:=fun S=>ZV zU a l.length l.length S
 conv at hr =>
  rhs
  rw [hTe]
  simp only [zA.code,zA.rs,zSs,reduceIte,zk,zn,zo,zq,wI,jI,l1,ln,goInt]
 generalize hL:wZ (zC zi O false zA.jd) _ _=rr at hr
 have fin:∀ T' S' k',rr=some (.exit 0,T',S')→T'.length=22→T'.getD 3 zh=iz k' (l.map (·.name))→Okl k' (l.map (·.name))→k'≠1→Ext S S'→∃ k S1,zV zi O zA.id [.pointer (some ⟨q,0,none⟩)] S=some (iz k (l.map (·.name)),S1)∧Okl k (l.map (·.name))∧k≠1∧Ext S S1:=by
  intro T' S' k' e1 e2 e3 e4 e5 e6
  subst e1
  have hTe':=zA.eta e2
  rw [e3] at hTe'
  conv at hr =>
   rhs
   simp only [zSs,reduceIte,zk,zn,zo,zq]
   rw [hTe']
   simp only [zA.code,zA.rs,zSs,reduceIte,zk,zn,zo,zq]
  rw [hTe] at hr
  exact ⟨k',S',zA.runs hr (.inr rfl),e4,e5,e6⟩
 rcases h2 with ⟨rfl,rfl,rfl⟩ | ⟨r,anc,rest,rfl,rfl,k3,k4⟩
 ·
  generalize hT2:List.cons _ _=T2 at hL
  have hlen:T2.length=22:=by rw [← hT2];rfl
  have g3:T2.getD 3 zh=.slice none 0 0:=by rw [← hT2];rfl
  have g10:T2.getD 10 zh=.int .i64 0:=by rw [← hT2];rfl
  have g11:T2.getD 11 zh=.int .i64 0:=by rw [← hT2];rfl
  have hTe2:=zA.eta hlen
  rw [g3,g10,g11] at hTe2
  have hr2:zC zi O false zA.jd T2 S=zC zi O false zA.jd T2 S:=rfl
  have hd:¬ (0:Int) < (0:Int):=by decide
  conv at hr2 =>
   rhs
   rw [hTe2]
   simp only [zA.jd,zA.code,zA.rs,zSs,reduceIte,zk,zn,zo,zq,hd]
  exact fin _ _ 0 (hL.symm.trans (jA hr2 (by simp))) rfl rfl Okl.none (by decide) (Ext.refl _)
 ·
  obtain ⟨T',S',k',q1,q2,q3,q4,q5,q6⟩:=zA.round h.len l [] (k:=0) hL rfl rfl rfl rfl rfl rfl Okl.none (by decide) (.inr ⟨r,anc,rest,rfl,rfl,k3,k4⟩)
  exact fin T' S' k' q1 q2 q3 q4 q5 q6
def qO (l:List jy) (n:Int):Bool:=!decide (QE n=0) && !(l.any fun w=>decide (n=w.name)) && decide (l.length < 32)
def qY (l:List jy) (n:Int):List jy:=if qO l n then l++[⟨n,0⟩] else l
theorem Vt (l:List jy) (n:Int):((l.map (·.name)).any fun x=>decide (n=x))=l.any fun w=>decide (n=w.name):=by rw [List.any_map];rfl
theorem zB.v (h:Ft S q me nodes l fp) (n:Int):∃ S1 fp',zV zi O zB.id [.pointer (some ⟨q,0,none⟩),.int .i64 n] S=some (.bool (qO l n),S1) ∧
  Ft S1 q me nodes (qY l n) fp'∧(∀ x ∈ fp',x ∈ fp∨S.next≤x)∧Fr (q::fp) S S1:=by
 obtain ⟨T,hTe⟩:∃ T,T=(.pointer (some ⟨q,0,none⟩)::.int .i64 n::zh::zh::zh::zh::zh::zh::zh::zh::zh::zh::zh::zh::zh::zh::zh::zh::zh::zh::zh::zh::zh::zh::zh::zh::zh::zh::zh::zh::zh::zh::zh::[]):=⟨_,rfl⟩
 have hr:zC zi O true zB.code T S=zC zi O true zB.code T S:=rfl
 have c1:=fun S=>abd (zM.v n S) (by rfl)
 by_cases h0:QE n=0
 ·
  have hb:qO l n=false:=by simp [qO,h0]
  have d0:=decide_eq_true h0
  refine ⟨S,fp,?_,by unfold qY;rw [hb];exact h,fun x hx=>.inl hx,Fr.refl _ _⟩
  rw [hb]
  conv at hr =>
   rhs
   rw [hTe]
   simp only [zB.code,zB.rs,zSs,reduceIte,zk,zn,zo,zq,c1,d0]
  rw [hTe] at hr
  exact zB.runs hr (.inr rfl)
 ·
  have d0:=decide_eq_false h0
  obtain ⟨k,S1,w1,w2,w3,w4⟩:=zA.v h
  have c2:kM (zV zi O) 18 [.pointer (some ⟨q,0,none⟩)] S=some (iz k (l.map (·.name)),S1):=abd w1 (by rfl)
  have c3:∀ S,kM (zV zi O) 20 [iz (if k=2 then 1 else k) (l.map (·.name)),.int .i64 n] S=some (.bool (l.any fun w=>decide (n=w.name)),S):=fun S=>by
   rw [← Vt]
   exact abd (slices_Contains.v w2.dem (XZ k) (by rw [List.length_map];have:=h.len;omega) S) (by simp only [List.all_cons,List.all_nil,acN];rfl)
  have h1:=h.ext w4
  cases ha:l.any fun w=>decide (n=w.name) with
  | true =>
   have hb:qO l n=false:=by simp only [qO,ha,Bool.not_true,Bool.and_false,Bool.false_and]
   refine ⟨S1,fp,?_,by unfold qY;rw [hb];exact h1,fun x hx=>.inl hx,Fr.ext w4⟩
   rw [hb]
   rw [ha] at c3
   conv at hr =>
    rhs
    rw [hTe]
    simp only [zB.code,zB.rs,zSs,reduceIte,zk,zn,zo,zq,c1,d0,c2,c3]
   rw [hTe] at hr
   exact zB.runs hr (.inr rfl)
  | false =>
   rw [ha] at c3
   obtain ⟨a,g1,g2⟩:=h1.cell
   have l1:=Z4 (t:=58) (o:=0+2) g1 wU rfl
   have ln:=fun S=>ZV zU a l.length l.length S
   by_cases hl:l.length < 32
   ·
    have hb:qO l n=true:=by simp only [qO,ha,d0,Bool.not_false,Bool.true_and,decide_eq_true hl]
    have dl:¬ (32:Int)≤(l.length:Int):=by omega
    have bd:=ZO (y0:=.int .i64 n) rfl
    obtain ⟨S2,s1,s2,s3⟩:∃ S2,jl zi 58 1 [(0,wv ⟨n,0⟩)] S1=some (.slice (some ⟨S1.next,0,none⟩) 1 1,S2)∧S2.get S1.next=some (.cells (fW ⟨n,0⟩) (.own []) 2)∧S2=S1.push (.cells (fW ⟨n,0⟩) (.own []) 2) :=
     ⟨_,by kernel_rfl,by rw [zx.zQ,if_pos rfl],rfl⟩
    have x2:Ext S1 S2:=by rw [s3];exact Ext.push _ _
    have src:ZU zi 58 2 (.slice (some ⟨S1.next,0,none⟩) 1 1) S2=some (([⟨n,0⟩]:List jy).length,([⟨n,0⟩]:List jy).flatMap fW) :=
     (aah (o:=0) (m:=1) (e:=2) zU s2 (by show 2≤2;omega) (by rfl)).trans rfl
    obtain ⟨a',S3,fp',e1,e2,e3,e4⟩:=qo.append (P:=zi) (t:=58) (te:=64) (tx:=58) zU zY Zh rfl YL (by decide) qZ abR (g2.ext x2) src (by simp;omega) (by simp;omega)
    have hq3:S3.get q=some (.cells [.int .i64 me,.int .i64 nodes,.slice a l.length l.length] (.own []) 0):=by
     have hq1:q < S1.next:=h1.lt
     rw [e4.2 q (Nat.lt_of_lt_of_le hq1 x2.next) h1.YM,x2.get q hq1,g1]
    have st:=ku (P:=zi) (t:=58) (o:=0+2) (x:=.slice a' (l++[(⟨n,0⟩:jy)]).length (l++[(⟨n,0⟩:jy)]).length) hq3 kU rfl rfl (by simp)
    generalize hS4:(S3.kills []).set q _=S4 at st
    refine ⟨S4,fp',?_,⟨?_,?_,a',?_,?_⟩,fun x hx=>?_,?_⟩
    ·
     rw [hb]
     conv at hr =>
      rhs
      rw [hTe]
      simp only [zB.code,zB.rs,zSs,reduceIte,zk,zn,zo,zq,c1,d0,c2,c3,wI,jI,l1,ln,goInt,dl,bd,s1,e1,st]
     rw [hTe] at hr
     exact zB.runs hr (.inr rfl)
    ·
     have:=x2.next;have:=e4.1;have:=h1.lt
     subst hS4
     simp [zx.kills];omega
    ·
     unfold qY;rw [hb];simp;omega
    ·
     subst hS4;unfold qY;rw [hb,zx.jc,if_pos rfl];rfl
    ·
     have hq4:q ∉ fp':=e2.YM hq3
     subst hS4
     unfold qY;rw [hb]
     exact e2.keep (by simp [zx.kills]) fun x hx=>by rw [zx.jc,if_neg (fun e=>hq4 (by rw [← e];exact hx))];rfl
    ·
     rcases e3 x hx with hx | hx
     ·
      exact .inl hx
     ·
      exact .inr (by have:=w4.next;have:=x2.next;omega)
    ·
     have f1:Fr (q::fp) S S2:=(Fr.ext w4).trans (Fr.ext x2) (fp2:=[]) fun x hx=>by cases hx
     have f2:Fr (q::fp) S S3:=f1.trans e4 fun x hx=>.inl (by simp [hx])
     subst hS4
     exact f2.set (.inl (by simp)) _
   ·
    have hb:qO l n=false:=by simp only [qO,decide_eq_false hl,Bool.and_false]
    have dl:(32:Int)≤(l.length:Int):=by omega
    refine ⟨S1,fp,?_,by unfold qY;rw [hb];exact h1,fun x hx=>.inl hx,Fr.ext w4⟩
    rw [hb]
    conv at hr =>
     rhs
     rw [hTe]
     simp only [zB.code,zB.rs,zSs,reduceIte,zk,zn,zo,zq,c1,d0,c2,c3,wI,jI,l1,ln,goInt,dl]
    rw [hTe] at hr
    exact zB.runs hr (.inr rfl)
theorem zF.v {c:Nat} {n:Int} (x:jy) {S:zx} (hc:S.get c=some (.cells [.int .i64 n] (.own []) 0)) (hl:c < S.next):∃ S1,zV zi O zF.id [wv x,.pointer (some ⟨c,0,none⟩)] S=some (.bool (decide (x.name=n)),S1)∧Ext S S1∧S1.log=S.log:=by
 obtain ⟨T,hTe⟩:∃ T,T=(wv x::.pointer (some ⟨c,0,none⟩)::zh::zh::zh::zh::zh::zh::[]):=⟨_,rfl⟩
 have hr:zC zi O false zF.code T S=zC zi O false zF.code T S:=rfl
 have b1:Xp (wv x) S=some (.pointer (some ⟨S.next,0,none⟩),S.push (.cells (fW x) (.own []) 0)):=rfl
 have g1:(S.push (.cells (fW x) (.own []) 0)).get S.next=some (.cells (fW x) (.own []) 0):=by rw [zx.zQ,if_pos rfl]
 have g2:(S.push (.cells (fW x) (.own []) 0)).get c=some (.cells [.int .i64 n] (.own []) 0):=by rw [zx.zQ,if_neg (by omega)];exact hc
 have l1:jf zi false 3 (.pointer (some ⟨S.next,0+0,none⟩)) (S.push (.cells (fW x) (.own []) 0))=some (.int .i64 x.name,S.push (.cells (fW x) (.own []) 0)):=yh (o:=0+0) g1 Zv rfl
 have l2:jf zi false 3 (.pointer (some ⟨c,0,none⟩)) (S.push (.cells (fW x) (.own []) 0))=some (.int .i64 n,S.push (.cells (fW x) (.own []) 0)):=yh (o:=0) g2 Zv rfl
 refine ⟨S.push (.cells (fW x) (.own []) 0),?_,Ext.push _ _,rfl⟩
 ·
  conv at hr =>
   rhs
   rw [hTe]
   simp only [zF.code,zF.rs,zSs,reduceIte,zk,zn,zo,zq,b1,yX,l1,l2]
  rw [hTe] at hr
  exact zF.runs hr (.inr rfl)
def aau (l:List jy) (n:Int):List jy:=l.filter fun w=>!decide (w.name=n)
theorem zH.v (h:Ft S q me nodes l fp) (n:Int):∃ v S1 fp',zV zi O zH.id [.pointer (some ⟨q,0,none⟩),.int .i64 n] S=some (v,S1) ∧
  Ft S1 q me nodes (aau l n) fp'∧(∀ x ∈ fp',x ∈ fp∨S.next≤x)∧Fr (q::fp) S S1:=by
 obtain ⟨T,hTe⟩:∃ T,T=(.pointer (some ⟨q,0,none⟩)::.int .i64 n::zh::zh::zh::zh::zh::zh::zh::zh::zh::zh::zh::[]):=⟨_,rfl⟩
 have hr:zC zi O false zH.code T S=zC zi O false zH.code T S:=rfl
 obtain ⟨S0,b1,b2,b3,b4⟩:=abG (.int .i64 n) S
 have h0:=h.ext b3
 obtain ⟨a,h1,h2⟩:=h0.cell
 have l1:=Z4 (t:=58) (o:=0+2) h1 wU rfl
 have hcn:S.next ∉ fp:=fun hx=>by have:=h.flt _ hx;omega
 obtain ⟨a',S1,fp',e1,e2,e3,e4⟩:=slices_DeleteFunc.v (l:=l) (p:=fun w=>decide (w.name=n)) (g:=23) (c:=.pointer (some ⟨S.next,0,none⟩)) (K:=fun S1=>S1.get S.next=some (.cells [.int .i64 n] (.own []) 0)∧S.next < S1.next) h2 (by have:=h.len;omega)
  (fun S1 x hK _=>zF.v x hK.1 hK.2) rfl (fun S1 S2 hK hF=>⟨by rw [hF.2 _ hK.2 hcn];exact hK.1,Nat.lt_of_lt_of_le hK.2 hF.1⟩) ⟨b2,b4⟩
 have e1:zV zi O 22 [.slice a l.length l.length,.func (Fn.func 23) #[] #[.pointer (some ⟨S.next,0,none⟩)]] S0=some (.slice a' (aau l n).length (aau l n).length,S1):=e1
 have hq:S1.get q=some (.cells [.int .i64 me,.int .i64 nodes,.slice a l.length l.length] (.own []) 0):=by rw [e4.2 q h0.lt h0.YM,h1]
 have st:=ku (P:=zi) (t:=58) (o:=0+2) (x:=.slice a' (aau l n).length (aau l n).length) hq kU rfl rfl (by simp)
 conv at hr =>
  rhs
  rw [hTe]
  simp only [zH.code,zH.rs,zSs,reduceIte,zk,zn,zo,zq,b1,wI,jI,l1,xE,e1,st]
 rw [hTe] at hr
 have hq4:q ∉ fp':=fun hx=>h.YM (e3 q hx)
 refine ⟨_,_,fp',zH.runs hr (.inl rfl),⟨?_,?_,a',?_,?_⟩,fun x hx=>.inl (e3 x hx),?_⟩
 ·
  have:=h0.lt;have:=e4.1
  simp [zx.kills];omega
 ·
  exact Nat.le_trans (List.length_filter_le _ _) h.len
 ·
  rw [zx.jc,if_pos rfl];rfl
 ·
  exact e2.keep (by simp [zx.kills]) fun x hx=>by rw [zx.jc,if_neg (fun e=>hq4 (by rw [← e];exact hx))];rfl
 ·
  have f2:Fr (q::fp) S S1:=(Fr.ext b3).trans e4 fun x hx=>.inl (by simp [hx])
  exact f2.set (.inl (by simp)) _
end
end Go.Proofs.Ytpjglojnipjgfaa
namespace Go.Proofs.Ytpjglojnipjgfaa
open Go.Abs
structure Vp where
 to:Int
 frm:Int
 val:Int
def fA (x:Vp):List Value:=[.int .i64 x.to,.int .i64 2,.int .i64 x.frm,.int .i64 0,.int .i64 0,.int .i64 x.val,.int .i64 0,.int .i64 0,.int .i64 0,.int .i64 0,.int .i64 0,.int .i64 0,.int .i64 0,.slice none 0 0]
theorem adr (x:Vp):(fA x).length=14:=rfl
theorem adb (x:Vp):(fA x).all (·.oneCell')=true:=rfl
abbrev az (k:Nat) (l:List Vp):Value:=vs fA 14 k l
theorem ac3 (x:Vp) (S:zx):wE zi 26 1 [(0,.agg [Value.int .i64 x.to,.int .i64 2,.int .i64 x.frm,.int .i64 0,.int .i64 0,.int .i64 x.val,.int .i64 0,.int .i64 0,.int .i64 0,.int .i64 0,.int .i64 0,.int .i64 0,.int .i64 0,.slice none 0 0].toArray)] S=some (az 2 [x],S):=by kernel_rfl
theorem acj {k:Nat} {l:List Vp} {x:Vp} {S:zx} (h:Okl k l) (hk:k≠1) (hl:l.length≤1000000):qm zi 26 26 (az k l) (az 2 [x]) S=some (az 2 (l++[x]),S):=by
 rw [YF xu VH Vj rfl Vq (by decide) xu adr adb h hk Okl.own (by simp;omega) (by simp;omega),if_neg (fun h=>by have:=h.2;simp at this)]
def adI (me nodes asked:Int):Int:=(me+1+asked % (nodes - 1)) % nodes
def Yl (me nodes:Int) (w:jy):Vp:=⟨adI me nodes w.asked,me,w.name⟩
def aaT (w:jy):jy:=⟨w.name,w.asked+1⟩
def Jf (me nodes:Int) (l:List jy):List Vp:=if nodes < 2 then [] else (l.take 8).map (Yl me nodes)
def Zu (nodes:Int) (l:List jy):List jy:=if nodes < 2 then l else (l.take 8).map aaT++l.drop 8
theorem Y9 (nodes:Int) (l:List jy):(Zu nodes l).map (·.name)=l.map (·.name):=by
 unfold Zu
 split
 ·
  rfl
 ·
  rw [List.map_append,List.map_map,show ((·.name) ∘ aaT)=(·.name) from rfl,← List.map_append,List.take_append_drop]
section
variable {S:zx} {q:Nat} {me nodes:Int} {l:List jy} {fp:List Nat}
theorem Vl {x:jy} {pre suf:List jy} {rest:List Value} (j:Nat) (hj:j < 2):((pre++x::suf).flatMap fW++rest)[0+pre.length * 2+j]?=(fW x)[j]?:=by
 have h:=qo.abv (f:=fW) (e:=2) qZ (x:=x) (pre:=pre) (suf:=suf) (rest:=rest)
 have h2:=congrArg (·[j]?) h
 simp only [List.getElem?_take,if_pos hj,List.getElem?_drop] at h2
 exact h2
theorem aaW {r:Nat} {anc:List Nat} {x:jy} {pre suf:List jy} {rest:List Value} (n:Int) (hg:S.get r=some (.cells ((pre++x::suf).flatMap fW++rest) (.own anc) 2)) (hx:∀ k ∈ r::anc,k < S.next∧Many S k) :
  ∃ S1,yY zi 3 (.pointer (some ⟨r,0+pre.length * 2+1,none⟩)) (.int .i64 n) S=some (zh,S1)∧S1.get r=some (.cells ((pre++⟨x.name,n⟩::suf).flatMap fW++rest) (.own []) 2)∧S1.next=S.next∧Fr (r::anc) S S1∧Many S1 r:=by
 have e0:∀ y:jy,(pre++y::suf).flatMap fW++rest=(pre.flatMap fW++[.int .i64 y.name])++([.int .i64 y.asked]++(suf.flatMap fW++rest)):=fun y=>by
  rw [List.flatMap_append,List.flatMap_cons]
  simp [fW]
 have hs:splice ((pre++x::suf).flatMap fW++rest) (0+pre.length * 2+1) [.int .i64 n]=(pre++⟨x.name,n⟩::suf).flatMap fW++rest:=by
  rw [e0,e0]
  exact Za (B:=[Value.int .i64 x.asked]) (C:=[Value.int .i64 n]) (by rw [List.length_append,jr qZ];simp) (by rfl)
 have hle:0+pre.length * 2+1+1≤((pre++x::suf).flatMap fW++rest).length:=by
  rw [List.length_append,jr qZ,List.length_append,List.length_cons];omega
 have:=ku (P:=zi) (t:=3) (o:=0+pre.length * 2+1) (x:=.int .i64 n) hg aaB rfl rfl hle
 refine ⟨_,this,?_,by simp,((Fr.refl _ _).kills (fun k hk=>.inl (by simp [hk]))).set (.inl (by simp)) _,Zw (by decide) (Zc (hx r (by simp)).2)⟩
 rw [zx.jc,if_pos rfl]
 show some (wo.cells (splice _ _ [.int .i64 n]) _ _)=_
 rw [hs]
theorem zy.round {m:Nat} (hm0:0≤me∧me < nodes) (hn0:2≤nodes∧nodes≤7) (hnq:q ∉ fp) (hll:l.length≤32) (ha:∀ w ∈ l,0≤w.asked∧w.asked < 1099511627776) (hml:m≤l.length) {a:Option Addr} {S0:zx}:∀ (j:Nat) (pre suf:List jy) {T:List Value} {rr:St} {S:zx} {k:Nat} {fp1:List Nat},wZ (zC zi O false zy.jd) T S=rr→T.length=71 →
  T.getD 0 zh=.pointer (some ⟨q,0,none⟩)→T.getD 3 zh=az k (pre.map (Yl me nodes))→T.getD 12 zh=.int .i64 m→T.getD 13 zh=.int .i64 pre.length→l=pre++suf→pre.length+j=m→Okl k (pre.map (Yl me nodes))→k≠1 →
  S.get q=some (.cells [.int .i64 me,.int .i64 nodes,.slice a l.length l.length] (.own []) 0)→qo fW 2 S a (pre.map aaT++suf) fp1→(∀ x ∈ fp1,x ∈ fp)→Fr fp S0 S→q < S.next →
  ∃ T' S' k' fp',rr=some (.exit 0,T',S')∧T'.length=71∧T'.getD 3 zh=az k' ((l.take m).map (Yl me nodes))∧Okl k' ((l.take m).map (Yl me nodes))∧k'≠1 ∧
   S'.get q=some (.cells [.int .i64 me,.int .i64 nodes,.slice a l.length l.length] (.own []) 0)∧qo fW 2 S' a ((l.take m).map aaT++l.drop m) fp'∧(∀ x ∈ fp',x ∈ fp)∧Fr fp S0 S'∧q < S'.next:=by
 intro j
 induction j with
 | zero =>
  intro pre suf T rr S k fp1 hL hT h0 h3 h12 h13 hl hj hk k1 hq hA hfp hF hlt
  have hTe:=zy.eta hT
  rw [h0,h3,h12,h13] at hTe
  have hr:zC zi O false zy.jd T S=zC zi O false zy.jd T S:=rfl
  have hd:¬ (pre.length:Int) < (m:Int):=by omega
  conv at hr =>
   rhs
   rw [hTe]
   simp only [zy.jd,zy.code,zy.rs,zSs,reduceIte,zk,zn,zo,zq,hd]
  have hp:l.take m=pre:=by rw [hl,← hj,Nat.add_zero,List.take_left]
  have hp2:l.drop m=suf:=by rw [hl,← hj,Nat.add_zero,List.drop_left]
  exact ⟨_,_,k,fp1,hL.symm.trans (jA hr (by simp)),rfl,by rw [hp];rfl,by rw [hp];exact hk,k1,hq,by rw [hp,hp2];exact hA,hfp,hF,hlt⟩
 | succ j ih =>
  intro pre suf T rr S k fp1 hL hT h0 h3 h12 h13 hl hj hk k1 hq hA hfp hF hlt
  have hTe:=zy.eta hT
  rw [h0,h3,h12,h13] at hTe
  have hr:zC zi O false zy.jd T S=zC zi O false zy.jd T S:=rfl
  have hd:(pre.length:Int) < (m:Int):=by omega
  obtain ⟨x,suf,rfl⟩:∃ x s,suf=x::s:=by
   cases suf with
   | nil=>rw [hl,List.append_nil] at hml;omega
   | cons x s=>exact ⟨x,s,rfl⟩
  have hin:(pre.length:Int) < (l.length:Int):=by omega
  have hA0:=hA
  rcases hA0 with ⟨_,h,_⟩ | ⟨r,anc,rest,ha2,hfa,hg,hx⟩
  ·
   simp at h
  subst ha2
  have ax:=ha x (by rw [hl];simp)
  have l0:=yh (t:=3) (o:=0+0) hq Zv rfl
  have l1:=yh (t:=3) (o:=0+1) hq Zv rfl
  have l2:=Z4 (t:=58) (o:=0+2) hq wU rfl
  have d2:¬ nodes < 2:=by omega
  have ix:∀ S,zS zi 58 (.slice (some ⟨r,0,none⟩) l.length l.length) (.int .i64 pre.length) S=some (.pointer (some ⟨r,0+pre.length * 2,none⟩),S):=fun S=>by
   rw [W9 (o:=0) (n:=l.length) (c:=l.length) (q:=r) zU zY (by omega) hin,Int.toNat_natCast]
  have lpre:(pre.map aaT).length=pre.length:=by simp
  have la:jf zi false 3 (.pointer (some ⟨r,0+pre.length * 2+1,none⟩)) S=some (.int .i64 x.asked,S):=yh hg Zv (by
   have:=Vl (x:=x) (pre:=pre.map aaT) (suf:=suf) (rest:=rest) 1 (by decide)
   rw [lpre] at this
   rw [this];rfl)
  obtain ⟨S1,s1,s2,s3,s4,s5⟩:=aaW (x.asked+1) hg (by rw [← hfa];exact hx)
  rw [lpre] at s1
  have hq1:S1.get q=some (.cells [.int .i64 me,.int .i64 nodes,.slice (some ⟨r,0,none⟩) l.length l.length] (.own []) 0):=by
   rw [s4.2 q hlt (fun h=>hnq (hfp q (by rw [hfa];exact h))),hq]
  have m0:=yh (t:=3) (o:=0+0) hq1 Zv rfl
  have ln1:jf zi false 3 (.pointer (some ⟨r,0+pre.length * 2+0,none⟩)) S1=some (.int .i64 x.name,S1):=yh s2 Zv (by
   have:=Vl (x:=⟨x.name,x.asked+1⟩) (pre:=pre.map aaT) (suf:=suf) (rest:=rest) 0 (by decide)
   rw [lpre] at this
   rw [this];rfl)
  have hne:nodes - 1≠0:=by omega
  have hne2:nodes≠0:=by omega
  have w1:IntKind.i64.wrap (me+1)=me+1:=wrap_i64 (by omega) (by omega)
  have w2:IntKind.i64.wrap (nodes - 1)=nodes - 1:=wrap_i64 (by omega) (by omega)
  have hmod:=Int.emod_nonneg x.asked hne
  have hmod2:=Int.emod_lt_of_pos x.asked (show 0 < nodes - 1 by omega)
  have t1:x.asked.tmod (nodes - 1)=x.asked % (nodes - 1):=WL ax.1
  have w3:IntKind.i64.wrap (me+1+x.asked % (nodes - 1))=me+1+x.asked % (nodes - 1):=wrap_i64 (by omega) (by omega)
  have t2:(me+1+x.asked % (nodes - 1)).tmod nodes=adI me nodes x.asked:=WL (by omega)
  have w4:IntKind.i64.wrap (x.asked+1)=x.asked+1:=wrap_i64 (by omega) (by omega)
  have wi:IntKind.i64.wrap ((pre.length:Int)+1)=((pre++[x]).length:Int):=by rw [wrap_i64 (by omega) (by omega)];simp
  have bm:=fun S=>Zr (y0:=.int .i64 2) (y1:=.int .i64 me) (y4:=.int .i64 x.name) rfl rfl rfl S
  have ba:=fun (y0:Value) {y1 y2 y3 y4 y5 y6 y7 y8 y9 y10 y11 y12 y13:Value} (h:y0.cells=#[y0]) S=>kY (y0:=y0) (y1_0:=y1) (y1_1:=y2) (y1_2:=y3) (y1_3:=y4) (y1_4:=y5) (y1_5:=y6) (y1_6:=y7) (y1_7:=y8) (y1_8:=y9) (y1_9:=y10) (y1_10:=y11) (y1_11:=y12) (y1_12:=y13) h S
  have ba:=fun S=>kY (y0:=.int .i64 (adI me nodes x.asked)) (y1_0:=.int .i64 2) (y1_1:=.int .i64 me) (y1_2:=.int .i64 0) (y1_3:=.int .i64 0) (y1_4:=.int .i64 x.name) (y1_5:=.int .i64 0) (y1_6:=.int .i64 0) (y1_7:=.int .i64 0) (y1_8:=.int .i64 0) (y1_9:=.int .i64 0) (y1_10:=.int .i64 0) (y1_11:=.int .i64 0) (y1_12:=.slice none 0 0) rfl S
  have bs:=ac3 (Yl me nodes x)
  have bs:∀ S,wE zi 26 1 [(0,.agg [Value.int .i64 (adI me nodes x.asked),.int .i64 2,.int .i64 me,.int .i64 0,.int .i64 0,.int .i64 x.name,.int .i64 0,.int .i64 0,.int .i64 0,.int .i64 0,.int .i64 0,.int .i64 0,.int .i64 0,.slice none 0 0].toArray)] S=some (az 2 [Yl me nodes x],S):=bs
  have ap:=fun S=>acj (S:=S) (x:=Yl me nodes x) hk k1 (by rw [List.length_map];omega)
  conv at hr =>
   rhs
   rw [hTe]
   simp only [zy.jd,zy.code,zy.rs,zSs,reduceIte,zk,zn,zo,zq,hd,wI,Zq,qK,jI,l0,l1,l2,d2,ix,ZC,yX,la,w1,w2,w3,Wi _ _ _ hne,Wi _ _ _ hne2,t1,t2,w4,s1,m0,ln1,bm,ba,bs,ap,wi]
  have hs:=(jK hr).symm.trans hL
  have hA1:qo fW 2 S1 (some ⟨r,0,none⟩) ((pre++[x]).map aaT++suf) [r]:=.inr ⟨r,[],rest,rfl,rfl,by rw [s2];simp [aaT],fun y hy=>by
   rw [List.mem_singleton.1 hy]
   exact ⟨by rw [s3];exact (hx r (by rw [hfa];simp)).1,s5⟩⟩
  exact ih (pre++[x]) suf (k:=2) hs rfl rfl (by rw [List.map_append];rfl) rfl rfl (by rw [hl];simp) (by simp;omega) Okl.own (by decide) hq1 hA1 (fun y hy=>hfp y (by rw [hfa,List.mem_singleton.1 hy];simp)) (hF.trans s4 fun y hy=>.inl (hfp y (by rw [hfa];exact hy))) (by rw [s3];exact hlt)
theorem zy.v (h:Ft S q me nodes l fp) (hm0:0≤me∧me < nodes) (hn0:nodes≤7) (ha:∀ w ∈ l,0≤w.asked∧w.asked < 1099511627776):∃ k S1 fp',zV zi O zy.id [.pointer (some ⟨q,0,none⟩)] S=some (az k (Jf me nodes l),S1)∧Okl k (Jf me nodes l)∧k≠1 ∧
  Ft S1 q me nodes (Zu nodes l) fp'∧(∀ x ∈ fp',x ∈ fp)∧Fr fp S S1:=by
 obtain ⟨T,hTe⟩:∃ T,T=(.pointer (some ⟨q,0,none⟩)::zh::zh::zh::zh::zh::zh::zh::zh::zh::zh::zh::zh::zh::zh::zh::zh::zh::zh::zh::zh::zh::zh::zh::zh::zh::zh::zh::zh::zh::zh::zh::zh::zh::zh::zh::zh::zh::zh::zh::zh::zh::zh::zh::zh::zh::zh::zh::zh::zh::zh::zh::zh::zh::zh::zh::zh::zh::zh::zh::zh::zh::zh::zh::zh::zh::zh::zh::zh::zh::zh::[]):=⟨_,rfl⟩
 have hr:zC zi O false zy.code T S=zC zi O false zy.code T S:=rfl
 obtain ⟨a,h1,h2⟩:=h.cell
 have l2:=Z4 (t:=58) (o:=0+2) h1 wU rfl
 have ln:=fun S=>ZV zU a l.length l.length S
 have mn:(if (8:Int) < (l.length:Int) then (8:Int) else l.length)=((min 8 l.length:Nat):Int):=by split <;> omega
 conv at hr =>
  rhs
  rw [hTe]
  simp only [zy.code,zy.rs,zSs,reduceIte,zk,zn,zo,zq,wI,jI,l2,ln,goInt,aec,mn]
 generalize hL:wZ (zC zi O false zy.jd) _ _=rr at hr
 have fin:∀ T' S' k' fp' l1 l2,rr=some (.exit 0,T',S')→T'.length=71→T'.getD 3 zh=az k' l1→l1=Jf me nodes l→l2=Zu nodes l→Okl k' l1→k'≠1→S'.get q=some (.cells [.int .i64 me,.int .i64 nodes,.slice a l.length l.length] (.own []) 0)→qo fW 2 S' a l2 fp'→l2.length=l.length→(∀ x ∈ fp',x ∈ fp)→Fr fp S S'→q < S'.next →
   ∃ k S1 fp',zV zi O zy.id [.pointer (some ⟨q,0,none⟩)] S=some (az k (Jf me nodes l),S1)∧Okl k (Jf me nodes l)∧k≠1∧Ft S1 q me nodes (Zu nodes l) fp'∧(∀ x ∈ fp',x ∈ fp)∧Fr fp S S1:=by
  intro T' S' k' fp' l1 l2 e1 e2 e3 e4 e5 e6 e7 e8 e9 e10 e11 e12 e13
  subst e1
  have hTe':=zy.eta e2
  rw [e3] at hTe'
  conv at hr =>
   rhs
   simp only [zSs,reduceIte,zk,zn,zo,zq]
   rw [hTe']
   simp only [zy.code,zy.rs,zSs,reduceIte,zk,zn,zo,zq]
  rw [hTe] at hr
  subst e4 e5
  exact ⟨k',S',fp',zy.runs hr (.inr rfl),e6,e7,⟨e13,by rw [e10];exact h.len,a,by rw [e10];exact e8,e9⟩,e11,e12⟩
 by_cases hn:nodes < 2
 ·
  have ta:Jf me nodes l=[]:=by rw [Jf,if_pos hn]
  have tl:Zu nodes l=l:=by rw [Zu,if_pos hn]
  generalize hT2:List.cons _ _=T2 at hL
  have hlen:T2.length=71:=by rw [← hT2];rfl
  have g0:T2.getD 0 zh=.pointer (some ⟨q,0,none⟩):=by rw [← hT2];rfl
  have g3:T2.getD 3 zh=.slice none 0 0:=by rw [← hT2];rfl
  have g12:T2.getD 12 zh=.int .i64 (min 8 l.length:Nat):=by rw [← hT2];rfl
  have g13:T2.getD 13 zh=.int .i64 0:=by rw [← hT2];rfl
  have hTe2:=zy.eta hlen
  rw [g0,g3,g12,g13] at hTe2
  have hr2:zC zi O false zy.jd T2 S=zC zi O false zy.jd T2 S:=rfl
  have l1:=yh (t:=3) (o:=0+1) h1 Zv rfl
  by_cases h0:(0:Int) < ((min 8 l.length:Nat):Int)
  ·
   conv at hr2 =>
    rhs
    rw [hTe2]
    simp only [zy.jd,zy.code,zy.rs,zSs,reduceIte,zk,zn,zo,zq,h0,wI,qK,l1,hn]
   exact fin _ _ 0 fp [] l (hL.symm.trans (jA hr2 (by simp))) rfl rfl ta.symm tl.symm Okl.none (by decide) h1 h2 rfl (fun x hx=>hx) (Fr.refl _ _) h.lt
  ·
   conv at hr2 =>
    rhs
    rw [hTe2]
    simp only [zy.jd,zy.code,zy.rs,zSs,reduceIte,zk,zn,zo,zq,h0]
   exact fin _ _ 0 fp [] l (hL.symm.trans (jA hr2 (by simp))) rfl rfl ta.symm tl.symm Okl.none (by decide) h1 h2 rfl (fun x hx=>hx) (Fr.refl _ _) h.lt
 ·
  obtain ⟨T',S',k',fp',q1,q2,q3,q4,q5,q6,q7,q8,q9,q10⟩:=zy.round (m:=min 8 l.length) (q:=q) (me:=me) (nodes:=nodes) (l:=l) (fp:=fp) (a:=a) (S0:=S) hm0 ⟨by omega,hn0⟩ h.YM h.len ha (by omega) (min 8 l.length) [] l (k:=0) (fp1:=fp) hL rfl rfl rfl rfl rfl rfl (by simp) Okl.none (by decide) h1 (by simpa using h2) (fun x hx=>hx) (Fr.refl _ _) h.lt
  have et:l.take (min 8 l.length)=l.take 8:=by
   by_cases h8:l.length≤8
   ·
    rw [List.take_of_length_le (by omega),List.take_of_length_le h8]
   ·
    rw [Nat.min_eq_left (by omega)]
  have ed:l.drop (min 8 l.length)=l.drop 8:=by
   by_cases h8:l.length≤8
   ·
    rw [List.drop_eq_nil_of_le (by omega),List.drop_eq_nil_of_le h8]
   ·
    rw [Nat.min_eq_left (by omega)]
  rw [et] at q3 q4 q7
  rw [ed] at q7
  exact fin T' S' k' fp' _ _ q1 q2 q3 (by rw [Jf,if_neg hn]) (by rw [Zu,if_neg hn]) q4 q5 q6 q7 (by simp;omega) q8 q9 q10
end
end Go.Proofs.Ytpjglojnipjgfaa
namespace Go.Proofs.Ytpjglojnipjgfaa
open Go.Abs
structure ad9 (kn ka:Nat) (l:List jy):Prop where
 n:Okl kn (l.map (·.name))
 a:Okl ka (l.map (·.asked))
 n2:kn≠2
 a2:ka≠2
theorem ad9.read {l:List jy}:ad9 1 1 l:=⟨Okl.read,Okl.read,by decide,by decide⟩
section
variable {S:zx} {me nodes:Int} {l:List jy} {kn ka q e:Nat} {own:Own}
end
end Go.Proofs.Ytpjglojnipjgfaa
namespace Go.Proofs.Ytpjglojnipjgfaa
open Go.Abs
theorem qp.v (S:zx):zV zi O 8 [] S=some (.bool true,S):=abh (n:=20) (by kernel_rfl)
section
variable {l:List Vp}
end
end Go.Proofs.Ytpjglojnipjgfaa
namespace Go.Proofs.Ytpjglojnipjgfaa
open Go.Abs
theorem adl {k:Nat} {l:List Vp} (hk:Okl k l) (S:zx):xk zi 26 (az k l) S=some (goInt l.length,S):=Kr (P:=zi) (t:=26) (f:=fA) (e:=14) (S:=S) xu hk
theorem aad {nodes:Int} {l:List jy} {w:jy} (h:w ∈ Zu nodes l) {B:Int} (hl:∀ x ∈ l,0≤x.asked∧x.asked≤B):0≤w.asked∧w.asked≤B+1:=by
 unfold Zu at h
 split at h
 ·
  have:=hl w h;omega
 ·
  rcases List.mem_append.1 h with h | h
  ·
   rw [List.mem_map] at h
   obtain ⟨x,hx,rfl⟩:=h
   have:=hl x (List.mem_of_mem_take hx)
   show 0≤x.asked+1∧x.asked+1≤B+1
   omega
  ·
   have:=hl w (List.mem_of_mem_drop h);omega
end Go.Proofs.Ytpjglojnipjgfaa
namespace Go.Proofs.Ytpjglojnipjgfaa
open Go.Abs
structure DoV where
 kind:Int
 name:Int
def fD (x:DoV):List Value:=[.int .i64 x.kind,.int .i64 x.name]
theorem abw (x:DoV):(fD x).length=2:=rfl
abbrev dv (x:DoV):Value:=.agg [Value.int .i64 x.kind,.int .i64 x.name].toArray
abbrev tDo:Ty:=.pair (.int .i64) (.pair (.int .i64) .unit)
theorem adU (x:tDo.Val) (hg:tDo.Good x):∃ y:DoV,tDo.Zx x=fD y∧y.name < 9223372036854775808:=by
 obtain ⟨a,b,u⟩:=x
 obtain ⟨h1,h2,_⟩:=hg
 exact ⟨⟨a,b⟩,rfl,(adu h2).2⟩
theorem acd (x:(Ty.slc 16 tDo).Val) (hg:(Ty.slc 16 tDo).Good x):∃ k l,Okl k l∧k≠2∧(Ty.slc 16 tDo).Zx x=[vs fD 2 k l]∧l.length * 16≤140737488351232∧∀ y ∈ l,DoV.name y < 9223372036854775808:=ac1 fD (fun y=>y.name < 9223372036854775808) adU abw x hg
section
variable {k:Nat} {l pre suf:List DoV} {x:DoV}
theorem adM (hk:Okl k l) (hl:l=pre++x::suf) (S:zx):zS zi 28 (vs fD 2 k l) (.int .i64 pre.length) S=some (EP [.int .i64 x.kind,.int .i64 x.name],S):=by
 rw [acg yH wY abw hk (by omega) (by rw [hl];simp;omega),abQ hl];rfl
theorem ac6 (hk:Okl k l) (S:zx):xk zi 28 (vs fD 2 k l) S=some (goInt l.length,S):=Kr (P:=zi) (t:=28) (f:=fD) (e:=2) (S:=S) yH hk
end
theorem adP (S:zx):qL zi 33 S=some (.pointer (some ⟨S.next,0,none⟩),S.push (.cells [.int .i64 0,.int .i64 0] (.own []) 0)):=by kernel_rfl
theorem adt (x:DoV) (S:zx):∃ S2,yY zi 33 (.pointer (some ⟨S.next,0,none⟩)) (dv x) (S.push (.cells [.int .i64 0,.int .i64 0] (.own []) 0))=some (zh,S2)∧S2.get S.next=some (.cells (fD x) (.own []) 0)∧Ext S S2∧S.next < S2.next :=
 ZM (P:=zi) (t:=33) (z:=[.int .i64 0,.int .i64 0]) (xs:=fD x) (x:=dv x) S rfl wY rfl rfl
theorem Y0 {q:Nat} {x:DoV} {S:zx} (h:S.get q=some (.cells (fD x) (.own []) 0)):jf zi false 3 (.pointer (some ⟨q,0+0,none⟩)) S=some (.int .i64 x.kind,S):=yh (o:=0+0) h Zv rfl
theorem VB {q:Nat} {x:DoV} {S:zx} (h:S.get q=some (.cells (fD x) (.own []) 0)):jf zi false 3 (.pointer (some ⟨q,0+1,none⟩)) S=some (.int .i64 x.name,S):=yh (o:=0+1) h Zv rfl
abbrev Once (l:List jy):Prop:=(l.map (·.name)).Nodup
theorem Vs {l:List jy} (h:Once l) (n:Int):Once (qY l n):=by
 unfold qY
 cases hb:qO l n with
 | false=>exact h
 | true =>
  rw [if_pos rfl]
  have h2:(l.any fun w=>decide (n=w.name))=false:=by
   unfold qO at hb
   rw [Bool.and_eq_true,Bool.and_eq_true] at hb
   simpa using hb.1.2
  unfold Once
  rw [List.map_append,List.nodup_append]
  refine ⟨h,by simp,?_⟩
  intro a ha b hb2
  rw [List.mem_map] at ha
  obtain ⟨w,hw,rfl⟩:=ha
  rw [List.any_eq_false] at h2
  have:=h2 w hw
  simp at hb2
  subst hb2
  intro he
  exact this (by rw [he];simp)
theorem aaA {l:List jy} (h:Once l) (n:Int):Once (aau l n):=by
 unfold Once aau
 exact List.Sublist.nodup (List.Sublist.map _ List.filter_sublist) h
theorem aan {nodes:Int} {l:List jy} (h:Once l):Once (Zu nodes l):=by unfold Once;rw [Y9];exact h
theorem aaK (l:List jy) (n:Int):decide ((qY l n).length=l.length+1)=qO l n:=by
 unfold qY
 cases qO l n with
 | false=>simp
 | true=>simp
theorem KD {l:List jy} {n B:Int} (hB:0≤B) (hl:∀ x ∈ l,0≤x.asked∧x.asked≤B):∀ x ∈ qY l n,0≤x.asked∧x.asked≤B:=by
 intro x hx
 unfold qY at hx
 split at hx
 ·
  rcases List.mem_append.1 hx with h | h
  ·
   exact hl x h
  ·
   rw [List.mem_singleton.1 h];exact ⟨Int.le_refl _,hB⟩
 ·
  exact hl x hx
theorem Xw {l:List jy} {n B:Int} (hl:∀ x ∈ l,0≤x.asked∧x.asked≤B):∀ x ∈ aau l n,0≤x.asked∧x.asked≤B:=fun x hx=>hl x (List.mem_filter.1 hx).1
theorem abe {l:List jy} {n:Int}:∀ m ∈ (aau l n).map (·.name),m≠n:=by
 intro m hm
 rw [List.mem_map] at hm
 obtain ⟨w,hw,rfl⟩:=hm
 have:=(List.mem_filter.1 hw).2
 simpa using this
end Go.Proofs.Ytpjglojnipjgfaa
namespace Go.Proofs.Ytpjglojnipjgfaa
open Go.Abs
namespace fetchBounds
def codes:List (Bool×Ty):=[(false,.int .i64),(false,.int .i64),(false,.slc 16 tDo)]
theorem coded:Jw zi 9 [3,3,28]=some codes:=by kernel_rfl
section
variable {me nodes:Int} {q:Nat}
theorem adp {k:Nat} {L:List Int} (hk:Okl k L) (hL0:L.length≤32) {n:Int}:∀ (suf pre:List Int) {T:List Value} {r:St} {S:zx},wZ (zC zi O false zu.jd) T S=r→T.length=109 →
  T.getD 13 zh=.int .i64 n→T.getD 79 zh=iz k L→T.getD 80 zh=.int .i64 L.length→T.getD 81 zh=.int .i64 pre.length→L=pre++suf→(∀ m ∈ suf,m≠n) →
  ∃ T',r=some (.exit 4,T',S)∧T'.length=109∧T'.getD 0 zh=T.getD 0 zh∧T'.getD 1 zh=T.getD 1 zh∧T'.getD 7 zh=T.getD 7 zh∧T'.getD 9 zh=T.getD 9 zh∧T'.getD 11 zh=T.getD 11 zh∧T'.getD 13 zh=.int .i64 n∧T'.getD 41 zh=T.getD 41 zh∧T'.getD 42 zh=T.getD 42 zh∧T'.getD 43 zh=T.getD 43 zh∧T'.getD 70 zh=T.getD 70 zh∧T'.getD 71 zh=T.getD 71 zh∧T'.getD 72 zh=T.getD 72 zh:=by
 intro suf
 induction suf with
 | nil =>
  intro pre T r S hL hT h13 h79 h80 h81 hl hne
  have hTe:=zu.eta hT
  rw [h13,h79,h80,h81] at hTe
  have hr:zC zi O false zu.jd T S=zC zi O false zu.jd T S:=rfl
  have hd:¬ (pre.length:Int) < (L.length:Int):=by rw [hl];simp
  conv at hr =>
   rhs
   rw [hTe]
   simp only [zu.jd,zu.code,zu.rs,zSs,reduceIte,zk,zn,zo,zq,hd]
  exact ⟨_,hL.symm.trans (jA hr (by simp)),rfl,rfl,rfl,rfl,rfl,rfl,rfl,rfl,rfl,rfl,rfl,rfl,rfl⟩
 | cons x suf ih =>
  intro pre T r S hL hT h13 h79 h80 h81 hl hne
  have hTe:=zu.eta hT
  rw [h13,h79,h80,h81] at hTe
  have hr:zC zi O false zu.jd T S=zC zi O false zu.jd T S:=rfl
  have hd:(pre.length:Int) < (L.length:Int):=by rw [hl];simp;omega
  have e1:∀ S,zS zi 29 (iz k L) (.int .i64 pre.length) S=some (EP [.int .i64 x],S):=fun S=>by
   rw [ab7 hk (by omega) hd,ZK hl]
  have hx:(x=n)=False:=eq_false (hne x (by simp))
  have wi:IntKind.i64.wrap ((pre.length:Int)+1)=((pre++[x]).length:Int):=by rw [wrap_i64 (by omega) (by omega)];simp
  conv at hr =>
   rhs
   rw [hTe]
   simp only [zu.jd,zu.code,zu.rs,zSs,reduceIte,zk,zn,zo,zq,hd,e1,WS,hx,wi]
  obtain ⟨T',p⟩:=ih (pre++[x]) ((jK hr).symm.trans hL) rfl rfl rfl rfl rfl (by simp [hl]) (fun m hm=>hne m (by simp [hm]))
  exact ⟨T',p⟩
theorem adx {k j:Nat} {L:List Int} (hk:Okl k L) (k2:k≠2) (hjk:(if j=2 then 1 else j)=k) (hL0:L.length≤32) (hnd:L.Nodup) {x:DoV} {p:Nat} {S:zx} (hg:S.get p=some (.cells (fD x) (.own []) 0)) (hx:x.kind=1→∀ m ∈ L,m≠x.name):∀ (suf pre:List Int) {T:List Value} {r:St},wZ (zC zi O false zu.Jk) T S=r→T.length=109 →
  T.getD 9 zh=.pointer (some ⟨p,0,none⟩)→T.getD 11 zh=iz j L→T.getD 70 zh=iz k L→T.getD 71 zh=.int .i64 L.length→T.getD 72 zh=.int .i64 pre.length→L=pre++suf →
  ∃ T',r=some (.exit 2,T',S)∧T'.length=109∧T'.getD 0 zh=T.getD 0 zh∧T'.getD 1 zh=T.getD 1 zh∧T'.getD 7 zh=T.getD 7 zh∧T'.getD 11 zh=iz j L∧T'.getD 41 zh=T.getD 41 zh∧T'.getD 42 zh=T.getD 42 zh∧T'.getD 43 zh=T.getD 43 zh:=by
 intro suf
 induction suf with
 | nil =>
  intro pre T r hL hT h9 h11 h70 h71 h72 hl
  have hTe:=zu.eta hT
  rw [h9,h11,h70,h71,h72] at hTe
  have hr:zC zi O false zu.Jk T S=zC zi O false zu.Jk T S:=rfl
  have hd:¬ (pre.length:Int) < (L.length:Int):=by rw [hl];simp
  conv at hr =>
   rhs
   rw [hTe]
   simp only [zu.Jk,zu.code,zu.rs,zSs,reduceIte,zk,zn,zo,zq,hd]
  exact ⟨_,hL.symm.trans (jA hr (by simp)),rfl,rfl,rfl,rfl,rfl,rfl,rfl,rfl⟩
 | cons n suf ih =>
  intro pre T r hL hT h9 h11 h70 h71 h72 hl
  have hTe:=zu.eta hT
  rw [h9,h11,h70,h71,h72] at hTe
  have hr:zC zi O false zu.Jk T S=zC zi O false zu.Jk T S:=rfl
  have hd:(pre.length:Int) < (L.length:Int):=by rw [hl];simp;omega
  have e1:∀ S,zS zi 29 (iz k L) (.int .i64 pre.length) S=some (EP [.int .i64 n],S):=fun S=>by
   rw [ab7 hk (by omega) hd,ZK hl]
  have sl:∀ S,kC zi 29 (iz k L) none (some (.int .i64 pre.length)) S=some (iz k pre,S):=fun S=>by
   rw [aaS (P:=zi) (t:=29) (f:=ci) (e:=1) (i:=0) (j:=pre.length) ZL aaB Vw hk rfl rfl (by omega) (by omega) (by omega),if_neg k2]
   simp [hl]
  have okp:Okl k pre:=⟨hk.le,fun h=>by have:=hk.nil h;rw [hl] at this;simp at this⟩
  have ln:∀ S,xk zi 29 (iz k pre) S=some (goInt pre.length,S):=fun S=>YK okp
  have wi:IntKind.i64.wrap ((pre.length:Int)+1)=((pre++[n]).length:Int):=by rw [wrap_i64 (by omega) (by omega)];simp
  have lk:=Y0 hg
  have lnm:=VB hg
  conv at hr =>
   rhs
   rw [hTe]
   simp only [zu.Jk,zu.code,zu.rs,zSs,reduceIte,zk,zn,zo,zq,hd,hjk,e1,WS,vV,sl,ln,goInt]
  generalize hL2:wZ (zC zi O false zu.jd) _ _=r2 at hr
  have hpl:pre.length≤32:=by omega
  obtain ⟨T2,rfl,p1,p2,p3,p4,p5,p6,p7,p8,p9,p10,p11,p12,p13⟩:=adp okp hpl (n:=n) pre [] hL2 rfl rfl rfl rfl rfl rfl (fun m hm=>by
   rw [hl,List.nodup_append] at hnd
   exact hnd.2.2 m hm n (by simp))
  have hT2:=zu.eta p1
  rw [p2,p3,p4,p5,p6,p7,p8,p9,p10,p11,p12,p13] at hT2
  by_cases hk1:x.kind=1
  ·
   have hne:(n=x.name)=False:=eq_false (hx hk1 n (by rw [hl];simp))
   conv at hr =>
    rhs
    simp only [zSs,reduceIte,zk,zn,zo,zq]
    rw [hT2]
    simp only [zu.code,zu.rs,zSs,reduceIte,zk,zn,zo,zq,jF,wB,lk,lnm,hk1,hne,wi]
   obtain ⟨T',p⟩:=ih (pre++[n]) ((jK hr).symm.trans hL) rfl rfl rfl rfl rfl rfl (by simp [hl])
   exact ⟨T',p⟩
  ·
   conv at hr =>
    rhs
    simp only [zSs,reduceIte,zk,zn,zo,zq]
    rw [hT2]
    simp only [zu.code,zu.rs,zSs,reduceIte,zk,zn,zo,zq,jF,lk,hk1,wi]
   obtain ⟨T',p⟩:=ih (pre++[n]) ((jK hr).symm.trans hL) rfl rfl rfl rfl rfl rfl (by simp [hl])
   exact ⟨T',p⟩
noncomputable def tail:Code:=(.seq (.region 14 (reg Try.f6 14) false) (.seq (.seq (.region 15 (reg Try.f6 15) false) (.block 2 (.loop zu.Jk))) (.seq (.region 27 (reg Try.f6 27) false) (.cond (.tmp 107) (.seq (.region 28 (reg Try.f6 28) false) .ret) .skip))))
theorem Q8:zu.Jo=.seq (.region 7 (reg Try.f6 7) false) (.seq (.cond (.tmp 44) .skip (.exit 0)) (.seq (.block 1 (.seq (.region 8 (reg Try.f6 8) false) (.seq (.region 9 (reg Try.f6 9) false) (.seq (.seq (.region 10 (reg Try.f6 10) false) (.cond (.tmp 52) (.region 11 (reg Try.f6 11) false) (.seq (.region 12 (reg Try.f6 12) false) (.cond (.tmp 67) (.seq (.region 13 (reg Try.f6 13) false) .ret) .skip)))) tail)))) (.region 29 (reg Try.f6 29) false))):=rfl
theorem adC {k:Nat} {A:List DoV} (hk:Okl k A) (hA:A.length≤200) (hm0:0≤me∧me < nodes) (hn0:nodes≤7):∀ (suf pre:List DoV) {T:List Value} {r:St} {S:zx} {l:List jy} {fp:List Nat},wZ (zC zi O false zu.Jo) T S=r→T.length=109 →
  T.getD 7 zh=.pointer (some ⟨q,0,none⟩)→T.getD 41 zh=vs fD 2 k A→T.getD 42 zh=.int .i64 A.length→T.getD 43 zh=.int .i64 pre.length→A=pre++suf→Ft S q me nodes l fp→Once l→(∀ w ∈ l,0≤w.asked∧w.asked≤pre.length) →
  ∃ T' S',r=some (.exit 0,T',S')∧T'.length=109:=by
 intro suf
 induction suf with
 | nil =>
  intro pre T r S l fp hL hT h7 h41 h42 h43 hl hF hO hw
  have hTe:=zu.eta hT
  rw [h7,h41,h42,h43] at hTe
  have hr:zC zi O false zu.Jo T S=zC zi O false zu.Jo T S:=rfl
  have hd:¬ (pre.length:Int) < (A.length:Int):=by rw [hl];simp
  conv at hr =>
   rhs
   rw [hTe]
   simp only [zu.Jo,zu.code,zu.rs,zSs,reduceIte,zk,zn,zo,zq,hd]
  exact ⟨_,_,hL.symm.trans (jA hr (by simp)),rfl⟩
 | cons x suf ih =>
  intro pre T r S l fp hL hT h7 h41 h42 h43 hl hF hO hw
  have hTe:=zu.eta hT
  rw [h7,h41,h42,h43] at hTe
  have hr:zC zi O false zu.Jo T S=zC zi O false zu.Jo T S:=rfl
  have hlen:A.length=pre.length+1+suf.length:=by rw [hl];simp;omega
  have hd:(pre.length:Int) < (A.length:Int):=by omega
  have e1:=adM hk hl
  have al:=adP S
  obtain ⟨S1,n1,n2,n3,n4⟩:=adt x S
  have lk:=Y0 n2
  have F1:=hF.ext n3
  obtain ⟨k1,S2,w1,w2,w3,w4⟩:=zA.v F1
  have ln1:∀ S,xk zi 29 (iz k1 (l.map (·.name))) S=some (goInt l.length,S):=fun S=>by rw [YK w2,List.length_map]
  have F2:=F1.ext w4
  have g2:S2.get S.next=some (.cells (fD x) (.own []) 0):=(w4.get _ n4).trans n2
  have lk2:=Y0 g2
  have lnm2:=VB g2
  have hn2:S.next < S2.next:=Nat.lt_of_lt_of_le n4 w4.next
  have hqne:S.next≠q:=by have:=hF.lt;omega
  have wi:IntKind.i64.wrap ((pre.length:Int)+1)=((pre++[x]).length:Int):=by rw [wrap_i64 (by omega) (by omega)];simp
  have rest:∀ (l3:List jy) (S3:zx) (fp3:List Nat) (T3:List Value),zC zi O false zu.Jo T S=aaQ (vH 1 (zC zi O false tail T3 S3)) (zC zi O false (.region 29 (reg Try.f6 29) false))→Ft S3 q me nodes l3 fp3→Once l3→(∀ w ∈ l3,0≤w.asked∧w.asked≤pre.length)→S3.get S.next=some (.cells (fD x) (.own []) 0)→S.next < S3.next→(x.kind=1→∀ m ∈ l3.map (·.name),m≠x.name)→T3.length=109 →
    T3.getD 7 zh=.pointer (some ⟨q,0,none⟩)→T3.getD 9 zh=.pointer (some ⟨S.next,0,none⟩)→T3.getD 41 zh=vs fD 2 k A→T3.getD 42 zh=.int .i64 A.length→T3.getD 43 zh=.int .i64 pre.length →
    ∃ T4 S4 l4 fp4,aaQ (vH 1 (zC zi O false tail T3 S3)) (zC zi O false (.region 29 (reg Try.f6 29) false))=some (.normal,T4,S4)∧T4.length=109 ∧
     T4.getD 7 zh=.pointer (some ⟨q,0,none⟩)∧T4.getD 41 zh=vs fD 2 k A∧T4.getD 42 zh=.int .i64 A.length∧T4.getD 43 zh=.int .i64 (pre++[x]).length∧Ft S4 q me nodes l4 fp4∧Once l4∧(∀ w ∈ l4,0≤w.asked∧w.asked≤(pre++[x]).length):=by
   intro l3 S3 fp3 T3 _ F3 O3 hw3 g3 hn3 hx3 hT3 t7 t9 t41 t42 t43
   have hTe3:=zu.eta hT3
   rw [t7,t9,t41,t42,t43] at hTe3
   obtain ⟨k4,S4,y1,y2,y3,y4⟩:=zA.v F3
   have F4:=F3.ext y4
   have g4:S4.get S.next=some (.cells (fD x) (.own []) 0):=(y4.get _ hn3).trans g3
   have ln4:∀ S,xk zi 29 (iz (if k4=2 then 1 else k4) (l3.map (·.name))) S=some (goInt (l3.map (·.name)).length,S):=fun S=>YK y2.dem
   have hr:aaQ (vH 1 (zC zi O false tail T3 S3)) (zC zi O false (.region 29 (reg Try.f6 29) false))=aaQ (vH 1 (zC zi O false tail T3 S3)) (zC zi O false (.region 29 (reg Try.f6 29) false)):=rfl
   conv at hr =>
    rhs
    rw [hTe3]
    simp only [tail,zu.code,zu.rs,zSs,reduceIte,zk,zn,zo,zq,y1,ln4,goInt]
   generalize hL2:wZ (zC zi O false zu.Jk) _ _=r2 at hr
   have hl3:(l3.map (·.name)).length≤32:=by rw [List.length_map];exact F3.len
   obtain ⟨T5,rfl,p1,p2,p3,p4,p5,p6,p7,p8⟩:=adx y2.dem (XZ k4) rfl hl3 O3 g4 hx3 (l3.map (·.name)) [] hL2 rfl rfl rfl rfl rfl rfl rfl
   have hT5:=zu.eta p1
   rw [p2,p3,p4,p5,p6,p7,p8] at hT5
   have d32:(32 < (((l3.map (·.name)).length:Nat):Int))=False:=eq_false (by omega)
   obtain ⟨k6,S6,fp6,z1,z2,z3,z4,z5,z6⟩:=zy.v F4 hm0 hn0 (fun w h=>by have:=hw3 w h;omega)
   have hz:(Jf me nodes l3).length≤8:=by
    unfold Jf
    split
    ·
     simp
    ·
     simp;omega
   have d8:(8 < ((Jf me nodes l3).length:Int))=False:=eq_false (by omega)
   have lnA:=adl z2
   conv at hr =>
    rhs
    simp only [zSs,reduceIte,zk,zn,zo,zq]
    rw [hT5]
    simp only [zu.code,zu.rs,zSs,reduceIte,zk,zn,zo,zq,ln4,goInt,d32,z1,lnA,d8,wi]
   exact ⟨_,_,Zu nodes l3,fp6,hr,rfl,rfl,rfl,rfl,rfl,z4,aan O3,fun w h=>by
    have:=aad h hw3
    simp;omega⟩
  by_cases hk1:x.kind=1
  ·
   obtain ⟨v,S3,fp3,c1,c2,c3,c4⟩:=zH.v F2 x.name
   have st:=F2.stay c4
   have g3:S3.get S.next=some (.cells (fD x) (.own []) 0):=(st.2 _ _ _ hqne hn2 g2).trans g2
   conv at hr =>
    rhs
    rw [hTe]
    simp only [Q8,zu.code,zu.rs,zSs,reduceIte,zk,zn,zo,zq,hd,e1,yN,al,n1,w1,ln1,goInt,jF,wB,lk2,lnm2,decide_eq_true hk1,c1]
   obtain ⟨T4,S4,l4,fp4,r1,r2,r3,r4,r5,r6,r7,r8,r9⟩:=rest (aau l x.name) S3 fp3 _ hr c2 (aaA hO _) (Xw hw) g3 (Nat.lt_of_lt_of_le hn2 st.1) (fun _=>abe) rfl rfl rfl rfl rfl rfl
   exact ih (pre++[x]) ((jK (hr.trans r1)).symm.trans hL) r2 r3 r4 r5 r6 (by simp [hl]) r7 r8 r9
  ·
   obtain ⟨S3,fp3,c1,c2,c3,c4⟩:=zB.v F2 x.name
   have st:=F2.stay c4
   have g3:S3.get S.next=some (.cells (fD x) (.own []) 0):=(st.2 _ _ _ hqne hn2 g2).trans g2
   obtain ⟨k5,S5,v1,v2,v3,v4⟩:=zA.v c2
   have ln5:∀ S,xk zi 29 (iz k5 ((qY l x.name).map (·.name))) S=some (goInt (qY l x.name).length,S):=fun S=>by rw [YK v2,List.length_map]
   have g5:S5.get S.next=some (.cells (fD x) (.own []) 0):=(v4.get _ (Nat.lt_of_lt_of_le hn2 st.1)).trans g3
   have w32:=hF.len
   have wq:IntKind.i64.wrap ((l.length:Int)+1)=(l.length:Int)+1:=wrap_i64 (by omega) (by omega)
   have dq:decide (((qY l x.name).length:Int)=(l.length:Int)+1)=qO l x.name:=by
    rw [← aaK l x.name]
    apply decide_eq_decide.2
    omega
   have bb:∀ S,yj zi .neq 4 (.bool (qO l x.name)) (.bool (qO l x.name)) S=some (.bool false,S):=fun S=>by cases qO l x.name <;> rfl
   conv at hr =>
    rhs
    rw [hTe]
    simp only [Q8,zu.code,zu.rs,zSs,reduceIte,zk,zn,zo,zq,hd,e1,yN,al,n1,w1,ln1,goInt,jF,wB,lk2,lnm2,hk1,c1,v1,ln5,wq,dq,bb]
   obtain ⟨T4,S4,l4,fp4,r1,r2,r3,r4,r5,r6,r7,r8,r9⟩:=rest (qY l x.name) S5 fp3 _ hr (c2.ext v4) (Vs hO _) (KD (by omega) hw) g5 (Nat.lt_of_lt_of_le (Nat.lt_of_lt_of_le hn2 st.1) v4.next) (fun h=>absurd h hk1) rfl rfl rfl rfl rfl rfl
   exact ih (pre++[x]) ((jK (hr.trans r1)).symm.trans hL) r2 r3 r4 r5 r6 (by simp [hl]) r7 r8 r9
end
theorem run {me nodes:Int} {k:Nat} {A:List DoV} (hk:Okl k A) (k2:k≠2) (hAl:A.length * 16≤140737488351232) (S:zx):∃ S',zV zi O 6 [.int .i64 me,.int .i64 nodes,vs fD 2 k A] S=some (.bool true,S'):=by
 obtain ⟨T,hTe⟩:∃ T,T=(.int .i64 me::.int .i64 nodes::vs fD 2 k A::zh::zh::zh::zh::zh::zh::zh::zh::zh::zh::zh::zh::zh::zh::zh::zh::zh::zh::zh::zh::zh::zh::zh::zh::zh::zh::zh::zh::zh::zh::zh::zh::zh::zh::zh::zh::zh::zh::zh::zh::zh::zh::zh::zh::zh::zh::zh::zh::zh::zh::zh::zh::zh::zh::zh::zh::zh::zh::zh::zh::zh::zh::zh::zh::zh::zh::zh::zh::zh::zh::zh::zh::zh::zh::zh::zh::zh::zh::zh::zh::zh::zh::zh::zh::zh::zh::zh::zh::zh::zh::zh::zh::zh::zh::zh::zh::zh::zh::zh::zh::zh::zh::zh::zh::zh::zh::[]):=⟨_,rfl⟩
 have hr:zC zi O false zu.code T S=zC zi O false zu.code T S:=rfl
 have al:=fun S=>qp.v S
 have ln:=ac6 hk
 by_cases h1:nodes < 1
 ·
  conv at hr =>
   rhs
   rw [hTe]
   simp only [zu.code,zu.rs,zSs,reduceIte,zk,zn,zo,zq,al,h1]
  rw [hTe] at hr
  exact ⟨_,(zu.runs hr (.inr rfl))⟩
 by_cases h2:7 < nodes
 ·
  conv at hr =>
   rhs
   rw [hTe]
   simp only [zu.code,zu.rs,zSs,reduceIte,zk,zn,zo,zq,al,h1,h2]
  rw [hTe] at hr
  exact ⟨_,(zu.runs hr (.inr rfl))⟩
 by_cases h3:me < 0
 ·
  conv at hr =>
   rhs
   rw [hTe]
   simp only [zu.code,zu.rs,zSs,reduceIte,zk,zn,zo,zq,al,h1,h2,h3]
  rw [hTe] at hr
  exact ⟨_,(zu.runs hr (.inr rfl))⟩
 by_cases h4:nodes≤me
 ·
  conv at hr =>
   rhs
   rw [hTe]
   simp only [zu.code,zu.rs,zSs,reduceIte,zk,zn,zo,zq,al,h1,h2,h3,h4]
  rw [hTe] at hr
  exact ⟨_,(zu.runs hr (.inr rfl))⟩
 by_cases h5:200 < (A.length:Int)
 ·
  conv at hr =>
   rhs
   rw [hTe]
   simp only [zu.code,zu.rs,zSs,reduceIte,zk,zn,zo,zq,al,h1,h2,h3,h4,if_neg k2,ln,goInt,h5]
  rw [hTe] at hr
  exact ⟨_,(zu.runs hr (.inr rfl))⟩
 obtain ⟨S1,c1,c2,c3⟩:=ji.v me nodes S
 conv at hr =>
  rhs
  rw [hTe]
  simp only [zu.code,zu.rs,zSs,reduceIte,zk,zn,zo,zq,al,h1,h2,h3,h4,h5,if_neg k2,ln,goInt,c1]
 generalize hL:wZ (zC zi O false zu.Jo) _ _=r at hr
 obtain ⟨T2,S2,rfl,p2⟩:=adC (q:=S.next) (me:=me) (nodes:=nodes) hk (by omega) ⟨by omega,by omega⟩ (by omega) A [] hL rfl rfl rfl rfl rfl rfl c2 List.nodup_nil (fun w h=>by cases h)
 have hT2:=zu.eta p2
 conv at hr =>
  rhs
  simp only [zSs,reduceIte,zk,zn,zo,zq]
  rw [hT2]
  simp only [zu.code,zu.rs,zSs,reduceIte,zk,zn,zo,zq]
 rw [hTe] at hr
 exact ⟨_,zu.runs hr (.inr rfl)⟩
theorem law (x:Args codes) (h:Args.Good codes x):∃ k,(qx zi k 6 (Args.place codes x zx.empty).1 (Args.place codes x zx.empty).2).map (·.1)=some (.bool true):=by
 obtain ⟨a,b,c,u⟩:=x
 obtain ⟨h1,h2,h3,_⟩:=h
 obtain ⟨k,l,p1,p2,p3,p4,p5⟩:=acd c h3
 obtain ⟨S',e⟩:=run (me:=a) (nodes:=b) p1 p2 p4 zx.empty
 refine Qj adz (S':=S') ?_
 have e2:Args.Zx codes (a,b,c,u)=[.int .i64 a,.int .i64 b,vs fD 2 k l]:=by
  show [qR false ((Ty.int .i64).Zx a),qR false ((Ty.int .i64).Zx b),qR false ((Ty.slc 16 tDo).Zx c)]=_
  rw [p3];rfl
 rw [e2]
 exact e
end fetchBounds
end Go.Proofs.Ytpjglojnipjgfaa
namespace Go.Proofs.Ytpjglojnipjgfaa.fetchBounds
open Go.ChangeShapes Go.WideShapes Go.ChangeAt Go.RowKit Go.Abs
theorem own:ownKnob zi.godebug=none:=by kernel_rfl
theorem laidOut:laidOutB zi=true:=by kernel_rfl
theorem mixes:zi.follows .mixedOrders=true:=by kernel_rfl
set_option maxRecDepth 100000 in
theorem lifted (os:Os) (started:os.Started) (H:Type) (enc:TypeId×Value→H) :
  ReturnsInHanded {} Try.checked os 6 .any (Rows.fetchBoundsSpec.pre6 enc zi Try.f6 Rows.fetchBoundsRow.domain false) (Rows.fetchBoundsSpec.post enc zi Try.f6 false true false false):=by
 refine returnsInHanded_of_change_sized (C:=Try.checked) own started (by kernel_rfl) Try.func6
  (ChangeSpec.witness6 (enc:=enc) (C:=Try.checked) false ⟨#[],#[.int .i64 0,.int .i64 0,.slice none 0 0],[]⟩ 8 (by kernel_rfl) (by kernel_rfl) (by kernel_rfl) (by kernel_rfl)) ?_
 intro W base args ds gs before hval0 hW hcnd hsz0 _
 have hW':=hW
 obtain ⟨p,q,hA0,hV,rfl,hfz,hnd⟩:=hW
 obtain ⟨rfl,rfl⟩:=trodVars_none hV
 have hsz1:(DataW.weightsEach zi (Try.f6.params.toList++Rows.fetchBoundsSpec.plain.varTypes zi) (ds++[])).all (·≤reachBytes)=true:=hsz0
 have hval:∀ (j:Nat) t v,Try.f6.params[j]?=some t→args[j]?=some v→Value.okWide zi W .any base t v:=hval0
 have hA1:DataW.TrodAll enc zi W 0 (fun _=>true) true Try.f6.params.toList args.toList ds p:=hA0
 rw [Try.params6] at hA1 hsz1 hval
 have hA:DataW.TrodAll enc zi W 0 (fun _=>true) true [3,3,28] args.toList ds p:=hA1
 have hsz:(DataW.weightsEach zi [3,3,28] ds).all (·≤reachBytes)=true:=by rw [List.append_nil ds] at hsz1;exact hsz1
 clear hA0 hA1 hval0 hsz0 hsz1
 have r:=hA
 obtain ⟨v0,vs0,d0,ds0,p0,q0,hargs0,rfl,hp0,h0,r0⟩:=trodAll_cons r
 obtain ⟨v1,vs1,d1,ds1,p1,q1,hargs1,rfl,hp1,h1,r1⟩:=trodAll_cons r0
 obtain ⟨v2,vs2,d2,ds2,p2,q2,hargs2,rfl,hp2,h2,r2⟩:=trodAll_cons r1
 obtain ⟨_,rfl,_⟩:=trodAll_nil r2
 refine (Vm mixes coded law hA (fun j t v h1 h2=>hval j t v (by rw [List.getElem?_toArray];exact h1) h2) hsz).mono fun e W' ⟨he,bel⟩=>?_
 subst he
 exact ⟨_,rfl,_,_,_,[],_,[],hW',trodAll_mk1 (shut_bool (by kernel_rfl) _),aaR laidOut bel _ _ _ _ (by kernel_rfl) hA,rfl,bel.frame _,fun h=>by cases h⟩
theorem over:Rows.fetchBoundsRow.holds Try.pinned (OpenSpec.ofChange Rows.fetchBoundsSpec) :=
 OpenClaim.holds_of_wide 6 Try.f6 rfl rfl rfl rfl rfl rfl rfl ⟨rfl,rfl,rfl,rfl,rfl⟩ rfl rfl rfl rfl rfl (by kernel_rfl) Try.func6 (by kernel_rfl)
  (of_decide_eq_true (by kernel_rfl)) (by unfold Func.isWrapper;first | (rw [if_pos (by decide +kernel)];kernel_rfl) | (rw [if_neg (by decide +kernel)];exact ⟨rfl,rfl⟩))
  (fun os started H enc _=>lifted os started H enc)
theorem proved:Rows.FetchBoundsSaid:=over
end Go.Proofs.Ytpjglojnipjgfaa.fetchBounds
namespace Go.Proofs.Ytpjglojnipjgfaa
theorem fetchBounds_holds:Rows.FetchBoundsSaid:=fetchBounds.proved
#print axioms fetchBounds_holds
end Go.Proofs.Ytpjglojnipjgfaa
