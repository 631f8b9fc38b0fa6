/-
The law FetchOrder returns true for every input, and leaves it as it was; no condition. Part 4 of 4 of the texts (put together by a program: own names are short, what isn't needed is left out).
-/
import Derived.Test.YtpjglojnipjgfaaZFetchOrder3
import Derived.Test.YtpjglojnipjgfaaChecked
import Derived.KernelRfl
import Derived.Test.YtpjglojnipjgfaaRows
import Derived.WalkKit
import Derived.ProofKit
import Derived.OpenShut
import Derived.ShutString
import Derived.ChangeOld
import Derived.Below
import Derived.SizedLaws
import Derived.Carry
set_option linter.unusedVariables false
set_option linter.unusedSimpArgs false
set_option maxRecDepth 100000
open Go renaming undef → zh
open Go.Proofs.Try renaming prog → zi
open Nat renaming reduceEqDiff → zk
open Int renaming reduceEq → zn
open Int renaming reduceLT → zo
open Int renaming reduceLE → zq
namespace Go.Proofs.Ytpjglojnipjgfaa
open Go.Abs
theorem Jj {g:FuncId} {v c:Value} {S:zx}:adB (zU zi O) (.func (Fn.func g) #[] #[c]) [v] S=zU zi O g [v,c] S:=rfl
theorem YU {hps:FuncId→Bool} {g:FuncId} {v c:Value} {S:zx} (hv:kR v=false) (hc:kR c=false):adB (jP hps true (zU zi O)) (.func (Fn.func g) #[] #[c]) [v] S=zU zi O g [v,c] S:=by
 show jP hps true (zU zi O) g [v,c] S=_
 unfold jP
 dsimp only
 split
 ·
  rfl
 ·
  exact QJ (call:=zU zi O) (g:=g) (args:=[v,c]) (by simp [hv,hc])
structure jB where
 name:Int
 asked:Int
def fW (w:jB):List Value:=[.int .i64 w.name,.int .i64 w.asked]
abbrev wv (w:jB):Value:=.agg [Value.int .i64 w.name,.int .i64 w.asked].toArray
theorem qN (w:jB):(fW w).length=2:=rfl
theorem aa9 (w:jB):(fW w).all (·.oneCell')=true:=rfl
theorem abx (w:jB):(fW w).map yT=fW w:=rfl
theorem YR {α:Type} {p:α→Bool}:∀ {l:List α} {i:Int},l.any p=true→∃ pre x suf,l=pre++x::suf∧pre.any p=false∧p x=true∧idxFrom p i l=i+pre.length
 | [],_,h=>by cases h
 | x::r,i,h=>by
  cases hx:p x with
  | true=>exact ⟨[],x,r,rfl,rfl,hx,by rw [idxFrom,hx];simp⟩
  | false =>
   rw [List.any_cons,hx,Bool.false_or] at h
   obtain ⟨pre,y,suf,h1,h2,h3,h4⟩:=YR (i:=i+1) h
   refine ⟨x::pre,y,suf,by rw [h1];rfl,by rw [List.any_cons,hx,h2];rfl,h3,?_⟩
   rw [idxFrom,hx,if_neg (by decide),h4,List.length_cons]
   omega
theorem filter_none {α:Type} {p:α→Bool} {l:List α} (h:l.any p=false):l.filter (fun x=>!p x)=l:=by
 rw [List.filter_eq_self]
 intro x hx
 rw [List.any_eq_false] at h
 have:=h x hx
 simpa using this
section
variable {l:List jB} {p:jB→Bool} {g:FuncId} {c:Value} {K:zx→Prop}
theorem slices_IndexFunc.ac9 {k:Nat} (hv:Okl k l) (hk:k≠2) (hlen:l.length≤17592186044416) (hp:∀ S x,K S→x ∈ l→∃ S1,zU zi O g [wv x,c] S=some (.bool (p x),S1)∧Ext S S1∧S1.log=S.log) (hK:∀ S S1,K S→Ext S S1→K S1):∀ (suf pre:List jB) {T:List Value} {r:St} {S:zx},wW (zC zi O false slices_IndexFunc.jd) T S=r→T.length=19→K S →
  T.getD 0 zh=vs fW 2 k l→T.getD 1 zh=.func (Fn.func g) #[] #[c]→T.getD 7 zh=.int .i64 l.length→T.getD 8 zh=.int .i64 pre.length→l=pre++suf →
  ∃ e T' S',r=some (e,T',S')∧Ext S S'∧S'.log=S.log∧if suf.any p then e=.ret∧T'.getD 4 zh=.int .i64 (idxFrom p pre.length suf) else e=.exit 0∧T'.length=19:=by
 intro suf
 induction suf with
 | nil =>
  intro pre T r S hL hT hS h0 h1 h7 h8 hl
  have hTe:=slices_IndexFunc.eta hT
  rw [h0,h1,h7,h8] at hTe
  have hr:zC zi O false slices_IndexFunc.jd T S=zC zi O false slices_IndexFunc.jd T S:=rfl
  have hd:¬ (pre.length:Int) < (l.length:Int):=by rw [hl];simp
  conv at hr =>
   rhs
   rw [hTe]
   simp only [slices_IndexFunc.jd,slices_IndexFunc.code,slices_IndexFunc.rs,zSs,reduceIte,zk,zn,zo,zq,hd]
  exact ⟨_,_,_,hL.symm.trans (jA hr (by simp)),Ext.refl _,rfl,rfl,rfl⟩
 | cons x suf ih =>
  intro pre T r S hL hT hS h0 h1 h7 h8 hl
  have hTe:=slices_IndexFunc.eta hT
  rw [h0,h1,h7,h8] at hTe
  have hr:zC zi O false slices_IndexFunc.jd T S=zC zi O false slices_IndexFunc.jd T S:=rfl
  have hd:(pre.length:Int) < (l.length:Int):=by rw [hl];simp;omega
  have e1:∀ S,zW zi 58 (vs fW 2 k l) (.int .i64 pre.length) S=some (EP (fW x),S):=fun S=>by
   rw [acu zS zY qN hv (by omega) hd,abg hl]
  have l1:∀ S,jm zi false 64 (EP (fW x)) S=some (wv x,S):=fun S=>YP yU zY rfl
  have wi:IntKind.i64.wrap ((pre.length:Int)+1)=((pre++[x]).length:Int):=by rw [wrap_i64 (by omega) (by omega)];simp
  obtain ⟨S1,p1,x1,g1⟩:=hp S x hS (by rw [hl];simp)
  rw [List.any_cons,idxFrom]
  cases hx:p x with
  | true =>
   rw [hx] at p1
   conv at hr =>
    rhs
    rw [hTe]
    simp only [slices_IndexFunc.jd,slices_IndexFunc.code,slices_IndexFunc.rs,zSs,reduceIte,zk,zn,zo,zq,yC,Jj,if_neg hk,hd,e1,l1,p1]
   refine ⟨_,_,_,hL.symm.trans (jA hr (by simp)),x1,g1,?_⟩
   rw [Bool.true_or]
   exact ⟨rfl,rfl⟩
  | false =>
   rw [hx] at p1
   conv at hr =>
    rhs
    rw [hTe]
    simp only [slices_IndexFunc.jd,slices_IndexFunc.code,slices_IndexFunc.rs,zSs,reduceIte,zk,zn,zo,zq,yC,Jj,if_neg hk,hd,e1,l1,p1,wi]
   obtain ⟨e,T',S',q1,q2,q3,q4⟩:=ih (pre++[x]) ((jY hr).symm.trans hL) rfl (hK _ _ hS x1) rfl rfl rfl rfl (by simp [hl])
   refine ⟨e,T',S',q1,x1.trans q2,q3.trans g1,?_⟩
   rw [Bool.false_or]
   rw [show (((pre++[x]).length:Nat):Int)=(pre.length:Int)+1 by simp] at q4
   exact q4
theorem slices_IndexFunc.vC {k:Nat} (hv:Okl k l) (hk:k≠2) (hlen:l.length≤17592186044416) (hp:∀ S x,K S→x ∈ l→∃ S1,zU zi O g [wv x,c] S=some (.bool (p x),S1)∧Ext S S1∧S1.log=S.log) (hK:∀ S S1,K S→Ext S S1→K S1) {S:zx} (hS:K S) :
  ∃ S1,zU zi O slices_IndexFunc.id [vs fW 2 k l,.func (Fn.func g) #[] #[c]] S=some (.int .i64 (idxFrom p 0 l),S1)∧Ext S S1∧S1.log=S.log:=by
 obtain ⟨T,hTe⟩:∃ T,T=(vs fW 2 k l::.func (Fn.func g) #[] #[c]::zh::zh::zh::zh::zh::zh::zh::zh::zh::zh::zh::zh::zh::zh::zh::zh::zh::[]):=⟨_,rfl⟩
 have hr:zC zi O false slices_IndexFunc.code T S=zC zi O false slices_IndexFunc.code T S:=rfl
 have ln:=fun S=>VQ (P:=zi) (t:=58) (f:=fW) (e:=2) (S:=S) zS hv
 conv at hr =>
  rhs
  rw [hTe]
  simp only [slices_IndexFunc.code,slices_IndexFunc.rs,zSs,reduceIte,zk,zn,zo,zq,yC,if_neg hk,ln,goInt]
 generalize hL:wW (zC zi O false slices_IndexFunc.jd) _ _=r at hr
 obtain ⟨e,T',S',rfl,x1,g1,q⟩:=slices_IndexFunc.ac9 hv hk hlen hp hK l [] hL rfl hS rfl rfl rfl rfl rfl
 cases h:l.any p with
 | true =>
  rw [h] at q
  obtain ⟨rfl,g2⟩:=q
  conv at hr =>
   rhs
   simp only [zSs,reduceIte,zk,zn,zo,zq]
  rw [hTe] at hr
  have hrun:=slices_IndexFunc.runs hr (.inr rfl)
  rw [g2] at hrun
  exact ⟨_,hrun,x1,g1⟩
 | false =>
  rw [h] at q
  obtain ⟨rfl,g2⟩:=q
  have hTe':=slices_IndexFunc.eta g2
  conv at hr =>
   rhs
   rw [hTe']
   simp only [slices_IndexFunc.code,slices_IndexFunc.rs,zSs,reduceIte,zk,zn,zo,zq]
  rw [hTe] at hr
  rw [xE h]
  exact ⟨_,slices_IndexFunc.runs hr (.inr rfl),x1,g1⟩
theorem xQ (S:zx):qJ zi 64 S=some (.pointer (some ⟨S.next,0,none⟩),S.push (.cells [.int .i64 0,.int .i64 0] (.own []) 0)):=by kernel_rfl
theorem slices_DeleteFunc.round {r n:Nat} (hlen:n≤17592186044416) {fp0:List Nat} {S0:zx} (hp:∀ S x,K S→x ∈ l→∃ S1,zU zi O g [wv x,c] S=some (.bool (p x),S1)∧Ext S S1∧S1.log=S.log) (hc:kR c=false) (hK:∀ S S1,K S→Fr fp0 S S1→K S1) :
  ∀ (suf kept mid:List jB) {T:List Value} {rr:St} {S:zx} {fp:List Nat},wW (zC zi O true slices_DeleteFunc.jd) T S=rr→T.length=42→K S→Fr fp0 S0 S→(∀ x ∈ suf,x ∈ l) →
  T.getD 0 zh=.slice (some ⟨r,0,none⟩) n n→T.getD 1 zh=.func (Fn.func g) #[] #[c]→T.getD 5 zh=.int .i64 kept.length→T.getD 6 zh=.int .i64 (kept++mid).length→n=(kept++mid++suf).length→mid.length≠0 →
  yX fW 2 S (some ⟨r,0,none⟩) (kept++mid++suf) fp→(∀ x ∈ fp,x ∈ fp0) →
  ∃ T' S' mid' fp',rr=some (.exit 0,T',S')∧T'.length=42∧T'.getD 0 zh=.slice (some ⟨r,0,none⟩) n n∧T'.getD 5 zh=.int .i64 (kept++suf.filter fun x=>!p x).length∧n=((kept++suf.filter fun x=>!p x)++mid').length∧mid'.length≠0 ∧
   yX fW 2 S' (some ⟨r,0,none⟩) ((kept++suf.filter fun x=>!p x)++mid') fp'∧(∀ x ∈ fp',x ∈ fp0)∧Fr fp0 S0 S':=by
 intro suf
 induction suf with
 | nil =>
  intro kept mid T rr S fp hL hT hS hF hsl h0 h1 h5 h6 hn hm hA hfp
  have hTe:=slices_DeleteFunc.eta hT
  rw [h0,h1,h5,h6] at hTe
  have hr:zC zi O true slices_DeleteFunc.jd T S=zC zi O true slices_DeleteFunc.jd T S:=rfl
  have ln:=fun S=>ZR zS (some ⟨r,0,none⟩) n n S
  have hd:¬ ((kept++mid).length:Int) < (n:Int):=by rw [hn];simp
  conv at hr =>
   rhs
   rw [hTe]
   simp only [slices_DeleteFunc.jd,slices_DeleteFunc.code,slices_DeleteFunc.rs,zSs,reduceIte,zk,zn,zo,zq,yC,ln,goInt,hd]
  rw [List.append_nil] at hn hA
  refine ⟨_,_,mid,fp,hL.symm.trans (jA hr (by simp)),rfl,rfl,?_,?_,hm,?_,hfp,hF⟩
  ·
   rw [List.filter_nil,List.append_nil];rfl
  ·
   rw [List.filter_nil,List.append_nil];exact hn
  ·
   rw [List.filter_nil,List.append_nil];exact hA
 | cons x suf ih =>
  intro kept mid T rr S fp hL hT hS hF hsl h0 h1 h5 h6 hn hm hA hfp
  have hTe:=slices_DeleteFunc.eta hT
  rw [h0,h1,h5,h6] at hTe
  have hr:zC zi O true slices_DeleteFunc.jd T S=zC zi O true slices_DeleteFunc.jd T S:=rfl
  have ln:=fun S=>ZR zS (some ⟨r,0,none⟩) n n S
  have hd:((kept++mid).length:Int) < (n:Int):=by rw [hn];simp;omega
  have hnl:(kept++mid).length+1≤n:=by omega
  have ix:∀ S,zW zi 58 (.slice (some ⟨r,0,none⟩) n n) (.int .i64 (kept++mid).length) S=some (.pointer (some ⟨r,0+(kept++mid).length * 2,none⟩),S):=fun S=>by
   rw [JW (o:=0) (n:=n) (c:=n) (q:=r) zS zY (by omega) hd,Int.toNat_natCast]
  have hA0:=hA
  rcases hA0 with ⟨h,_⟩ | ⟨r',anc,rest,ha,hfa,hg,hx⟩
  ·
   cases h
  simp only [Option.some.injEq,Addr.mk.injEq,and_true] at ha
  subst ha
  have l1:jm zi false 64 (.pointer (some ⟨r,0+(kept++mid).length * 2,none⟩)) S=some (wv x,S):=yX.load (P:=zi) (te:=64) (S:=S) yU zY qN abx (x:=x) (pre:=kept++mid) (suf:=suf) hg
  obtain ⟨S1,n1,n2,n3,n4⟩:=Zu (P:=zi) (t:=64) (z:=[.int .i64 0,.int .i64 0]) (xs:=fW x) (x:=wv x) S rfl zY rfl rfl
  have al:=xQ S
  have l2:jm zi false 64 (.pointer (some ⟨S.next,0,none⟩)) S1=some (wv x,S1):=by
   have:=xu n2
   exact this
  have hS1:K S1:=hK _ _ hS (Fr.ext n3)
  obtain ⟨S2,p1,x1,g1⟩:=hp S1 x hS1 (hsl x (by simp))
  have hS2:K S2:=hK _ _ hS1 (Fr.ext x1)
  have hA2:=(hA.ext n3).ext x1
  have hF2:Fr fp0 S0 S2:=(hF.trans (Fr.ext n3) (fp2:=[]) (fun x hx=>by cases hx)).trans (Fr.ext x1) (fp2:=[]) (fun x hx=>by cases hx)
  have l3:jm zi false 64 (.pointer (some ⟨S.next,0,none⟩)) S2=some (wv x,S2):=xu ((x1.get _ n4).trans n2)
  have wj:IntKind.i64.wrap (((kept++mid).length:Int)+1)=((kept++mid).length:Int)+1:=wrap_i64 (by omega) (by omega)
  have dq:=YU (hps:=O.hp) (g:=g) (v:=wv x) (c:=c) (S:=S1) rfl hc
  cases hpx:p x with
  | true =>
   rw [hpx] at p1
   conv at hr =>
    rhs
    rw [hTe]
    simp only [slices_DeleteFunc.jd,slices_DeleteFunc.code,slices_DeleteFunc.rs,zSs,reduceIte,zk,zn,zo,zq,yC,ln,goInt,hd,ix,l1,al,n1,l2,dq,p1,wj]
   have hs:=(jY hr).symm.trans hL
   obtain ⟨T',S',mid',fp',q1,q2,q3,q4,q5,q6,q7,q8,q9⟩:=ih kept (mid++[x]) hs rfl hS2 hF2 (fun y hy=>hsl y (by simp [hy])) rfl rfl rfl (by show Value.int .i64 _=Value.int .i64 _;congr 1;simp <;> omega) (by rw [hn];simp <;> omega) (by simp) (by simpa using hA2) hfp
   refine ⟨T',S',mid',fp',q1,q2,q3,?_,?_,q6,?_,q8,q9⟩
   ·
    rw [List.filter_cons_of_neg (by simp [hpx])];exact q4
   ·
    rw [List.filter_cons_of_neg (by simp [hpx])];exact q5
   ·
    rw [List.filter_cons_of_neg (by simp [hpx])];exact q7
  | false =>
   rw [hpx] at p1
   obtain ⟨m,mid2,rfl⟩:∃ m mid2,mid=m::mid2:=by
    cases mid with
    | nil=>simp at hm
    | cons m mid2=>exact ⟨m,mid2,rfl⟩
   have hA3:=hA2
   rcases hA3 with ⟨h,_⟩ | ⟨r',anc2,rest2,ha2,hfa2,hg2,hx2⟩
   ·
    cases h
   simp only [Option.some.injEq,Addr.mk.injEq,and_true] at ha2
   subst ha2
   have hk5:(kept.length:Int) < (n:Int):=by rw [hn];simp;omega
   have ix2:∀ S,zW zi 58 (.slice (some ⟨r,0,none⟩) n n) (.int .i64 kept.length) S=some (.pointer (some ⟨r,0+kept.length * 2,none⟩),S):=fun S=>by
    rw [JW (o:=0) (n:=n) (c:=n) (q:=r) zS zY (by omega) hk5,Int.toNat_natCast]
   have hg3:S2.get r=some (.cells ((kept++m::(mid2++x::suf)).flatMap fW++rest2) (.own anc2) 2):=by rw [hg2];simp
   obtain ⟨S3,s1,s2,s3,s4,s5⟩:=yX.put (P:=zi) (te:=64) (S:=S2) zY qN aa9 (by decide) (x:=m) (y:=x) (pre:=kept) (suf:=mid2++x::suf) hg3 (by rw [← hfa2];exact hx2)
   have wi:IntKind.i64.wrap ((kept.length:Int)+1)=(kept.length:Int)+1:=wrap_i64 (by omega) (by omega)
   have hs4:Fr fp0 S2 S3:=s4.more fun x hx=>.inl (hfp x (by rw [hfa2];exact hx))
   have hS3:K S3:=hK _ _ hS2 hs4
   have hF3:Fr fp0 S0 S3:=hF2.trans hs4 fun x hx=>.inl hx
   have hA4:yX fW 2 S3 (some ⟨r,0,none⟩) ((kept++[x])++(mid2++[x])++suf) [r]:=.inr ⟨r,[],rest2,rfl,rfl,by rw [s2];simp,fun y hy=>by
    rw [List.mem_singleton.1 hy]
    exact ⟨by rw [s3];exact (hx2 r (by rw [hfa2];simp)).1,s5⟩⟩
   have sm:yP zi 64 (.pointer (some ⟨r,0+kept.length * 2,none⟩)) (wv x) S2=some (zh,S3):=s1
   conv at hr =>
    rhs
    rw [hTe]
    simp only [slices_DeleteFunc.jd,slices_DeleteFunc.code,slices_DeleteFunc.rs,zSs,reduceIte,zk,zn,zo,zq,yC,ln,goInt,hd,ix,l1,al,n1,l2,dq,p1,wj,l3,ix2,sm,wi]
   have hs:=(jY hr).symm.trans hL
   obtain ⟨T',S',mid',fp',q1,q2,q3,q4,q5,q6,q7,q8,q9⟩:=ih (kept++[x]) (mid2++[x]) hs rfl hS3 hF3 (fun y hy=>hsl y (by simp [hy])) rfl rfl (by show Value.int .i64 _=Value.int .i64 _;congr 1;simp) (by show Value.int .i64 _=Value.int .i64 _;congr 1;simp <;> omega) (by rw [hn];simp <;> omega) (by simp) hA4 (fun y hy=>hfp y (by rw [hfa2];rw [List.mem_singleton.1 hy];simp))
   have hfl:(kept++(x::suf).filter fun x=>!p x)=(kept++[x])++suf.filter fun x=>!p x:=by
    rw [List.filter_cons_of_pos (by simp [hpx])];simp
   refine ⟨T',S',mid',fp',q1,q2,q3,?_,?_,q6,?_,q8,q9⟩
   ·
    rw [hfl];exact q4
   ·
    rw [hfl];exact q5
   ·
    rw [hfl];exact q7
theorem slices_DeleteFunc.v {a:Option Addr} {fp:List Nat} {S:zx} (hA:yX fW 2 S a l fp) (hlen:l.length≤17592186044416) (hp:∀ S x,K S→x ∈ l→∃ S1,zU zi O g [wv x,c] S=some (.bool (p x),S1)∧Ext S S1∧S1.log=S.log) (hc:kR c=false) (hK:∀ S S1,K S→Fr fp S S1→K S1) (hS:K S) :
  ∃ a' S1 fp',zU zi O slices_DeleteFunc.id [.slice a l.length l.length,.func (Fn.func g) #[] #[c]] S=some (.slice a' (l.filter fun x=>!p x).length (l.filter fun x=>!p x).length,S1) ∧
   yX fW 2 S1 a' (l.filter fun x=>!p x) fp'∧(∀ x ∈ fp',x ∈ fp)∧Fr fp S S1:=by
 obtain ⟨T,hTe⟩:∃ T,T=(.slice a l.length l.length::.func (Fn.func g) #[] #[c]::zh::zh::zh::zh::zh::zh::zh::zh::zh::zh::zh::zh::zh::zh::zh::zh::zh::zh::zh::zh::zh::zh::zh::zh::zh::zh::zh::zh::zh::zh::zh::zh::zh::zh::zh::zh::zh::zh::zh::zh::[]):=⟨_,rfl⟩
 have hr:zC zi O true slices_DeleteFunc.code T S=zC zi O true slices_DeleteFunc.code T S:=rfl
 have hKE:∀ S S1,K S→Ext S S1→K S1:=fun S S1 h k=>hK S S1 h (Fr.ext k)
 cases hany:l.any p with
 | false =>
  have c1:kF (zU zi O) slices_IndexFunc.id [.slice a l.length l.length,.func (Fn.func g) #[] #[c]] S=some (.int .i64 (-1),S)∨∃ S1,kF (zU zi O) slices_IndexFunc.id [.slice a l.length l.length,.func (Fn.func g) #[] #[c]] S=some (.int .i64 (-1),S1)∧Ext S S1:=by
   rcases hA with ⟨rfl,rfl,rfl⟩ | ⟨r,anc,rest,rfl,rfl,hg,hx⟩
   ·
    obtain ⟨S1,q1,q2,q3⟩:=slices_IndexFunc.vC (l:=[]) (p:=p) (g:=g) (c:=c) (K:=K) (k:=0) Okl.none (by decide) (by simp) (fun S x h hx=>by cases hx) hKE hS
    exact .inr ⟨S1,aaQ q1 (by rfl),q2⟩
   ·
    left
    have hf:=WX (f:=fW) (e:=2) (q:=r) (l:=l) (rest:=rest) (anc:=anc) (S:=S) qN hg
    obtain ⟨S1,q1,q2,q3⟩:=slices_IndexFunc.vC (k:=1) Okl.read (by decide) hlen hp hKE (hK S (S.set r .dead) hS ((Fr.refl _ _).set (.inl (by simp)) _))
    rw [xE hany] at q1
    exact JI (WU hf (by rfl)) q1 (by rfl) rfl q3
  have fin:∀ S1,kF (zU zi O) slices_IndexFunc.id [.slice a l.length l.length,.func (Fn.func g) #[] #[c]] S=some (.int .i64 (-1),S1)→Ext S S1→∃ a' S1 fp',zU zi O slices_DeleteFunc.id [.slice a l.length l.length,.func (Fn.func g) #[] #[c]] S=some (.slice a' (l.filter fun x=>!p x).length (l.filter fun x=>!p x).length,S1) ∧
   yX fW 2 S1 a' (l.filter fun x=>!p x) fp'∧(∀ x ∈ fp',x ∈ fp)∧Fr fp S S1:=fun S1 c1 x1=>by
   have c1:kF (zU zi O) 27 [.slice a l.length l.length,.func (Fn.func g) #[] #[c]] S=some (.int .i64 (-1),S1):=c1
   conv at hr =>
    rhs
    rw [hTe]
    simp only [slices_DeleteFunc.code,slices_DeleteFunc.rs,zSs,reduceIte,zk,zn,zo,zq,yC,c1]
   rw [hTe] at hr
   rw [filter_none hany]
   exact ⟨a,S1,fp,slices_DeleteFunc.runs hr (.inr rfl),hA.ext x1,fun x hx=>hx,Fr.ext x1⟩
  rcases c1 with c1 | ⟨S1,c1,x1⟩
  ·
   exact fin S c1 (Ext.refl _)
  ·
   exact fin S1 c1 x1
 | true =>
  obtain ⟨pre,x,suf,hl,hpre,hpx,hidx⟩:=YR (i:=0) hany
  have hA1:=hA
  rcases hA1 with ⟨_,h,_⟩ | ⟨r,anc,rest,rfl,rfl,hg,hx⟩
  ·
   rw [h] at hany;cases hany
  have hf:=WX (f:=fW) (e:=2) (q:=r) (l:=l) (rest:=rest) (anc:=anc) (S:=S) qN hg
  obtain ⟨S1,q1,q2,q3⟩:=slices_IndexFunc.vC (k:=1) Okl.read (by decide) hlen hp hKE (hK S (S.set r .dead) hS ((Fr.refl _ _).set (.inl (by simp)) _))
  rw [hidx,Int.zero_add] at q1
  have c1:kF (zU zi O) 27 [.slice (some ⟨r,0,none⟩) l.length l.length,.func (Fn.func g) #[] #[c]] S=some (.int .i64 pre.length,S):=JI (WU hf (by rfl)) q1 (by rfl) rfl q3
  have hll:l.length=pre.length+1+suf.length:=by rw [hl];simp;omega
  have d1:((pre.length:Int)=-1)=False:=eq_false (by omega)
  have wi:IntKind.i64.wrap ((pre.length:Int)+1)=((pre++[x]).length:Int):=by rw [wrap_i64 (by omega) (by omega)];simp
  conv at hr =>
   rhs
   rw [hTe]
   simp only [slices_DeleteFunc.code,slices_DeleteFunc.rs,zSs,reduceIte,zk,zn,zo,zq,yC,c1,d1,wi]
  generalize hL:wW (zC zi O true slices_DeleteFunc.jd) _ _=rr at hr
  obtain ⟨T',S',mid',fp',rfl,w2,w3,w4,w5,w6,w7,w8,w9⟩:=slices_DeleteFunc.round (l:=l) (p:=p) (g:=g) (c:=c) (K:=K) (r:=r) (n:=l.length) (fp0:=r::anc) (S0:=S) hlen hp hc hK suf pre [x] (fp:=r::anc) hL rfl hS (Fr.refl _ _) (fun y hy=>by rw [hl];simp [hy]) rfl rfl rfl rfl (by rw [hl];simp) (by simp) (by rw [List.append_assoc,List.singleton_append,← hl];exact hA) (fun y hy=>hy)
  have hfil:l.filter (fun x=>!p x)=pre++suf.filter fun x=>!p x:=by
   rw [hl,List.filter_append,filter_none hpre,List.filter_cons_of_neg (by simp [hpx])]
  rw [← hfil] at w4 w5 w7
  generalize hkp:(l.filter fun x=>!p x)=kept at *
  rcases w7 with ⟨h,_⟩ | ⟨r',anc2,rest2,ha2,hfa2,hg2,hx2⟩
  ·
   cases h
  simp only [Option.some.injEq,Addr.mk.injEq,and_true] at ha2
  subst ha2
  have hkn:kept.length+mid'.length=l.length:=by rw [w5];simp
  have sl:∀ S3,S3.get r=S'.get r→wU zi false 58 (.slice (some ⟨r,0,none⟩) l.length l.length) (some (.int .i64 kept.length)) none S3=some (.slice (some ⟨r,0+kept.length * 2,none⟩) mid'.length mid'.length,S3):=fun S3 h3=>by
   rw [YB (P:=zi) (t:=58) (o:=0) (n:=l.length) (c:=l.length) (l:=kept.length) (h:=l.length) rfl (h3.trans hg2) zS zY rfl rfl (by omega) (by omega) (by omega)]
   simp only [Int.toNat_natCast]
   rw [show l.length - kept.length=mid'.length by omega]
  obtain ⟨S4,rest4,e1,e2,e3,e4,e5⟩:=yX.clear (P:=zi) (t:=58) (te:=64) (S:=S') zS zY vY rfl rfl rfl (by decide) qN (pre:=kept) (suf:=mid') hg2 w6 (by rw [← hfa2];exact hx2) mid'.length
  have sl2:wU zi false 58 (.slice (some ⟨r,0,none⟩) l.length l.length) none (some (.int .i64 kept.length)) S4=some (.slice (some ⟨r,0,none⟩) kept.length kept.length,S4):=by
   rw [YB (P:=zi) (t:=58) (o:=0) (n:=l.length) (c:=l.length) (l:=0) (h:=kept.length) rfl e2 zS zY rfl rfl (by omega) (by omega) (by omega)]
   simp
  have hTe':=slices_DeleteFunc.eta w2
  rw [w3,w4] at hTe'
  have sl1:=sl S' rfl
  conv at hr =>
   rhs
   simp only [zSs,reduceIte,zk,zn,zo,zq]
   rw [hTe']
   simp only [slices_DeleteFunc.code,slices_DeleteFunc.rs,zSs,reduceIte,zk,zn,zo,zq,sl1,e1,sl2]
  rw [hTe] at hr
  refine ⟨some ⟨r,0,none⟩,S4,[r],slices_DeleteFunc.runs hr (.inr rfl),.inr ⟨r,[],rest4,rfl,rfl,e2,fun y hy=>by rw [List.mem_singleton.1 hy];exact ⟨by rw [e3];exact (hx2 r (by rw [hfa2];simp)).1,e5⟩⟩,fun y hy=>by rw [List.mem_singleton.1 hy];simp,w9.trans e4 fun y hy=>.inl (w8 y (by rw [hfa2];exact hy))⟩
end
end Go.Proofs.Ytpjglojnipjgfaa
namespace Go.Proofs.Ytpjglojnipjgfaa
open Go.Abs
abbrev zI.id:FuncId:=29
noncomputable def zI.code:Code:=(.seq (.region 0 (reg Try.f29 0) false) (.seq (.region 1 (reg Try.f29 1) false) Code.ret))
theorem zI.body:Try.f29.body=some zI.code:=by kernel_rfl
variable (b c d o p q z s t u i k l m n:Value) (S:zx)
theorem zI.r0 :ji zi ⟨false,false,false⟩ (zU zi O) (reg Try.f29 0) (reg Try.f29 0).toList ([b,c,d,o,p,q,z,s,t,u,i,k,l,m,n]) S =
  ( some ([b,c,d,o,p,q,Value.bool false,s,t,u,i,k,l,m,n],S)):=by
 kernel_rfl
theorem zI.r1 :ji zi ⟨false,false,false⟩ (zU zi O) (reg Try.f29 1) (reg Try.f29 1).toList ([b,c,d,o,p,q,z,s,t,u,i,k,l,m,n]) S =
  (zT (wY zi BinOp.geq 3 (dem b) (dem c) S) (fun f g=>gdK (dem f) true (ret b) g (fun w A=>gdK (dem f) true (ret d) A (fun x B=>gdK (dem f) true (wY zi BinOp.leq 3 (dem w) (dem x)) B (fun y C=>zT (vK (dem f) y (Value.bool false) C) (fun r D=>some ([b,c,d,o,p,q,r,dem b,dem c,f,dem f,dem w,dem x,y,dem r],D)) ()) ()) ()) ()) ()):=by
 refine sP Try.f29 1 0 (v:=b) ?_
 refine sP Try.f29 1 1 (v:=c) ?_
 refine sD Try.f29 1 2 (fun f g=>?_)
 refine sP Try.f29 1 3 (v:=f) ?_
 refine sG Try.f29 1 4 (j:=3) (fun w A=>?_)
 refine sG Try.f29 1 5 (j:=3) (fun x B=>?_)
 refine sG Try.f29 1 6 (j:=3) (fun y C=>?_)
 refine sD Try.f29 1 7 (fun r D=>?_)
 refine sP Try.f29 1 8 (v:=r) ?_
 kernel_rfl
theorem zI.rs:type_of% (ad6 @zI.r0 (@zI.r1)):=ad6 @zI.r0 (@zI.r1)
theorem zI.runs {b c d:Value} {S g:zx} {e:AEx} {T:List Value} (h:zC zi O false zI.code ([b,c,d,zh,zh,zh,zh,zh,zh,zh,zh,zh,zh,zh,zh]) S=some (e,T,g)) (he:e=.normal∨e=.ret):zU zi O 29 [b,c,d] S=some (T.getD 6 zh,g) :=
 jJ rfl rfl Try.func29 (by decide) zI.body (by exact h) he (wH (a:=T.getD 6 zh) ((show zJ zi T g Try.f29.results.toList=zJ zi T g [(ResultVar.tmp 6)] from by kernel_rfl).trans (by simp only [zJ])) (by kernel_rfl))
end Go.Proofs.Ytpjglojnipjgfaa
namespace Go.Proofs.Ytpjglojnipjgfaa
open Go.Abs
abbrev zO.id:FuncId:=25
noncomputable def zO.code:Code:=(.seq (.region 0 (reg Try.f25 0) false) (.seq (.region 1 (reg Try.f25 1) false) Code.ret))
theorem zO.body:Try.f25.body=some zO.code:=by kernel_rfl
variable (b g w k l m n o p q f:Value) (S:zx)
theorem zO.r0 :ji zi ⟨false,false,false⟩ (zU zi O) (reg Try.f25 0) (reg Try.f25 0).toList ([b,g,w,k,l,m,n,o,p,q,f]) S =
  ( some ([b,g,Value.bool false,k,l,m,n,o,p,q,f],S)):=by
 kernel_rfl
theorem zO.r1 :ji zi ⟨false,false,false⟩ (zU zi O) (reg Try.f25 1) (reg Try.f25 1).toList ([b,g,w,k,l,m,n,o,p,q,f]) S =
  (zT ((zU zi O) 29 [(dem (dem b)),(.int .i64 65536),(.int .i64 268435455)] S) (fun c d=>gdK (dem c) true (ret b) d (fun r x=>gdK (dem c) true (wY zi BinOp.rem 3 (dem r) (.int .i64 65536)) x (fun s y=>gdK (dem c) true (wY zi BinOp.quo 3 s (.int .i64 256)) y (fun t z=>gdK (dem c) true (wY zi BinOp.lss 3 t (.int .i64 7)) z (fun u A=>zT (vK (dem c) u (Value.bool false) A) (fun i B=>some ([b,g,i,dem b,c,dem c,dem r,s,t,u,dem i],B)) ()) ()) ()) ()) ()) ()):=by
 refine sP Try.f25 1 0 (v:=b) ?_
 refine sD Try.f25 1 1 (fun c d=>?_)
 refine sP Try.f25 1 2 (v:=c) ?_
 refine sG Try.f25 1 3 (j:=2) (fun r x=>?_)
 refine sG Try.f25 1 4 (j:=2) (fun s y=>?_)
 refine sG Try.f25 1 5 (j:=2) (fun t z=>?_)
 refine sG Try.f25 1 6 (j:=2) (fun u A=>?_)
 refine sD Try.f25 1 7 (fun i B=>?_)
 refine sP Try.f25 1 8 (v:=i) ?_
 kernel_rfl
theorem zO.rs:type_of% (ad6 @zO.r0 (@zO.r1)):=ad6 @zO.r0 (@zO.r1)
theorem zO.runs {b:Value} {S d:zx} {e:AEx} {T:List Value} (h:zC zi O false zO.code ([b,zh,zh,zh,zh,zh,zh,zh,zh,zh,zh]) S=some (e,T,d)) (he:e=.normal∨e=.ret):zU zi O 25 [b] S=some (T.getD 2 zh,d) :=
 jJ rfl rfl Try.func25 (by decide) zO.body (by exact h) he (wH (a:=T.getD 2 zh) ((show zJ zi T d Try.f25.results.toList=zJ zi T d [(ResultVar.tmp 2)] from by kernel_rfl).trans (by simp only [zJ])) (by kernel_rfl))
end Go.Proofs.Ytpjglojnipjgfaa
namespace Go.Proofs.Ytpjglojnipjgfaa
open Go.Abs
abbrev zM.id:FuncId:=19
noncomputable def zM.code:Code:=(.seq (.region 0 (reg Try.f19 0) false) (.seq (.seq (.region 1 (reg Try.f19 1) false) (.cond (.tmp 5) (.seq (.region 2 (reg Try.f19 2) false) Code.ret) Code.skip)) (.seq (.region 3 (reg Try.f19 3) false) Code.ret)))
theorem zM.body:Try.f19.body=some zM.code:=by kernel_rfl
variable (b c l f g i j k:Value) (S:zx)
theorem zM.r0 :ji zi ⟨false,false,false⟩ (zU zi O) (reg Try.f19 0) (reg Try.f19 0).toList ([b,c,l,f,g,i,j,k]) S =
  ( some ([b,c,.int .i64 0,f,g,i,j,k],S)):=by
 kernel_rfl
theorem zM.r1 :ji zi ⟨false,false,false⟩ (zU zi O) (reg Try.f19 1) (reg Try.f19 1).toList ([b,c,l,f,g,i,j,k]) S =
  (zT ((zU zi O) 25 [(dem (dem b))] S) (fun m d=>zT (aUn zi UnOp.not m d) (fun n o=>some ([b,c,l,dem b,m,n,j,k],o)) ()) ()):=by
 kernel_rfl
theorem zM.r2 :ji zi ⟨false,false,false⟩ (zU zi O) (reg Try.f19 2) (reg Try.f19 2).toList ([b,c,l,f,g,i,j,k]) S =
  ( some ([b,c,.int .i64 0,f,g,i,j,k],S)):=by
 kernel_rfl
theorem zM.r3 :ji zi ⟨false,false,false⟩ (zU zi O) (reg Try.f19 3) (reg Try.f19 3).toList ([b,c,l,f,g,i,j,k]) S =
  (zT (wY zi BinOp.quo 3 (dem b) (.int .i64 65536) S) (fun m d=>some ([b,c,m,f,g,i,dem b,dem m],d)) ()):=by
 kernel_rfl
theorem zM.rs:type_of% (ad6 @zM.r0 (ad6 @zM.r1 (ad6 @zM.r2 (@zM.r3)))):=ad6 @zM.r0 (ad6 @zM.r1 (ad6 @zM.r2 (@zM.r3)))
theorem zM.runs {b:Value} {S d:zx} {e:AEx} {T:List Value} (h:zC zi O false zM.code ([b,zh,zh,zh,zh,zh,zh,zh]) S=some (e,T,d)) (he:e=.normal∨e=.ret):zU zi O 19 [b] S=some (T.getD 2 zh,d) :=
 jJ rfl rfl Try.func19 (by decide) zM.body (by exact h) he (wH (a:=T.getD 2 zh) ((show zJ zi T d Try.f19.results.toList=zJ zi T d [(ResultVar.tmp 2)] from by kernel_rfl).trans (by simp only [zJ])) (by kernel_rfl))
end Go.Proofs.Ytpjglojnipjgfaa
namespace Go.Proofs.Ytpjglojnipjgfaa
open Go.Abs
def btw (n a b:Int):Bool:=decide (a≤n) && decide (n≤b)
theorem acg {n a b:Int}:btw n a b=true ↔ a≤n∧n≤b:=by simp [btw]
def xX (n:Int):Bool:=btw n 65536 268435455 && decide (n % 65536 / 256 < 7)
theorem ZE {n:Int}:xX n=true ↔ 65536≤n∧n≤268435455∧n % 65536 / 256 < 7:=by simp [xX,btw,and_assoc]
def Jk (n:Int):Int:=if xX n=true then n / 65536 else 0
theorem J6 {n m:Int} (h:0≤n):n.tmod m=n % m:=Int.tmod_eq_emod_of_nonneg h
theorem QZ {n m:Int} (h:0≤n):n.tdiv m=n / m:=Int.tdiv_eq_ediv_of_nonneg h
theorem abz:(65536:Int)≠0:=by decide
theorem ad5:(256:Int)≠0:=by decide
theorem zI.v (n a b:Int) (S:zx):zU zi O zI.id [.int .i64 n,.int .i64 a,.int .i64 b] S=some (.bool (btw n a b),S):=by
 obtain ⟨T,hTe⟩:∃ T,T=(.int .i64 n::.int .i64 a::.int .i64 b::zh::zh::zh::zh::zh::zh::zh::zh::zh::zh::zh::zh::[]):=⟨_,rfl⟩
 have hr:zC zi O false zI.code T S=zC zi O false zI.code T S:=rfl
 unfold btw
 by_cases h1:a≤n
 ·
  conv at hr =>
   rhs
   rw [hTe]
   simp only [zI.code,zI.rs,zSs,reduceIte,zk,zn,zo,zq,decide_eq_true h1]
  rw [decide_eq_true h1,Bool.true_and]
  rw [hTe] at hr
  exact zI.runs hr (.inr rfl)
 ·
  conv at hr =>
   rhs
   rw [hTe]
   simp only [zI.code,zI.rs,zSs,reduceIte,zk,zn,zo,zq,decide_eq_false h1]
  rw [decide_eq_false h1,Bool.false_and]
  rw [hTe] at hr
  exact zI.runs hr (.inr rfl)
theorem zO.v (n:Int) (S:zx):zU zi O zO.id [.int .i64 n] S=some (.bool (xX n),S):=by
 obtain ⟨T,hTe⟩:∃ T,T=(.int .i64 n::zh::zh::zh::zh::zh::zh::zh::zh::zh::zh::[]):=⟨_,rfl⟩
 have hr:zC zi O false zO.code T S=zC zi O false zO.code T S:=rfl
 unfold xX
 cases h1:btw n 65536 268435455
 ·
  conv at hr =>
   rhs
   rw [hTe]
   simp only [zO.code,zO.rs,zSs,reduceIte,zk,zn,zo,zq,zI.v,h1]
  rw [hTe] at hr
  exact zO.runs hr (.inr rfl)
 ·
  have hb:=acg.mp h1
  have q1:IntKind.i64.wrap ((n.tmod 65536).tdiv 256)=n % 65536 / 256:=by
   rw [J6 (by omega),QZ (by omega),wrap_i64 (by omega) (by omega)]
  conv at hr =>
   rhs
   rw [hTe]
   simp only [zO.code,zO.rs,zSs,reduceIte,zk,zn,zo,zq,zI.v,h1,WB _ _ _ abz,QS _ _ _ ad5,q1]
  rw [hTe] at hr
  rw [Bool.true_and]
  exact zO.runs hr (.inr rfl)
theorem zM.v (n:Int) (S:zx):zU zi O zM.id [.int .i64 n] S=some (.int .i64 (Jk n),S):=by
 obtain ⟨T,hTe⟩:∃ T,T=(.int .i64 n::zh::zh::zh::zh::zh::zh::zh::[]):=⟨_,rfl⟩
 have hr:zC zi O false zM.code T S=zC zi O false zM.code T S:=rfl
 unfold Jk
 cases h1:xX n
 ·
  conv at hr =>
   rhs
   rw [hTe]
   simp only [zM.code,zM.rs,zSs,reduceIte,zk,zn,zo,zq,zO.v,h1]
  rw [hTe] at hr
  exact zM.runs hr (.inr rfl)
 ·
  have hb:=ZE.mp h1
  have q1:IntKind.i64.wrap (n.tdiv 65536)=n / 65536:=by
   rw [QZ (by omega),wrap_i64 (by omega) (by omega)]
  conv at hr =>
   rhs
   rw [hTe]
   simp only [zM.code,zM.rs,zSs,reduceIte,zk,zn,zo,zq,zO.v,h1,QS _ _ _ abz,q1]
  rw [hTe] at hr
  exact zM.runs hr (.inr rfl)
end Go.Proofs.Ytpjglojnipjgfaa
namespace Go.Proofs.Ytpjglojnipjgfaa
open Go.Abs
structure Ft (S:zx) (q:Nat) (me nodes:Int) (l:List jB) (fp:List Nat):Prop where
 lt:q < S.next
 len:l.length≤32
 cell:∃ a,S.get q=some (.cells [.int .i64 me,.int .i64 nodes,.slice a l.length l.length] (.own []) 0)∧yX fW 2 S a l fp
section
variable {S:zx} {q:Nat} {me nodes:Int} {l:List jB} {fp:List Nat}
theorem Ft.Qc (h:Ft S q me nodes l fp):q ∉ fp:=by
 obtain ⟨a,h1,h2⟩:=h.cell
 exact h2.Qc h1
theorem Ft.flt (h:Ft S q me nodes l fp):∀ x ∈ fp,x < S.next:=by
 obtain ⟨a,h1,h2⟩:=h.cell
 exact h2.lt
theorem Ft.ext {S1:zx} (h:Ft S q me nodes l fp) (k:Ext S S1):Ft S1 q me nodes l fp:=by
 obtain ⟨a,h1,h2⟩:=h.cell
 exact ⟨Nat.lt_of_lt_of_le h.lt k.next,h.len,a,by rw [k.get q h.lt];exact h1,h2.ext k⟩
def Yz (q:Nat) (S S1:zx):Prop:=S.next≤S1.next∧∀ p cs own,p≠q→p < S.next→S.get p=some (.cells cs own 0)→S1.get p=S.get p
theorem Yz.refl (q:Nat) (S:zx):Yz q S S:=⟨Nat.le_refl _,fun _ _ _ _ _ _=>rfl⟩
theorem Yz.trans {S1 S2:zx} (h:Yz q S S1) (k:Yz q S1 S2):Yz q S S2:=⟨Nat.le_trans h.1 k.1,fun p cs own hp hl hg=>by
 have h1:=h.2 p cs own hp hl hg
 rw [k.2 p cs own hp (Nat.lt_of_lt_of_le hl h.1) (h1.trans hg),h1]⟩
theorem Yz.ext {S1:zx} (h:Ext S S1):Yz q S S1:=⟨h.next,fun p _ _ _ hl _=>h.get p hl⟩
theorem jg.v (me nodes:Int) (S:zx):∃ S1,zU zi O jg.id [.int .i64 me,.int .i64 nodes] S=some (.pointer (some ⟨S.next,0,none⟩),S1)∧Ft S1 S.next me nodes [] []∧Ext S S1:=by
 obtain ⟨T,hTe⟩:∃ T,T=(.int .i64 me::.int .i64 nodes::zh::zh::zh::zh::zh::zh::zh::[]):=⟨_,rfl⟩
 have hr:zC zi O false jg.code T S=zC zi O false jg.code T S:=rfl
 have bd:=xY (y0:=.int .i64 me) (y1:=.int .i64 nodes) rfl rfl S
 obtain ⟨S1,b1,b2,b3,b4⟩:=abo (.agg [.int .i64 me,.int .i64 nodes,.slice none 0 0].toArray) S
 conv at hr =>
  rhs
  rw [hTe]
  simp only [jg.code,jg.rs,zSs,reduceIte,zk,zn,zo,zq,bd,b1]
 rw [hTe] at hr
 exact ⟨_,jg.runs hr (.inr rfl),⟨b4,by simp,none,b2,.inl ⟨rfl,rfl,rfl⟩⟩,b3⟩
theorem aaF {k:Nat} {l:List Int} {x:Int} {S:zx} (h:Okl k l) (hk:k≠1) (hl:l.length≤17592186044000):yY zi 29 29 (iz k l) (sv 2 1 1 [.int .i64 x]) S=some (iz 2 (l++[x]),S):=by
 rw [adL];exact acp h hk hl
theorem zA.round {r:Nat} (hn:l.length≤32):∀ (suf pre:List jB) {T:List Value} {rr:St} {S:zx} {k:Nat},wW (zC zi O false zA.jd) T S=rr→T.length=22 →
  T.getD 3 zh=iz k (pre.map (·.name))→T.getD 9 zh=.slice (some ⟨r,0,none⟩) l.length l.length→T.getD 10 zh=.int .i64 l.length→T.getD 11 zh=.int .i64 pre.length→l=pre++suf→Okl k (pre.map (·.name))→k≠1→yX fW 2 S (some ⟨r,0,none⟩) l fp →
  ∃ T' S' k',rr=some (.exit 0,T',S')∧T'.length=22∧T'.getD 3 zh=iz k' (l.map (·.name))∧Okl k' (l.map (·.name))∧k'≠1∧Ext S S':=by
 intro suf
 induction suf with
 | nil =>
  intro pre T rr S k hL hT h3 h9 h10 h11 hl hk k1 hA
  have hTe:=zA.eta hT
  rw [h3,h9,h10,h11] at hTe
  have hr:zC zi O false zA.jd T S=zC zi O false zA.jd T S:=rfl
  have hd:¬ (pre.length:Int) < (l.length:Int):=by rw [hl];simp
  conv at hr =>
   rhs
   rw [hTe]
   simp only [zA.jd,zA.code,zA.rs,zSs,reduceIte,zk,zn,zo,zq,hd]
  have hp:l=pre:=by rw [hl,List.append_nil]
  exact ⟨_,_,k,hL.symm.trans (jA hr (by simp)),rfl,by rw [hp];rfl,by rw [hp];exact hk,k1,Ext.refl _⟩
 | cons x suf ih =>
  intro pre T rr S k hL hT h3 h9 h10 h11 hl hk k1 hA
  have hTe:=zA.eta hT
  rw [h3,h9,h10,h11] at hTe
  have hr:zC zi O false zA.jd T S=zC zi O false zA.jd T S:=rfl
  have hd:(pre.length:Int) < (l.length:Int):=by rw [hl];simp;omega
  have ix:∀ S,zW zi 58 (.slice (some ⟨r,0,none⟩) l.length l.length) (.int .i64 pre.length) S=some (.pointer (some ⟨r,0+pre.length * 2,none⟩),S):=fun S=>by
   rw [JW (o:=0) (n:=l.length) (c:=l.length) (q:=r) zS zY (by omega) hd,Int.toNat_natCast]
  have hA0:=hA
  rcases hA0 with ⟨h,_⟩ | ⟨r',anc,rest,ha,hfa,hg,hx⟩
  ·
   cases h
  simp only [Option.some.injEq,Addr.mk.injEq,and_true] at ha
  subst ha
  have l1:jm zi false 64 (.pointer (some ⟨r,0+pre.length * 2,none⟩)) S=some (wv x,S):=yX.load (P:=zi) (te:=64) (S:=S) yU zY qN abx (x:=x) (pre:=pre) (suf:=suf) (by rw [← hl];exact hg)
  obtain ⟨S1,n1,n2,n3,n4⟩:=Zu (P:=zi) (t:=64) (z:=[.int .i64 0,.int .i64 0]) (xs:=fW x) (x:=wv x) S rfl zY rfl rfl
  have al:=xQ S
  have l2:jm zi false 3 (.pointer (some ⟨S.next,0+0,none⟩)) S1=some (.int .i64 x.name,S1):=yx (o:=0+0) n2 ZU rfl
  have hpl:pre.length≤l.length:=by rw [hl];simp
  have ap:=fun S=>aaF (S:=S) (x:=x.name) hk k1 (by rw [List.length_map];omega)
  have wi:IntKind.i64.wrap ((pre.length:Int)+1)=((pre++[x]).length:Int):=by rw [wrap_i64 (by omega) (by omega)];simp
  conv at hr =>
   rhs
   rw [hTe]
   simp only [zA.jd,zA.code,zA.rs,zSs,reduceIte,zk,zn,zo,zq,hd,ix,l1,al,n1,yR,l2,Xc,ap,wi]
  have hs:=(jY hr).symm.trans hL
  obtain ⟨T',S',k',q1,q2,q3,q4,q5,q6⟩:=ih (pre++[x]) (k:=2) hs rfl (by rw [List.map_append];rfl) rfl rfl rfl (by rw [hl];simp) Okl.own (by decide) (hA.ext n3)
  exact ⟨T',S',k',q1,q2,q3,q4,q5,n3.trans q6⟩
theorem zA.v (h:Ft S q me nodes l fp):∃ k S1,zU zi O zA.id [.pointer (some ⟨q,0,none⟩)] S=some (iz k (l.map (·.name)),S1)∧Okl k (l.map (·.name))∧k≠1∧Ext S S1:=by
 obtain ⟨T,hTe⟩:∃ T,T=(.pointer (some ⟨q,0,none⟩)::zh::zh::zh::zh::zh::zh::zh::zh::zh::zh::zh::zh::zh::zh::zh::zh::zh::zh::zh::zh::zh::[]):=⟨_,rfl⟩
 have hr:zC zi O false zA.code T S=zC zi O false zA.code T S:=rfl
 obtain ⟨a,h1,h2⟩:=h.cell
 have l1:=ZQ (t:=58) (o:=0+2) h1 wQ rfl
 have ln:=fun S=>ZR zS a l.length l.length S
 conv at hr =>
  rhs
  rw [hTe]
  simp only [zA.code,zA.rs,zSs,reduceIte,zk,zn,zo,zq,wF,jI,l1,ln,goInt]
 generalize hL:wW (zC zi O false zA.jd) _ _=rr at hr
 have fin:∀ T' S' k',rr=some (.exit 0,T',S')→T'.length=22→T'.getD 3 zh=iz k' (l.map (·.name))→Okl k' (l.map (·.name))→k'≠1→Ext S S'→∃ k S1,zU zi O zA.id [.pointer (some ⟨q,0,none⟩)] S=some (iz k (l.map (·.name)),S1)∧Okl k (l.map (·.name))∧k≠1∧Ext S S1:=by
  intro T' S' k' e1 e2 e3 e4 e5 e6
  subst e1
  have hTe':=zA.eta e2
  rw [e3] at hTe'
  conv at hr =>
   rhs
   simp only [zSs,reduceIte,zk,zn,zo,zq]
   rw [hTe']
   simp only [zA.code,zA.rs,zSs,reduceIte,zk,zn,zo,zq]
  rw [hTe] at hr
  exact ⟨k',S',zA.runs hr (.inr rfl),e4,e5,e6⟩
 rcases h2 with ⟨rfl,rfl,rfl⟩ | ⟨r,anc,rest,rfl,rfl,k3,k4⟩
 ·
  generalize hT2:List.cons _ _=T2 at hL
  have hlen:T2.length=22:=by rw [← hT2];rfl
  have g3:T2.getD 3 zh=.slice none 0 0:=by rw [← hT2];rfl
  have g10:T2.getD 10 zh=.int .i64 0:=by rw [← hT2];rfl
  have g11:T2.getD 11 zh=.int .i64 0:=by rw [← hT2];rfl
  have hTe2:=zA.eta hlen
  rw [g3,g10,g11] at hTe2
  have hr2:zC zi O false zA.jd T2 S=zC zi O false zA.jd T2 S:=rfl
  have hd:¬ (0:Int) < (0:Int):=by decide
  conv at hr2 =>
   rhs
   rw [hTe2]
   simp only [zA.jd,zA.code,zA.rs,zSs,reduceIte,zk,zn,zo,zq,hd]
  exact fin _ _ 0 (hL.symm.trans (jA hr2 (by simp))) rfl rfl Okl.none (by decide) (Ext.refl _)
 ·
  obtain ⟨T',S',k',q1,q2,q3,q4,q5,q6⟩:=zA.round h.len l [] (k:=0) hL rfl rfl rfl rfl rfl rfl Okl.none (by decide) (.inr ⟨r,anc,rest,rfl,rfl,k3,k4⟩)
  exact fin T' S' k' q1 q2 q3 q4 q5 q6
def Zi (l:List jB) (n:Int):Bool:=!decide (Jk n=0) && !(l.any fun w=>decide (n=w.name)) && decide (l.length < 32)
def JR (l:List jB) (n:Int):List jB:=if Zi l n then l++[⟨n,0⟩] else l
theorem Xz (l:List jB) (n:Int):((l.map (·.name)).any fun x=>decide (n=x))=l.any fun w=>decide (n=w.name):=by rw [List.any_map];rfl
theorem zB.v (h:Ft S q me nodes l fp) (n:Int):∃ S1 fp',zU zi O zB.id [.pointer (some ⟨q,0,none⟩),.int .i64 n] S=some (.bool (Zi l n),S1) ∧
  Ft S1 q me nodes (JR l n) fp'∧(∀ x ∈ fp',x ∈ fp∨S.next≤x)∧Fr (q::fp) S S1:=by
 obtain ⟨T,hTe⟩:∃ T,T=(.pointer (some ⟨q,0,none⟩)::.int .i64 n::zh::zh::zh::zh::zh::zh::zh::zh::zh::zh::zh::zh::zh::zh::zh::zh::zh::zh::zh::zh::zh::zh::zh::zh::zh::zh::zh::zh::zh::zh::zh::[]):=⟨_,rfl⟩
 have hr:zC zi O true zB.code T S=zC zi O true zB.code T S:=rfl
 have c1:=fun S=>aaQ (zM.v n S) (by rfl)
 by_cases h0:Jk n=0
 ·
  have hb:Zi l n=false:=by simp [Zi,h0]
  have d0:=decide_eq_true h0
  refine ⟨S,fp,?_,by unfold JR;rw [hb];exact h,fun x hx=>.inl hx,Fr.refl _ _⟩
  rw [hb]
  conv at hr =>
   rhs
   rw [hTe]
   simp only [zB.code,zB.rs,zSs,reduceIte,zk,zn,zo,zq,c1,d0]
  rw [hTe] at hr
  exact zB.runs hr (.inr rfl)
 ·
  have d0:=decide_eq_false h0
  obtain ⟨k,S1,w1,w2,w3,w4⟩:=zA.v h
  have c2:kF (zU zi O) 18 [.pointer (some ⟨q,0,none⟩)] S=some (iz k (l.map (·.name)),S1):=aaQ w1 (by rfl)
  have c3:∀ S,kF (zU zi O) 20 [iz (if k=2 then 1 else k) (l.map (·.name)),.int .i64 n] S=some (.bool (l.any fun w=>decide (n=w.name)),S):=fun S=>by
   rw [← Xz]
   exact aaQ (slices_Contains.v w2.dem (acH k) (by rw [List.length_map];have:=h.len;omega) S) (by simp only [List.all_cons,List.all_nil,acD];rfl)
  have h1:=h.ext w4
  cases ha:l.any fun w=>decide (n=w.name) with
  | true =>
   have hb:Zi l n=false:=by simp only [Zi,ha,Bool.not_true,Bool.and_false,Bool.false_and]
   refine ⟨S1,fp,?_,by unfold JR;rw [hb];exact h1,fun x hx=>.inl hx,Fr.ext w4⟩
   rw [hb]
   rw [ha] at c3
   conv at hr =>
    rhs
    rw [hTe]
    simp only [zB.code,zB.rs,zSs,reduceIte,zk,zn,zo,zq,c1,d0,c2,c3]
   rw [hTe] at hr
   exact zB.runs hr (.inr rfl)
  | false =>
   rw [ha] at c3
   obtain ⟨a,g1,g2⟩:=h1.cell
   have l1:=ZQ (t:=58) (o:=0+2) g1 wQ rfl
   have ln:=fun S=>ZR zS a l.length l.length S
   by_cases hl:l.length < 32
   ·
    have hb:Zi l n=true:=by simp only [Zi,ha,d0,Bool.not_false,Bool.true_and,decide_eq_true hl]
    have dl:¬ (32:Int)≤(l.length:Int):=by omega
    have bd:=Zt (y0:=.int .i64 n) rfl
    obtain ⟨S2,s1,s2,s3⟩:∃ S2,jl zi 58 1 [(0,wv ⟨n,0⟩)] S1=some (.slice (some ⟨S1.next,0,none⟩) 1 1,S2)∧S2.get S1.next=some (.cells (fW ⟨n,0⟩) (.own []) 2)∧S2=S1.push (.cells (fW ⟨n,0⟩) (.own []) 2) :=
     ⟨_,by kernel_rfl,by rw [zx.zQ,if_pos rfl],rfl⟩
    have x2:Ext S1 S2:=by rw [s3];exact Ext.push _ _
    have src:Zp zi 58 2 (.slice (some ⟨S1.next,0,none⟩) 1 1) S2=some (([⟨n,0⟩]:List jB).length,([⟨n,0⟩]:List jB).flatMap fW) :=
     (Vo (o:=0) (m:=1) (e:=2) zS s2 (by show 2≤2;omega) (by rfl)).trans rfl
    obtain ⟨a',S3,fp',e1,e2,e3,e4⟩:=yX.append (P:=zi) (t:=58) (te:=64) (tx:=58) zS zY vY rfl Yo (by decide) qN aa9 (g2.ext x2) src (by simp;omega) (by simp;omega)
    have hq3:S3.get q=some (.cells [.int .i64 me,.int .i64 nodes,.slice a l.length l.length] (.own []) 0):=by
     have hq1:q < S1.next:=h1.lt
     rw [e4.2 q (Nat.lt_of_lt_of_le hq1 x2.next) h1.Qc,x2.get q hq1,g1]
    have st:=qP (P:=zi) (t:=58) (o:=0+2) (x:=.slice a' (l++[(⟨n,0⟩:jB)]).length (l++[(⟨n,0⟩:jB)]).length) hq3 kL rfl rfl (by simp)
    generalize hS4:(S3.kills []).set q _=S4 at st
    refine ⟨S4,fp',?_,⟨?_,?_,a',?_,?_⟩,fun x hx=>?_,?_⟩
    ·
     rw [hb]
     conv at hr =>
      rhs
      rw [hTe]
      simp only [zB.code,zB.rs,zSs,reduceIte,zk,zn,zo,zq,c1,d0,c2,c3,wF,jI,l1,ln,goInt,dl,bd,s1,e1,st]
     rw [hTe] at hr
     exact zB.runs hr (.inr rfl)
    ·
     have:=x2.next;have:=e4.1;have:=h1.lt
     subst hS4
     simp [zx.kills];omega
    ·
     unfold JR;rw [hb];simp;omega
    ·
     subst hS4;unfold JR;rw [hb,zx.jc,if_pos rfl];rfl
    ·
     have hq4:q ∉ fp':=e2.Qc hq3
     subst hS4
     unfold JR;rw [hb]
     exact e2.keep (by simp [zx.kills]) fun x hx=>by rw [zx.jc,if_neg (fun e=>hq4 (by rw [← e];exact hx))];rfl
    ·
     rcases e3 x hx with hx | hx
     ·
      exact .inl hx
     ·
      exact .inr (by have:=w4.next;have:=x2.next;omega)
    ·
     have f1:Fr (q::fp) S S2:=(Fr.ext w4).trans (Fr.ext x2) (fp2:=[]) fun x hx=>by cases hx
     have f2:Fr (q::fp) S S3:=f1.trans e4 fun x hx=>.inl (by simp [hx])
     subst hS4
     exact f2.set (.inl (by simp)) _
   ·
    have hb:Zi l n=false:=by simp only [Zi,decide_eq_false hl,Bool.and_false]
    have dl:(32:Int)≤(l.length:Int):=by omega
    refine ⟨S1,fp,?_,by unfold JR;rw [hb];exact h1,fun x hx=>.inl hx,Fr.ext w4⟩
    rw [hb]
    conv at hr =>
     rhs
     rw [hTe]
     simp only [zB.code,zB.rs,zSs,reduceIte,zk,zn,zo,zq,c1,d0,c2,c3,wF,jI,l1,ln,goInt,dl]
    rw [hTe] at hr
    exact zB.runs hr (.inr rfl)
theorem zF.v {c:Nat} {n:Int} (x:jB) {S:zx} (hc:S.get c=some (.cells [.int .i64 n] (.own []) 0)) (hl:c < S.next):∃ S1,zU zi O zF.id [wv x,.pointer (some ⟨c,0,none⟩)] S=some (.bool (decide (x.name=n)),S1)∧Ext S S1∧S1.log=S.log:=by
 obtain ⟨T,hTe⟩:∃ T,T=(wv x::.pointer (some ⟨c,0,none⟩)::zh::zh::zh::zh::zh::zh::[]):=⟨_,rfl⟩
 have hr:zC zi O false zF.code T S=zC zi O false zF.code T S:=rfl
 have b1:Xm (wv x) S=some (.pointer (some ⟨S.next,0,none⟩),S.push (.cells (fW x) (.own []) 0)):=rfl
 have g1:(S.push (.cells (fW x) (.own []) 0)).get S.next=some (.cells (fW x) (.own []) 0):=by rw [zx.zQ,if_pos rfl]
 have g2:(S.push (.cells (fW x) (.own []) 0)).get c=some (.cells [.int .i64 n] (.own []) 0):=by rw [zx.zQ,if_neg (by omega)];exact hc
 have l1:jm zi false 3 (.pointer (some ⟨S.next,0+0,none⟩)) (S.push (.cells (fW x) (.own []) 0))=some (.int .i64 x.name,S.push (.cells (fW x) (.own []) 0)):=yx (o:=0+0) g1 ZU rfl
 have l2:jm zi false 3 (.pointer (some ⟨c,0,none⟩)) (S.push (.cells (fW x) (.own []) 0))=some (.int .i64 n,S.push (.cells (fW x) (.own []) 0)):=yx (o:=0) g2 ZU rfl
 refine ⟨S.push (.cells (fW x) (.own []) 0),?_,Ext.push _ _,rfl⟩
 ·
  conv at hr =>
   rhs
   rw [hTe]
   simp only [zF.code,zF.rs,zSs,reduceIte,zk,zn,zo,zq,b1,yR,l1,l2]
  rw [hTe] at hr
  exact zF.runs hr (.inr rfl)
def Xo (l:List jB) (n:Int):List jB:=l.filter fun w=>!decide (w.name=n)
theorem zH.v (h:Ft S q me nodes l fp) (n:Int):∃ v S1 fp',zU zi O zH.id [.pointer (some ⟨q,0,none⟩),.int .i64 n] S=some (v,S1) ∧
  Ft S1 q me nodes (Xo l n) fp'∧(∀ x ∈ fp',x ∈ fp∨S.next≤x)∧Fr (q::fp) S S1:=by
 obtain ⟨T,hTe⟩:∃ T,T=(.pointer (some ⟨q,0,none⟩)::.int .i64 n::zh::zh::zh::zh::zh::zh::zh::zh::zh::zh::zh::[]):=⟨_,rfl⟩
 have hr:zC zi O false zH.code T S=zC zi O false zH.code T S:=rfl
 obtain ⟨S0,b1,b2,b3,b4⟩:=abo (.int .i64 n) S
 have h0:=h.ext b3
 obtain ⟨a,h1,h2⟩:=h0.cell
 have l1:=ZQ (t:=58) (o:=0+2) h1 wQ rfl
 have hcn:S.next ∉ fp:=fun hx=>by have:=h.flt _ hx;omega
 obtain ⟨a',S1,fp',e1,e2,e3,e4⟩:=slices_DeleteFunc.v (l:=l) (p:=fun w=>decide (w.name=n)) (g:=23) (c:=.pointer (some ⟨S.next,0,none⟩)) (K:=fun S1=>S1.get S.next=some (.cells [.int .i64 n] (.own []) 0)∧S.next < S1.next) h2 (by have:=h.len;omega)
  (fun S1 x hK _=>zF.v x hK.1 hK.2) rfl (fun S1 S2 hK hF=>⟨by rw [hF.2 _ hK.2 hcn];exact hK.1,Nat.lt_of_lt_of_le hK.2 hF.1⟩) ⟨b2,b4⟩
 have e1:zU zi O 22 [.slice a l.length l.length,.func (Fn.func 23) #[] #[.pointer (some ⟨S.next,0,none⟩)]] S0=some (.slice a' (Xo l n).length (Xo l n).length,S1):=e1
 have hq:S1.get q=some (.cells [.int .i64 me,.int .i64 nodes,.slice a l.length l.length] (.own []) 0):=by rw [e4.2 q h0.lt h0.Qc,h1]
 have st:=qP (P:=zi) (t:=58) (o:=0+2) (x:=.slice a' (Xo l n).length (Xo l n).length) hq kL rfl rfl (by simp)
 conv at hr =>
  rhs
  rw [hTe]
  simp only [zH.code,zH.rs,zSs,reduceIte,zk,zn,zo,zq,b1,wF,jI,l1,kY,e1,st]
 rw [hTe] at hr
 have hq4:q ∉ fp':=fun hx=>h.Qc (e3 q hx)
 refine ⟨_,_,fp',zH.runs hr (.inl rfl),⟨?_,?_,a',?_,?_⟩,fun x hx=>.inl (e3 x hx),?_⟩
 ·
  have:=h0.lt;have:=e4.1
  simp [zx.kills];omega
 ·
  exact Nat.le_trans (List.length_filter_le _ _) h.len
 ·
  rw [zx.jc,if_pos rfl];rfl
 ·
  exact e2.keep (by simp [zx.kills]) fun x hx=>by rw [zx.jc,if_neg (fun e=>hq4 (by rw [← e];exact hx))];rfl
 ·
  have f2:Fr (q::fp) S S1:=(Fr.ext b3).trans e4 fun x hx=>.inl (by simp [hx])
  exact f2.set (.inl (by simp)) _
end
end Go.Proofs.Ytpjglojnipjgfaa
namespace Go.Proofs.Ytpjglojnipjgfaa
open Go.Abs
structure Jb where
 to:Int
 frm:Int
 val:Int
def fA (x:Jb):List Value:=[.int .i64 x.to,.int .i64 2,.int .i64 x.frm,.int .i64 0,.int .i64 0,.int .i64 x.val,.int .i64 0,.int .i64 0,.int .i64 0,.int .i64 0,.int .i64 0,.int .i64 0,.int .i64 0,.slice none 0 0]
theorem abe (x:Jb):(fA x).length=14:=rfl
theorem adn (x:Jb):(fA x).all (·.oneCell')=true:=rfl
abbrev az (k:Nat) (l:List Jb):Value:=vs fA 14 k l
theorem adu (x:Jb) (S:zx):wE zi 26 1 [(0,.agg [Value.int .i64 x.to,.int .i64 2,.int .i64 x.frm,.int .i64 0,.int .i64 0,.int .i64 x.val,.int .i64 0,.int .i64 0,.int .i64 0,.int .i64 0,.int .i64 0,.int .i64 0,.int .i64 0,.slice none 0 0].toArray)] S=some (az 2 [x],S):=by kernel_rfl
theorem ab2 {k:Nat} {l:List Jb} {x:Jb} {S:zx} (h:Okl k l) (hk:k≠1) (hl:l.length≤1000000):yY zi 26 26 (az k l) (az 2 [x]) S=some (az 2 (l++[x]),S):=by
 rw [YG qA xI Vs rfl Vx (by decide) qA abe adn h hk Okl.own (by simp;omega) (by simp;omega),if_neg (fun h=>by have:=h.2;simp at this)]
def adD (me nodes asked:Int):Int:=(me+1+asked % (nodes - 1)) % nodes
def J7 (me nodes:Int) (w:jB):Jb:=⟨adD me nodes w.asked,me,w.name⟩
def aay (w:jB):jB:=⟨w.name,w.asked+1⟩
def kG (me nodes:Int) (l:List jB):List Jb:=if nodes < 2 then [] else (l.take 8).map (J7 me nodes)
def ZP (nodes:Int) (l:List jB):List jB:=if nodes < 2 then l else (l.take 8).map aay++l.drop 8
theorem Qe (nodes:Int) (l:List jB):(ZP nodes l).map (·.name)=l.map (·.name):=by
 unfold ZP
 split
 ·
  rfl
 ·
  rw [List.map_append,List.map_map,show ((·.name) ∘ aay)=(·.name) from rfl,← List.map_append,List.take_append_drop]
section
variable {S:zx} {q:Nat} {me nodes:Int} {l:List jB} {fp:List Nat}
theorem X4 {x:jB} {pre suf:List jB} {rest:List Value} (j:Nat) (hj:j < 2):((pre++x::suf).flatMap fW++rest)[0+pre.length * 2+j]?=(fW x)[j]?:=by
 have h:=yX.abP (f:=fW) (e:=2) qN (x:=x) (pre:=pre) (suf:=suf) (rest:=rest)
 have h2:=congrArg (·[j]?) h
 simp only [List.getElem?_take,if_pos hj,List.getElem?_drop] at h2
 exact h2
theorem aaY {r:Nat} {anc:List Nat} {x:jB} {pre suf:List jB} {rest:List Value} (n:Int) (hg:S.get r=some (.cells ((pre++x::suf).flatMap fW++rest) (.own anc) 2)) (hx:∀ k ∈ r::anc,k < S.next∧Many S k) :
  ∃ S1,yP zi 3 (.pointer (some ⟨r,0+pre.length * 2+1,none⟩)) (.int .i64 n) S=some (zh,S1)∧S1.get r=some (.cells ((pre++⟨x.name,n⟩::suf).flatMap fW++rest) (.own []) 2)∧S1.next=S.next∧Fr (r::anc) S S1∧Many S1 r:=by
 have e0:∀ y:jB,(pre++y::suf).flatMap fW++rest=(pre.flatMap fW++[.int .i64 y.name])++([.int .i64 y.asked]++(suf.flatMap fW++rest)):=fun y=>by
  rw [List.flatMap_append,List.flatMap_cons]
  simp [fW]
 have hs:splice ((pre++x::suf).flatMap fW++rest) (0+pre.length * 2+1) [.int .i64 n]=(pre++⟨x.name,n⟩::suf).flatMap fW++rest:=by
  rw [e0,e0]
  exact vG (B:=[Value.int .i64 x.asked]) (C:=[Value.int .i64 n]) (by rw [List.length_append,jo qN];simp) (by rfl)
 have hle:0+pre.length * 2+1+1≤((pre++x::suf).flatMap fW++rest).length:=by
  rw [List.length_append,jo qN,List.length_append,List.length_cons];omega
 have:=qP (P:=zi) (t:=3) (o:=0+pre.length * 2+1) (x:=.int .i64 n) hg acJ rfl rfl hle
 refine ⟨_,this,?_,by simp,((Fr.refl _ _).kills (fun k hk=>.inl (by simp [hk]))).set (.inl (by simp)) _,Zm (by decide) (vJ (hx r (by simp)).2)⟩
 rw [zx.jc,if_pos rfl]
 show some (jX.cells (splice _ _ [.int .i64 n]) _ _)=_
 rw [hs]
theorem zy.round {m:Nat} (hm0:0≤me∧me < nodes) (hn0:2≤nodes∧nodes≤7) (hnq:q ∉ fp) (hll:l.length≤32) (ha:∀ w ∈ l,0≤w.asked∧w.asked < 1099511627776) (hml:m≤l.length) {a:Option Addr} {S0:zx}:∀ (j:Nat) (pre suf:List jB) {T:List Value} {rr:St} {S:zx} {k:Nat} {fp1:List Nat},wW (zC zi O false zy.jd) T S=rr→T.length=71 →
  T.getD 0 zh=.pointer (some ⟨q,0,none⟩)→T.getD 3 zh=az k (pre.map (J7 me nodes))→T.getD 12 zh=.int .i64 m→T.getD 13 zh=.int .i64 pre.length→l=pre++suf→pre.length+j=m→Okl k (pre.map (J7 me nodes))→k≠1 →
  S.get q=some (.cells [.int .i64 me,.int .i64 nodes,.slice a l.length l.length] (.own []) 0)→yX fW 2 S a (pre.map aay++suf) fp1→(∀ x ∈ fp1,x ∈ fp)→Fr fp S0 S→q < S.next →
  ∃ T' S' k' fp',rr=some (.exit 0,T',S')∧T'.length=71∧T'.getD 3 zh=az k' ((l.take m).map (J7 me nodes))∧Okl k' ((l.take m).map (J7 me nodes))∧k'≠1 ∧
   S'.get q=some (.cells [.int .i64 me,.int .i64 nodes,.slice a l.length l.length] (.own []) 0)∧yX fW 2 S' a ((l.take m).map aay++l.drop m) fp'∧(∀ x ∈ fp',x ∈ fp)∧Fr fp S0 S'∧q < S'.next:=by
 intro j
 induction j with
 | zero =>
  intro pre suf T rr S k fp1 hL hT h0 h3 h12 h13 hl hj hk k1 hq hA hfp hF hlt
  have hTe:=zy.eta hT
  rw [h0,h3,h12,h13] at hTe
  have hr:zC zi O false zy.jd T S=zC zi O false zy.jd T S:=rfl
  have hd:¬ (pre.length:Int) < (m:Int):=by omega
  conv at hr =>
   rhs
   rw [hTe]
   simp only [zy.jd,zy.code,zy.rs,zSs,reduceIte,zk,zn,zo,zq,hd]
  have hp:l.take m=pre:=by rw [hl,← hj,Nat.add_zero,List.take_left]
  have hp2:l.drop m=suf:=by rw [hl,← hj,Nat.add_zero,List.drop_left]
  exact ⟨_,_,k,fp1,hL.symm.trans (jA hr (by simp)),rfl,by rw [hp];rfl,by rw [hp];exact hk,k1,hq,by rw [hp,hp2];exact hA,hfp,hF,hlt⟩
 | succ j ih =>
  intro pre suf T rr S k fp1 hL hT h0 h3 h12 h13 hl hj hk k1 hq hA hfp hF hlt
  have hTe:=zy.eta hT
  rw [h0,h3,h12,h13] at hTe
  have hr:zC zi O false zy.jd T S=zC zi O false zy.jd T S:=rfl
  have hd:(pre.length:Int) < (m:Int):=by omega
  obtain ⟨x,suf,rfl⟩:∃ x s,suf=x::s:=by
   cases suf with
   | nil=>rw [hl,List.append_nil] at hml;omega
   | cons x s=>exact ⟨x,s,rfl⟩
  have hin:(pre.length:Int) < (l.length:Int):=by omega
  have hA0:=hA
  rcases hA0 with ⟨_,h,_⟩ | ⟨r,anc,rest,ha2,hfa,hg,hx⟩
  ·
   simp at h
  subst ha2
  have ax:=ha x (by rw [hl];simp)
  have l0:=yx (t:=3) (o:=0+0) hq ZU rfl
  have l1:=yx (t:=3) (o:=0+1) hq ZU rfl
  have l2:=ZQ (t:=58) (o:=0+2) hq wQ rfl
  have d2:¬ nodes < 2:=by omega
  have ix:∀ S,zW zi 58 (.slice (some ⟨r,0,none⟩) l.length l.length) (.int .i64 pre.length) S=some (.pointer (some ⟨r,0+pre.length * 2,none⟩),S):=fun S=>by
   rw [JW (o:=0) (n:=l.length) (c:=l.length) (q:=r) zS zY (by omega) hin,Int.toNat_natCast]
  have lpre:(pre.map aay).length=pre.length:=by simp
  have la:jm zi false 3 (.pointer (some ⟨r,0+pre.length * 2+1,none⟩)) S=some (.int .i64 x.asked,S):=yx hg ZU (by
   have:=X4 (x:=x) (pre:=pre.map aay) (suf:=suf) (rest:=rest) 1 (by decide)
   rw [lpre] at this
   rw [this];rfl)
  obtain ⟨S1,s1,s2,s3,s4,s5⟩:=aaY (x.asked+1) hg (by rw [← hfa];exact hx)
  rw [lpre] at s1
  have hq1:S1.get q=some (.cells [.int .i64 me,.int .i64 nodes,.slice (some ⟨r,0,none⟩) l.length l.length] (.own []) 0):=by
   rw [s4.2 q hlt (fun h=>hnq (hfp q (by rw [hfa];exact h))),hq]
  have m0:=yx (t:=3) (o:=0+0) hq1 ZU rfl
  have ln1:jm zi false 3 (.pointer (some ⟨r,0+pre.length * 2+0,none⟩)) S1=some (.int .i64 x.name,S1):=yx s2 ZU (by
   have:=X4 (x:=⟨x.name,x.asked+1⟩) (pre:=pre.map aay) (suf:=suf) (rest:=rest) 0 (by decide)
   rw [lpre] at this
   rw [this];rfl)
  have hne:nodes - 1≠0:=by omega
  have hne2:nodes≠0:=by omega
  have w1:IntKind.i64.wrap (me+1)=me+1:=wrap_i64 (by omega) (by omega)
  have w2:IntKind.i64.wrap (nodes - 1)=nodes - 1:=wrap_i64 (by omega) (by omega)
  have hmod:=Int.emod_nonneg x.asked hne
  have hmod2:=Int.emod_lt_of_pos x.asked (show 0 < nodes - 1 by omega)
  have t1:x.asked.tmod (nodes - 1)=x.asked % (nodes - 1):=J6 ax.1
  have w3:IntKind.i64.wrap (me+1+x.asked % (nodes - 1))=me+1+x.asked % (nodes - 1):=wrap_i64 (by omega) (by omega)
  have t2:(me+1+x.asked % (nodes - 1)).tmod nodes=adD me nodes x.asked:=J6 (by omega)
  have w4:IntKind.i64.wrap (x.asked+1)=x.asked+1:=wrap_i64 (by omega) (by omega)
  have wi:IntKind.i64.wrap ((pre.length:Int)+1)=((pre++[x]).length:Int):=by rw [wrap_i64 (by omega) (by omega)];simp
  have bm:=fun S=>Zg (y0:=.int .i64 2) (y1:=.int .i64 me) (y4:=.int .i64 x.name) rfl rfl rfl S
  have ba:=fun (y0:Value) {y1 y2 y3 y4 y5 y6 y7 y8 y9 y10 y11 y12 y13:Value} (h:y0.cells=#[y0]) S=>kS (y0:=y0) (y1_0:=y1) (y1_1:=y2) (y1_2:=y3) (y1_3:=y4) (y1_4:=y5) (y1_5:=y6) (y1_6:=y7) (y1_7:=y8) (y1_8:=y9) (y1_9:=y10) (y1_10:=y11) (y1_11:=y12) (y1_12:=y13) h S
  have ba:=fun S=>kS (y0:=.int .i64 (adD me nodes x.asked)) (y1_0:=.int .i64 2) (y1_1:=.int .i64 me) (y1_2:=.int .i64 0) (y1_3:=.int .i64 0) (y1_4:=.int .i64 x.name) (y1_5:=.int .i64 0) (y1_6:=.int .i64 0) (y1_7:=.int .i64 0) (y1_8:=.int .i64 0) (y1_9:=.int .i64 0) (y1_10:=.int .i64 0) (y1_11:=.int .i64 0) (y1_12:=.slice none 0 0) rfl S
  have bs:=adu (J7 me nodes x)
  have bs:∀ S,wE zi 26 1 [(0,.agg [Value.int .i64 (adD me nodes x.asked),.int .i64 2,.int .i64 me,.int .i64 0,.int .i64 0,.int .i64 x.name,.int .i64 0,.int .i64 0,.int .i64 0,.int .i64 0,.int .i64 0,.int .i64 0,.int .i64 0,.slice none 0 0].toArray)] S=some (az 2 [J7 me nodes x],S):=bs
  have ap:=fun S=>ab2 (S:=S) (x:=J7 me nodes x) hk k1 (by rw [List.length_map];omega)
  conv at hr =>
   rhs
   rw [hTe]
   simp only [zy.jd,zy.code,zy.rs,zSs,reduceIte,zk,zn,zo,zq,hd,wF,Zh,qH,jI,l0,l1,l2,d2,ix,Zy,yR,la,w1,w2,w3,WB _ _ _ hne,WB _ _ _ hne2,t1,t2,w4,s1,m0,ln1,bm,ba,bs,ap,wi]
  have hs:=(jY hr).symm.trans hL
  have hA1:yX fW 2 S1 (some ⟨r,0,none⟩) ((pre++[x]).map aay++suf) [r]:=.inr ⟨r,[],rest,rfl,rfl,by rw [s2];simp [aay],fun y hy=>by
   rw [List.mem_singleton.1 hy]
   exact ⟨by rw [s3];exact (hx r (by rw [hfa];simp)).1,s5⟩⟩
  exact ih (pre++[x]) suf (k:=2) hs rfl rfl (by rw [List.map_append];rfl) rfl rfl (by rw [hl];simp) (by simp;omega) Okl.own (by decide) hq1 hA1 (fun y hy=>hfp y (by rw [hfa,List.mem_singleton.1 hy];simp)) (hF.trans s4 fun y hy=>.inl (hfp y (by rw [hfa];exact hy))) (by rw [s3];exact hlt)
theorem zy.v (h:Ft S q me nodes l fp) (hm0:0≤me∧me < nodes) (hn0:nodes≤7) (ha:∀ w ∈ l,0≤w.asked∧w.asked < 1099511627776):∃ k S1 fp',zU zi O zy.id [.pointer (some ⟨q,0,none⟩)] S=some (az k (kG me nodes l),S1)∧Okl k (kG me nodes l)∧k≠1 ∧
  Ft S1 q me nodes (ZP nodes l) fp'∧(∀ x ∈ fp',x ∈ fp)∧Fr fp S S1:=by
 obtain ⟨T,hTe⟩:∃ T,T=(.pointer (some ⟨q,0,none⟩)::zh::zh::zh::zh::zh::zh::zh::zh::zh::zh::zh::zh::zh::zh::zh::zh::zh::zh::zh::zh::zh::zh::zh::zh::zh::zh::zh::zh::zh::zh::zh::zh::zh::zh::zh::zh::zh::zh::zh::zh::zh::zh::zh::zh::zh::zh::zh::zh::zh::zh::zh::zh::zh::zh::zh::zh::zh::zh::zh::zh::zh::zh::zh::zh::zh::zh::zh::zh::zh::zh::[]):=⟨_,rfl⟩
 have hr:zC zi O false zy.code T S=zC zi O false zy.code T S:=rfl
 obtain ⟨a,h1,h2⟩:=h.cell
 have l2:=ZQ (t:=58) (o:=0+2) h1 wQ rfl
 have ln:=fun S=>ZR zS a l.length l.length S
 have mn:(if (8:Int) < (l.length:Int) then (8:Int) else l.length)=((min 8 l.length:Nat):Int):=by split <;> omega
 conv at hr =>
  rhs
  rw [hTe]
  simp only [zy.code,zy.rs,zSs,reduceIte,zk,zn,zo,zq,wF,jI,l2,ln,goInt,adU,mn]
 generalize hL:wW (zC zi O false zy.jd) _ _=rr at hr
 have fin:∀ T' S' k' fp' l1 l2,rr=some (.exit 0,T',S')→T'.length=71→T'.getD 3 zh=az k' l1→l1=kG me nodes l→l2=ZP nodes l→Okl k' l1→k'≠1→S'.get q=some (.cells [.int .i64 me,.int .i64 nodes,.slice a l.length l.length] (.own []) 0)→yX fW 2 S' a l2 fp'→l2.length=l.length→(∀ x ∈ fp',x ∈ fp)→Fr fp S S'→q < S'.next →
   ∃ k S1 fp',zU zi O zy.id [.pointer (some ⟨q,0,none⟩)] S=some (az k (kG me nodes l),S1)∧Okl k (kG me nodes l)∧k≠1∧Ft S1 q me nodes (ZP nodes l) fp'∧(∀ x ∈ fp',x ∈ fp)∧Fr fp S S1:=by
  intro T' S' k' fp' l1 l2 e1 e2 e3 e4 e5 e6 e7 e8 e9 e10 e11 e12 e13
  subst e1
  have hTe':=zy.eta e2
  rw [e3] at hTe'
  conv at hr =>
   rhs
   simp only [zSs,reduceIte,zk,zn,zo,zq]
   rw [hTe']
   simp only [zy.code,zy.rs,zSs,reduceIte,zk,zn,zo,zq]
  rw [hTe] at hr
  subst e4 e5
  exact ⟨k',S',fp',zy.runs hr (.inr rfl),e6,e7,⟨e13,by rw [e10];exact h.len,a,by rw [e10];exact e8,e9⟩,e11,e12⟩
 by_cases hn:nodes < 2
 ·
  have ta:kG me nodes l=[]:=by rw [kG,if_pos hn]
  have tl:ZP nodes l=l:=by rw [ZP,if_pos hn]
  generalize hT2:List.cons _ _=T2 at hL
  have hlen:T2.length=71:=by rw [← hT2];rfl
  have g0:T2.getD 0 zh=.pointer (some ⟨q,0,none⟩):=by rw [← hT2];rfl
  have g3:T2.getD 3 zh=.slice none 0 0:=by rw [← hT2];rfl
  have g12:T2.getD 12 zh=.int .i64 (min 8 l.length:Nat):=by rw [← hT2];rfl
  have g13:T2.getD 13 zh=.int .i64 0:=by rw [← hT2];rfl
  have hTe2:=zy.eta hlen
  rw [g0,g3,g12,g13] at hTe2
  have hr2:zC zi O false zy.jd T2 S=zC zi O false zy.jd T2 S:=rfl
  have l1:=yx (t:=3) (o:=0+1) h1 ZU rfl
  by_cases h0:(0:Int) < ((min 8 l.length:Nat):Int)
  ·
   conv at hr2 =>
    rhs
    rw [hTe2]
    simp only [zy.jd,zy.code,zy.rs,zSs,reduceIte,zk,zn,zo,zq,h0,wF,qH,l1,hn]
   exact fin _ _ 0 fp [] l (hL.symm.trans (jA hr2 (by simp))) rfl rfl ta.symm tl.symm Okl.none (by decide) h1 h2 rfl (fun x hx=>hx) (Fr.refl _ _) h.lt
  ·
   conv at hr2 =>
    rhs
    rw [hTe2]
    simp only [zy.jd,zy.code,zy.rs,zSs,reduceIte,zk,zn,zo,zq,h0]
   exact fin _ _ 0 fp [] l (hL.symm.trans (jA hr2 (by simp))) rfl rfl ta.symm tl.symm Okl.none (by decide) h1 h2 rfl (fun x hx=>hx) (Fr.refl _ _) h.lt
 ·
  obtain ⟨T',S',k',fp',q1,q2,q3,q4,q5,q6,q7,q8,q9,q10⟩:=zy.round (m:=min 8 l.length) (q:=q) (me:=me) (nodes:=nodes) (l:=l) (fp:=fp) (a:=a) (S0:=S) hm0 ⟨by omega,hn0⟩ h.Qc h.len ha (by omega) (min 8 l.length) [] l (k:=0) (fp1:=fp) hL rfl rfl rfl rfl rfl rfl (by simp) Okl.none (by decide) h1 (by simpa using h2) (fun x hx=>hx) (Fr.refl _ _) h.lt
  have et:l.take (min 8 l.length)=l.take 8:=by
   by_cases h8:l.length≤8
   ·
    rw [List.take_of_length_le (by omega),List.take_of_length_le h8]
   ·
    rw [Nat.min_eq_left (by omega)]
  have ed:l.drop (min 8 l.length)=l.drop 8:=by
   by_cases h8:l.length≤8
   ·
    rw [List.drop_eq_nil_of_le (by omega),List.drop_eq_nil_of_le h8]
   ·
    rw [Nat.min_eq_left (by omega)]
  rw [et] at q3 q4 q7
  rw [ed] at q7
  exact fin T' S' k' fp' _ _ q1 q2 q3 (by rw [kG,if_neg hn]) (by rw [ZP,if_neg hn]) q4 q5 q6 q7 (by simp;omega) q8 q9 q10
end
end Go.Proofs.Ytpjglojnipjgfaa
namespace Go.Proofs.Ytpjglojnipjgfaa
open Go.Abs
structure adQ (kn ka:Nat) (l:List jB):Prop where
 n:Okl kn (l.map (·.name))
 a:Okl ka (l.map (·.asked))
 n2:kn≠2
 a2:ka≠2
theorem adQ.read {l:List jB}:adQ 1 1 l:=⟨Okl.read,Okl.read,by decide,by decide⟩
section
variable {S:zx} {me nodes:Int} {l:List jB} {kn ka q e:Nat} {own:Own}
theorem KP (n:Int):(!decide (Jk n=0))=xX n:=by
 unfold Jk
 cases h:xX n with
 | false=>rfl
 | true =>
  have:=ZE.mp h
  rw [if_pos rfl,decide_eq_false (by omega)];rfl
end
end Go.Proofs.Ytpjglojnipjgfaa
namespace Go.Proofs.Ytpjglojnipjgfaa
open Go.Abs
section
variable {me nodes:Int} {l:List jB} {kn ka:Nat}
theorem XR (x:jB) (l:List jB) (n:Int):Xo (x::l) n=if x.name=n then Xo l n else x::Xo l n:=by
 unfold Xo
 by_cases h:x.name=n
 ·
  rw [if_pos h,List.filter_cons_of_neg (by simp [h])]
 ·
  rw [if_neg h,List.filter_cons_of_pos (by simp [h])]
end
end Go.Proofs.Ytpjglojnipjgfaa
namespace Go.Proofs.Ytpjglojnipjgfaa
open Go.Abs
theorem qm.v (S:zx):zU zi O 8 [] S=some (.bool true,S):=aaz (n:=20) (by kernel_rfl)
section
variable {l:List Jb}
end
end Go.Proofs.Ytpjglojnipjgfaa
namespace Go.Proofs.Ytpjglojnipjgfaa
open Go.Abs
def wl (m:Nat):List jB:=(List.range m).map fun i:Nat=>⟨65536 * ((i:Int)+1),0⟩
theorem adi (m:Nat):(wl m).length=m:=by simp [wl]
theorem acI (m:Nat):wl (m+1)=wl m++[⟨65536 * ((m:Int)+1),0⟩]:=by simp [wl,List.range_succ]
theorem abp {m:Nat} {w:jB} (h:w ∈ wl m):∃ i:Nat,i < m∧w.name=65536 * ((i:Int)+1)∧w.asked=0:=by
 simp only [wl,List.mem_map,List.mem_range] at h
 obtain ⟨i,h1,rfl⟩:=h
 exact ⟨i,h1,rfl,rfl⟩
theorem WZ {m:Nat} (h:m < 32):Zi (wl m) (65536 * ((m:Int)+1))=true:=by
 have h1:(wl m).any (fun w=>decide (65536 * ((m:Int)+1)=w.name))=false:=by
  rw [List.any_eq_false]
  intro w hw
  obtain ⟨i,h1,h2,_⟩:=abp hw
  rw [h2]
  simp
  omega
 have h2:xX (65536 * ((m:Int)+1))=true:=ZE.mpr ⟨by omega,by omega,by omega⟩
 unfold Zi
 rw [KP,h2,h1,adi,decide_eq_true h];rfl
theorem Xd {m:Nat} (h:m < 32):JR (wl m) (65536 * ((m:Int)+1))=wl (m+1):=by
 unfold JR
 rw [WZ h,if_pos rfl,acI]
theorem ach (k:Int) (h0:0≤k) (h1:k≤1000) (S:zx):qW zi .shl 3 (.int .i64 k) (.int .u64 16) S=some (.int .i64 (65536 * k),S):=by
 rw [aaZ _ _ _ _ (by decide)]
 have e:(2:Int) ^ (min (Int.toNat 16) (IntKind.bits .i64))=65536:=by decide
 rw [e,wrap_i64 (by omega) (by omega),Int.mul_comm]
theorem adx (S:zx):qJ zi 54 S=some (.pointer (some ⟨S.next,0,none⟩),S.push (.cells [.int .i64 0,.int .i64 0,.int .i64 0,.int .i64 0,.int .i64 0,.int .i64 0,.int .i64 0,.int .i64 0,.int .i64 0,.int .i64 0,.int .i64 0,.int .i64 0,.int .i64 0,.slice none 0 0] (.own []) 0)):=by kernel_rfl
abbrev ad2 (x:Jb):Value:=.agg [Value.int .i64 x.to,.int .i64 2,.int .i64 x.frm,.int .i64 0,.int .i64 0,.int .i64 x.val,.int .i64 0,.int .i64 0,.int .i64 0,.int .i64 0,.int .i64 0,.int .i64 0,.int .i64 0,.slice none 0 0].toArray
theorem ade {k:Nat} {l pre suf:List Jb} {x:Jb} (hk:Okl k l) (hl:l=pre++x::suf) (S:zx):zW zi 26 (az k l) (.int .i64 pre.length) S=some (EP [Value.int .i64 x.to,.int .i64 2,.int .i64 x.frm,.int .i64 0,.int .i64 0,.int .i64 x.val,.int .i64 0,.int .i64 0,.int .i64 0,.int .i64 0,.int .i64 0,.int .i64 0,.int .i64 0,.slice none 0 0],S):=by
 rw [acu qA xI abe hk (by omega) (by rw [hl];simp;omega),abg hl];rfl
theorem ab6 (x:Jb) (S:zx):∃ S2,yP zi 54 (.pointer (some ⟨S.next,0,none⟩)) (ad2 x) (S.push (.cells [.int .i64 0,.int .i64 0,.int .i64 0,.int .i64 0,.int .i64 0,.int .i64 0,.int .i64 0,.int .i64 0,.int .i64 0,.int .i64 0,.int .i64 0,.int .i64 0,.int .i64 0,.slice none 0 0] (.own []) 0))=some (zh,S2)∧S2.get S.next=some (.cells (fA x) (.own []) 0)∧Ext S S2∧S.next < S2.next :=
 Zu (P:=zi) (t:=54) (z:=[.int .i64 0,.int .i64 0,.int .i64 0,.int .i64 0,.int .i64 0,.int .i64 0,.int .i64 0,.int .i64 0,.int .i64 0,.int .i64 0,.int .i64 0,.int .i64 0,.int .i64 0,.slice none 0 0]) (xs:=fA x) (x:=ad2 x) S rfl xI rfl rfl
theorem abQ {k:Nat} {l:List Jb} (hk:Okl k l) (S:zx):Z7 zi 26 (az k l) S=some (goInt l.length,S):=VQ (P:=zi) (t:=26) (f:=fA) (e:=14) (S:=S) qA hk
theorem V5 {nodes:Int} {l:List jB} {w:jB} (h:w ∈ ZP nodes l) {B:Int} (hl:∀ x ∈ l,0≤x.asked∧x.asked≤B):0≤w.asked∧w.asked≤B+1:=by
 unfold ZP at h
 split at h
 ·
  have:=hl w h;omega
 ·
  rcases List.mem_append.1 h with h | h
  ·
   rw [List.mem_map] at h
   obtain ⟨x,hx,rfl⟩:=h
   have:=hl x (List.mem_of_mem_take hx)
   show 0≤x.asked+1∧x.asked+1≤B+1
   omega
  ·
   have:=hl w (List.mem_of_mem_drop h);omega
end Go.Proofs.Ytpjglojnipjgfaa
namespace Go.Proofs.Ytpjglojnipjgfaa
open Go.Abs
namespace fetchOrder
def codes:List (Bool×Ty):=[(false,.int .i64),(false,.int .i64),(false,.int .i64)]
theorem coded:Jy zi 9 [3,3,3]=some codes:=by kernel_rfl
section
variable {me nodes:Int} {q N:Nat}
theorem acZ (hN:N≤32):∀ (d m:Nat) {T:List Value} {r:St} {S:zx} {fp:List Nat},wW (zC zi O false zu.jd) T S=r→T.length=90 →
  T.getD 2 zh=.int .i64 N→T.getD 7 zh=.pointer (some ⟨q,0,none⟩)→T.getD 8 zh=.int .i64 ((m:Int)+1)→N=m+d→Ft S q me nodes (wl m) fp →
  ∃ T' S' fp',r=some (.exit 0,T',S')∧T'.length=90∧T'.getD 2 zh=.int .i64 N∧T'.getD 7 zh=.pointer (some ⟨q,0,none⟩)∧Ft S' q me nodes (wl N) fp':=by
 intro d
 induction d with
 | zero =>
  intro m T r S fp hL hT h2 h7 h8 hm hF
  have hTe:=zu.eta hT
  rw [h2,h7,h8] at hTe
  have hr:zC zi O false zu.jd T S=zC zi O false zu.jd T S:=rfl
  have hd:¬ (m:Int)+1≤(N:Int):=by omega
  conv at hr =>
   rhs
   rw [hTe]
   simp only [zu.jd,zu.code,zu.rs,zSs,reduceIte,zk,zn,zo,zq,hd]
  exact ⟨_,_,fp,hL.symm.trans (jA hr (by simp)),rfl,rfl,rfl,by rw [hm];exact hF⟩
 | succ d ih =>
  intro m T r S fp hL hT h2 h7 h8 hm hF
  have hTe:=zu.eta hT
  rw [h2,h7,h8] at hTe
  have hr:zC zi O false zu.jd T S=zC zi O false zu.jd T S:=rfl
  have hd:(m:Int)+1≤(N:Int):=by omega
  have sh:=ach ((m:Int)+1) (by omega) (by omega)
  obtain ⟨S1,fp1,c1,c2,c3,c4⟩:=zB.v hF (65536 * ((m:Int)+1))
  rw [WZ (by omega)] at c1
  rw [Xd (by omega)] at c2
  have wi:IntKind.i64.wrap ((m:Int)+1+1)=((m+1:Nat):Int)+1:=by rw [wrap_i64 (by omega) (by omega)];omega
  conv at hr =>
   rhs
   rw [hTe]
   simp only [zu.jd,zu.code,zu.rs,zSs,reduceIte,zk,zn,zo,zq,hd,sh,c1,wi]
  exact ih (m+1) ((jY hr).symm.trans hL) rfl rfl rfl rfl (by omega) c2
theorem adf {c:Nat} (hc:c≤32) {A:List Jb} {k:Nat} (hk:Okl k A) (hA:A.length≤8) (hv:∀ (pre suf:List Jb) (x:Jb),A=pre++x::suf→x.val=65536 * ((c:Int)+pre.length+1)):∀ (suf pre:List Jb) {T:List Value} {r:St} {S:zx},wW (zC zi O false zu.WQ) T S=r→T.length=90 →
  T.getD 9 zh=.int .i64 ((c:Int)+1)→T.getD 66 zh=az k A→T.getD 67 zh=.int .i64 A.length→T.getD 68 zh=.int .i64 pre.length→A=pre++suf →
  ∃ T' S',r=some (.exit 4,T',S')∧T'.length=90∧T'.getD 2 zh=T.getD 2 zh∧T'.getD 7 zh=T.getD 7 zh∧T'.getD 9 zh=.int .i64 ((c:Int)+1)∧Ext S S':=by
 intro suf
 induction suf with
 | nil =>
  intro pre T r S hL hT h9 h66 h67 h68 hl
  have hTe:=zu.eta hT
  rw [h9,h66,h67,h68] at hTe
  have hr:zC zi O false zu.WQ T S=zC zi O false zu.WQ T S:=rfl
  have hd:¬ (pre.length:Int) < (A.length:Int):=by rw [hl];simp
  conv at hr =>
   rhs
   rw [hTe]
   simp only [zu.WQ,zu.code,zu.rs,zSs,reduceIte,zk,zn,zo,zq,hd]
  exact ⟨_,_,hL.symm.trans (jA hr (by simp)),rfl,rfl,rfl,rfl,Ext.refl _⟩
 | cons x suf ih =>
  intro pre T r S hL hT h9 h66 h67 h68 hl
  have hTe:=zu.eta hT
  rw [h9,h66,h67,h68] at hTe
  have hr:zC zi O false zu.WQ T S=zC zi O false zu.WQ T S:=rfl
  have hlen:A.length=pre.length+1+suf.length:=by rw [hl];simp;omega
  have hd:(pre.length:Int) < (A.length:Int):=by omega
  have e1:=ade hk hl
  obtain ⟨S2,n1,n2,n3,n4⟩:=ab6 x S
  have l5:jm zi false 3 (.pointer (some ⟨S.next,0+1+4,none⟩)) S2=some (.int .i64 x.val,S2):=yx (o:=0+1+4) n2 ZU rfl
  have w1:IntKind.i64.wrap ((c:Int)+1+pre.length)=(c:Int)+1+pre.length:=wrap_i64 (by omega) (by omega)
  have sh:=ach ((c:Int)+1+pre.length) (by omega) (by omega)
  have q1:(x.val=65536 * ((c:Int)+1+pre.length))=True:=eq_true (by rw [hv pre suf x hl];omega)
  have wi:IntKind.i64.wrap ((pre.length:Int)+1)=((pre++[x]).length:Int):=by rw [wrap_i64 (by omega) (by omega)];simp
  have al:=adx S
  conv at hr =>
   rhs
   rw [hTe]
   simp only [zu.WQ,zu.code,zu.rs,zSs,reduceIte,zk,zn,zo,zq,hd,e1,KY,al,n1,YJ,Yk,l5,w1,sh,q1,wi]
  obtain ⟨T',S',p1,p2,p3,p4,p5,p6⟩:=ih (pre++[x]) ((jY hr).symm.trans hL) rfl rfl rfl rfl rfl (by simp [hl])
  exact ⟨T',S',p1,p2,p3,p4,p5,n3.trans p6⟩
def left (c n:Nat):List Int:=(List.range n).map fun i:Nat=>65536 * ((c:Int)+i+1)
theorem VH (c n:Nat):left c (n+1)=65536 * ((c:Int)+1)::left (c+1) n:=by
 unfold left
 rw [List.range_succ_eq_map,List.map_cons,List.map_map]
 congr 1
 apply List.map_congr_left
 intro i _
 simp only [Function.comp]
 omega
theorem aaL {l:List jB} {c n:Nat} (h:l.map (·.name)=left c (n+1)):(Xo l (65536 * ((c:Int)+1))).map (·.name)=left (c+1) n:=by
 rw [VH] at h
 cases l with
 | nil=>simp at h
 | cons w l =>
  rw [List.map_cons,List.cons.injEq] at h
  rw [XR,if_pos h.1]
  have:Xo l (65536 * ((c:Int)+1))=l:=by
   unfold Xo
   rw [List.filter_eq_self]
   intro x hx
   have h2:x.name ∈ l.map (·.name):=List.mem_map.2 ⟨x,hx,rfl⟩
   rw [h.2] at h2
   unfold left at h2
   rw [List.mem_map] at h2
   obtain ⟨i,_,hi⟩:=h2
   have:x.name≠65536 * ((c:Int)+1):=by omega
   simp [this]
  rw [this,h.2]
theorem XA {l:List jB} {c n:Nat} (h2:2≤nodes) (h:l.map (·.name)=left c n) (pre suf:List Jb) (x:Jb) (hA:kG me nodes l=pre++x::suf):x.val=65536 * ((c:Int)+pre.length+1):=by
 have h1:(kG me nodes l).map (·.val)=(left c n).take 8:=by
  unfold kG
  rw [if_neg (by omega),List.map_map,show ((·.val) ∘ J7 me nodes)=(·.name) from rfl,List.map_take,h]
 rw [hA,List.map_append,List.map_cons] at h1
 have h3:(pre.map (·.val)++x.val::suf.map (·.val))[pre.length]?=((left c n).take 8)[pre.length]?:=by rw [h1]
 rw [List.getElem?_append_right (by simp),List.length_map,Nat.sub_self,List.getElem?_cons_zero,List.getElem?_take] at h3
 split at h3
 ·
  obtain ⟨hb,he⟩:=List.getElem?_eq_some_iff.1 h3.symm
  simp only [left,List.getElem_map,List.getElem_range] at he
  omega
 ·
  cases h3
theorem ac5 (hN:N≤32) (hm0:0≤me∧me < nodes) (hn0:2≤nodes∧nodes≤7):∀ (d c:Nat) {T:List Value} {r:St} {S:zx} {l:List jB} {fp:List Nat},wW (zC zi O false zu.JK) T S=r→T.length=90 →
  T.getD 2 zh=.int .i64 N→T.getD 7 zh=.pointer (some ⟨q,0,none⟩)→T.getD 9 zh=.int .i64 ((c:Int)+1)→N=c+d→Ft S q me nodes l fp→l.map (·.name)=left c d→(∀ w ∈ l,0≤w.asked∧w.asked≤c) →
  ∃ T' S' fp',r=some (.exit 2,T',S')∧T'.length=90∧T'.getD 7 zh=.pointer (some ⟨q,0,none⟩)∧Ft S' q me nodes [] fp':=by
 intro d
 induction d with
 | zero =>
  intro c T r S l fp hL hT h2 h7 h9 hc hF hl hw
  have hTe:=zu.eta hT
  rw [h2,h7,h9] at hTe
  have hr:zC zi O false zu.JK T S=zC zi O false zu.JK T S:=rfl
  have hd:¬ (c:Int)+1≤(N:Int):=by omega
  conv at hr =>
   rhs
   rw [hTe]
   simp only [zu.JK,zu.code,zu.rs,zSs,reduceIte,zk,zn,zo,zq,hd]
  have hnil:l=[]:=by
   cases l with
   | nil=>rfl
   | cons w l=>simp [left] at hl
  subst hnil
  exact ⟨_,_,fp,hL.symm.trans (jA hr (by simp)),rfl,rfl,hF⟩
 | succ d ih =>
  intro c T r S l fp hL hT h2 h7 h9 hc hF hl hw
  have hTe:=zu.eta hT
  rw [h2,h7,h9] at hTe
  have hr:zC zi O false zu.JK T S=zC zi O false zu.JK T S:=rfl
  have hd:(c:Int)+1≤(N:Int):=by omega
  have hlen:l.length=d+1:=by
   have:=congrArg List.length hl
   simpa [left] using this
  obtain ⟨k,S1,fp1,c1,c2,c3,c4,c5,c6⟩:=zy.v hF hm0 hn0.2 (fun w h=>by have:=hw w h;omega)
  have hAl:(kG me nodes l).length=min 8 (d+1):=by
   unfold kG
   rw [if_neg (by omega),List.length_map,List.length_take,hlen]
  have ln:=abQ c2
  have ln2:=abQ c2.dem
  have w1:IntKind.i64.wrap ((N:Int) - ((c:Int)+1))=(N:Int) - ((c:Int)+1):=wrap_i64 (by omega) (by omega)
  have w2:IntKind.i64.wrap ((N:Int) - ((c:Int)+1)+1)=((d+1:Nat):Int):=by rw [wrap_i64 (by omega) (by omega)];omega
  have mn:(if ((d+1:Nat):Int) < 8 then ((d+1:Nat):Int) else 8)=((kG me nodes l).length:Int):=by rw [hAl];split <;> omega
  conv at hr =>
   rhs
   rw [hTe]
   simp only [zu.JK,zu.code,zu.rs,zSs,reduceIte,zk,zn,zo,zq,hd,c1,ln2,goInt,w1,w2,adU,mn]
  generalize hL2:wW (zC zi O false zu.WQ) _ _=r2 at hr
  have hr2:=@adf c (by omega) (kG me nodes l) (if k=2 then 1 else k) c2.dem (by rw [hAl];omega) (fun pre suf x h=>XA hn0.1 hl pre suf x h) (kG me nodes l) [] _ _ _ hL2
  obtain ⟨T2,S2,rfl,p2,p3,p4,p5,p6⟩:=hr2 rfl rfl rfl rfl rfl rfl
  have hT2:=zu.eta p2
  rw [p3,p4,p5] at hT2
  have sh:=ach ((c:Int)+1) (by omega) (by omega)
  obtain ⟨v,S3,fp3,g1,g2,g3,g4⟩:=zH.v (c4.ext p6) (65536 * ((c:Int)+1))
  have wi:IntKind.i64.wrap ((c:Int)+1+1)=((c+1:Nat):Int)+1:=by rw [wrap_i64 (by omega) (by omega)];omega
  conv at hr =>
   rhs
   simp only [zSs,reduceIte,zk,zn,zo,zq]
   rw [hT2]
   simp only [zu.code,zu.rs,zSs,reduceIte,zk,zn,zo,zq,sh,g1,wi]
  exact ih (c+1) ((jY hr).symm.trans hL) rfl rfl rfl rfl (by omega) g2 (aaL (by rw [Qe];exact hl)) (fun w h=>by
   have h1:w ∈ ZP nodes l:=(List.mem_filter.1 h).1
   have:=V5 h1 hw
   omega)
end
theorem run {me nodes names:Int} (S:zx):∃ S',zU zi O 7 [.int .i64 me,.int .i64 nodes,.int .i64 names] S=some (.bool true,S'):=by
 obtain ⟨T,hTe⟩:∃ T,T=(.int .i64 me::.int .i64 nodes::.int .i64 names::zh::zh::zh::zh::zh::zh::zh::zh::zh::zh::zh::zh::zh::zh::zh::zh::zh::zh::zh::zh::zh::zh::zh::zh::zh::zh::zh::zh::zh::zh::zh::zh::zh::zh::zh::zh::zh::zh::zh::zh::zh::zh::zh::zh::zh::zh::zh::zh::zh::zh::zh::zh::zh::zh::zh::zh::zh::zh::zh::zh::zh::zh::zh::zh::zh::zh::zh::zh::zh::zh::zh::zh::zh::zh::zh::zh::zh::zh::zh::zh::zh::zh::zh::zh::zh::zh::zh::[]):=⟨_,rfl⟩
 have hr:zC zi O false zu.code T S=zC zi O false zu.code T S:=rfl
 have al:=fun S=>qm.v S
 by_cases h1:nodes < 2
 ·
  conv at hr =>
   rhs
   rw [hTe]
   simp only [zu.code,zu.rs,zSs,reduceIte,zk,zn,zo,zq,al,h1]
  rw [hTe] at hr
  exact ⟨_,(zu.runs hr (.inr rfl))⟩
 by_cases h2:7 < nodes
 ·
  conv at hr =>
   rhs
   rw [hTe]
   simp only [zu.code,zu.rs,zSs,reduceIte,zk,zn,zo,zq,al,h1,h2]
  rw [hTe] at hr
  exact ⟨_,(zu.runs hr (.inr rfl))⟩
 by_cases h3:me < 0
 ·
  conv at hr =>
   rhs
   rw [hTe]
   simp only [zu.code,zu.rs,zSs,reduceIte,zk,zn,zo,zq,al,h1,h2,h3]
  rw [hTe] at hr
  exact ⟨_,(zu.runs hr (.inr rfl))⟩
 by_cases h4:nodes≤me
 ·
  conv at hr =>
   rhs
   rw [hTe]
   simp only [zu.code,zu.rs,zSs,reduceIte,zk,zn,zo,zq,al,h1,h2,h3,h4]
  rw [hTe] at hr
  exact ⟨_,(zu.runs hr (.inr rfl))⟩
 by_cases h5:names < 0
 ·
  conv at hr =>
   rhs
   rw [hTe]
   simp only [zu.code,zu.rs,zSs,reduceIte,zk,zn,zo,zq,al,h1,h2,h3,h4,h5]
  rw [hTe] at hr
  exact ⟨_,(zu.runs hr (.inr rfl))⟩
 by_cases h6:32 < names
 ·
  conv at hr =>
   rhs
   rw [hTe]
   simp only [zu.code,zu.rs,zSs,reduceIte,zk,zn,zo,zq,al,h1,h2,h3,h4,h5,h6]
  rw [hTe] at hr
  exact ⟨_,(zu.runs hr (.inr rfl))⟩
 obtain ⟨N,rfl⟩:∃ N:Nat,names=N:=⟨names.toNat,by omega⟩
 obtain ⟨S1,c1,c2,c3⟩:=jg.v me nodes S
 conv at hr =>
  rhs
  rw [hTe]
  simp only [zu.code,zu.rs,zSs,reduceIte,zk,zn,zo,zq,al,h1,h2,h3,h4,h5,h6,c1]
 generalize hL:wW (zC zi O false zu.jd) _ _=r at hr
 obtain ⟨T2,S2,fp2,rfl,p2,p3,p4,p5⟩:=acZ (N:=N) (q:=S.next) (me:=me) (nodes:=nodes) (by omega) N 0 hL rfl rfl rfl rfl (by omega) c2
 have hT2:=zu.eta p2
 rw [p3,p4] at hT2
 conv at hr =>
  rhs
  simp only [zSs,reduceIte,zk,zn,zo,zq]
  rw [hT2]
  simp only [zu.code,zu.rs,zSs,reduceIte,zk,zn,zo,zq]
 generalize hL:wW (zC zi O false zu.JK) _ _=r at hr
 obtain ⟨T3,S3,fp3,rfl,q2,q3,q4⟩:=ac5 (N:=N) (q:=S.next) (by omega) ⟨by omega,by omega⟩ ⟨by omega,by omega⟩ N 0 hL rfl rfl rfl rfl (by omega) p5 (by simp [wl,left]) (fun w h=>by
  obtain ⟨i,h1,h2,h3⟩:=abp h
  rw [h3];omega)
 have hT3:=zu.eta q2
 rw [q3] at hT3
 obtain ⟨k,S4,w1,w2,w3,w4⟩:=zA.v q4
 have ln:∀ S,Z7 zi 29 (iz k (([]:List jB).map (·.name))) S=some (goInt 0,S):=fun S=>abG w2
 conv at hr =>
  rhs
  simp only [zSs,reduceIte,zk,zn,zo,zq]
  rw [hT3]
  simp only [zu.code,zu.rs,zSs,reduceIte,zk,zn,zo,zq,w1,ln,goInt]
 rw [hTe] at hr
 exact ⟨_,zu.runs hr (.inr rfl)⟩
theorem law (x:Args codes) (h:Args.Good codes x):∃ k,(qh zi k 7 (Args.place codes x zx.empty).1 (Args.place codes x zx.empty).2).map (·.1)=some (.bool true):=by
 obtain ⟨a,b,c,u⟩:=x
 obtain ⟨S',e⟩:=run (me:=a) (nodes:=b) (names:=c) zx.empty
 exact Qn adt (S':=S') e
end fetchOrder
end Go.Proofs.Ytpjglojnipjgfaa
namespace Go.Proofs.Ytpjglojnipjgfaa.fetchOrder
open Go.ChangeShapes Go.WideShapes Go.ChangeAt Go.RowKit Go.Abs
theorem own:ownKnob zi.godebug=none:=by kernel_rfl
theorem laidOut:laidOutB zi=true:=by kernel_rfl
theorem mixes:zi.follows .mixedOrders=true:=by kernel_rfl
set_option maxRecDepth 100000 in
theorem lifted (os:Os) (started:os.Started) (H:Type) (enc:TypeId×Value→H) :
  ReturnsInHanded {} Try.checked os 7 .any (Rows.fetchOrderSpec.pre6 enc zi Try.f7 Rows.fetchOrderRow.domain false) (Rows.fetchOrderSpec.post enc zi Try.f7 false true false false):=by
 refine returnsInHanded_of_change_sized (C:=Try.checked) own started (by kernel_rfl) Try.func7
  (ChangeSpec.witness6 (enc:=enc) (C:=Try.checked) false ⟨#[],#[.int .i64 0,.int .i64 0,.int .i64 0],[]⟩ 8 (by kernel_rfl) (by kernel_rfl) (by kernel_rfl) (by kernel_rfl)) ?_
 intro W base args ds gs before hval0 hW hcnd hsz0 _
 have hW':=hW
 obtain ⟨p,q,hA0,hV,rfl,hfz,hnd⟩:=hW
 obtain ⟨rfl,rfl⟩:=trodVars_none hV
 have hsz1:(DataW.weightsEach zi (Try.f7.params.toList++Rows.fetchOrderSpec.plain.varTypes zi) (ds++[])).all (·≤reachBytes)=true:=hsz0
 have hval:∀ (j:Nat) t v,Try.f7.params[j]?=some t→args[j]?=some v→Value.okWide zi W .any base t v:=hval0
 have hA1:DataW.TrodAll enc zi W 0 (fun _=>true) true Try.f7.params.toList args.toList ds p:=hA0
 rw [Try.params7] at hA1 hsz1 hval
 have hA:DataW.TrodAll enc zi W 0 (fun _=>true) true [3,3,3] args.toList ds p:=hA1
 have hsz:(DataW.weightsEach zi [3,3,3] ds).all (·≤reachBytes)=true:=by rw [List.append_nil ds] at hsz1;exact hsz1
 clear hA0 hA1 hval0 hsz0 hsz1
 have r:=hA
 obtain ⟨v0,vs0,d0,ds0,p0,q0,hargs0,rfl,hp0,h0,r0⟩:=trodAll_cons r
 obtain ⟨v1,vs1,d1,ds1,p1,q1,hargs1,rfl,hp1,h1,r1⟩:=trodAll_cons r0
 obtain ⟨v2,vs2,d2,ds2,p2,q2,hargs2,rfl,hp2,h2,r2⟩:=trodAll_cons r1
 obtain ⟨_,rfl,_⟩:=trodAll_nil r2
 refine (VK mixes coded law hA (fun j t v h1 h2=>hval j t v (by rw [List.getElem?_toArray];exact h1) h2) hsz).mono fun e W' ⟨he,bel⟩=>?_
 subst he
 exact ⟨_,rfl,_,_,_,[],_,[],hW',trodAll_mk1 (shut_bool (by kernel_rfl) _),aa6 laidOut bel _ _ _ _ (by kernel_rfl) hA,rfl,bel.frame _,fun h=>by cases h⟩
theorem over:Rows.fetchOrderRow.holds Try.pinned (OpenSpec.ofChange Rows.fetchOrderSpec) :=
 OpenClaim.holds_of_wide 7 Try.f7 rfl rfl rfl rfl rfl rfl rfl ⟨rfl,rfl,rfl,rfl,rfl⟩ rfl rfl rfl rfl rfl (by kernel_rfl) Try.func7 (by kernel_rfl)
  (of_decide_eq_true (by kernel_rfl)) (by unfold Func.isWrapper;first | (rw [if_pos (by decide +kernel)];kernel_rfl) | (rw [if_neg (by decide +kernel)];exact ⟨rfl,rfl⟩))
  (fun os started H enc _=>lifted os started H enc)
theorem proved:Rows.FetchOrderSaid:=over
end Go.Proofs.Ytpjglojnipjgfaa.fetchOrder
namespace Go.Proofs.Ytpjglojnipjgfaa
theorem fetchOrder_holds:Rows.FetchOrderSaid:=fetchOrder.proved
#print axioms fetchOrder_holds
end Go.Proofs.Ytpjglojnipjgfaa
