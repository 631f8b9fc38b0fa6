/-
The law FetchAll returns true for every input, and leaves it as it was; no condition. Part 4 of 4 of the texts (put together by a program: own names are short, what isn't needed is left out).
-/
import Derived.Test.YtpjglojnipjgfaaZFetchAll3
import Derived.Test.YtpjglojnipjgfaaRows
import Derived.WalkKit
import Derived.ProofKit
import Derived.OpenShut
import Derived.ShutString
import Derived.ChangeOld
import Derived.Below
import Derived.SizedLaws
import Derived.Carry
set_option linter.unusedVariables false
set_option linter.unusedSimpArgs false
set_option maxRecDepth 100000
open Go renaming undef → zh
open Go.Proofs.Try renaming prog → zi
open Nat renaming reduceEqDiff → zk
open Int renaming reduceEq → zn
open Int renaming reduceLT → zo
open Int renaming reduceLE → zq
namespace Go.Proofs.Ytpjglojnipjgfaa
open Go.Abs
structure Ft (S:zx) (q:Nat) (me nodes:Int) (l:List jX) (fp:List Nat):Prop where
 lt:q < S.next
 len:l.length≤32
 cell:∃ a,S.get q=some (.cells [.int .i64 me,.int .i64 nodes,.slice a l.length l.length] (.own []) 0)∧qR fW 2 S a l fp
section
variable {S:zx} {q:Nat} {me nodes:Int} {l:List jX} {fp:List Nat}
theorem Ft.KE (h:Ft S q me nodes l fp):q ∉ fp:=by
 obtain ⟨a,h1,h2⟩:=h.cell
 exact h2.KE h1
theorem Ft.ext {S1:zx} (h:Ft S q me nodes l fp) (k:Ext S S1):Ft S1 q me nodes l fp:=by
 obtain ⟨a,h1,h2⟩:=h.cell
 exact ⟨Nat.lt_of_lt_of_le h.lt k.next,h.len,a,by rw [k.get q h.lt];exact h1,h2.ext k⟩
def Ws (q:Nat) (S S1:zx):Prop:=S.next≤S1.next∧∀ p cs own,p≠q→p < S.next→S.get p=some (.cells cs own 0)→S1.get p=S.get p
theorem Ws.refl (q:Nat) (S:zx):Ws q S S:=⟨Nat.le_refl _,fun _ _ _ _ _ _=>rfl⟩
theorem Ws.trans {S1 S2:zx} (h:Ws q S S1) (k:Ws q S1 S2):Ws q S S2:=⟨Nat.le_trans h.1 k.1,fun p cs own hp hl hg=>by
 have h1:=h.2 p cs own hp hl hg
 rw [k.2 p cs own hp (Nat.lt_of_lt_of_le hl h.1) (h1.trans hg),h1]⟩
theorem Ws.ext {S1:zx} (h:Ext S S1):Ws q S S1:=⟨h.next,fun p _ _ _ hl _=>h.get p hl⟩
theorem Ft.stay {S1:zx} (h:Ft S q me nodes l fp) (k:Fr (q::fp) S S1):Ws q S S1:=⟨k.1,fun p cs own hp hl hg=>k.2 p hl (by
 obtain ⟨a,h1,h2⟩:=h.cell
 simp only [List.mem_cons,not_or]
 exact ⟨hp,h2.KE hg⟩)⟩
theorem zY.v (me nodes:Int) (S:zx):∃ S1,zZ zi O zY.id [.int .i64 me,.int .i64 nodes] S=some (.pointer (some ⟨S.next,0,none⟩),S1)∧Ft S1 S.next me nodes [] []∧Ext S S1:=by
 obtain ⟨T,hTe⟩:∃ T,T=(.int .i64 me::.int .i64 nodes::zh::zh::zh::zh::zh::zh::zh::[]):=⟨_,rfl⟩
 have hr:zC zi O false zY.code T S=zC zi O false zY.code T S:=rfl
 have bd:=xG (y0:=.int .i64 me) (y1:=.int .i64 nodes) rfl rfl S
 obtain ⟨S1,b1,b2,b3,b4⟩:=ade (.agg [.int .i64 me,.int .i64 nodes,.slice none 0 0].toArray) S
 conv at hr =>
  rhs
  rw [hTe]
  simp only [zY.code,zY.rs,zSs,reduceIte,zk,zn,zo,zq,bd,b1]
 rw [hTe] at hr
 exact ⟨_,zY.runs hr (.inr rfl),⟨b4,by simp,none,b2,.inl ⟨rfl,rfl,rfl⟩⟩,b3⟩
theorem aaW {k:Nat} {l:List Int} {x:Int} {S:zx} (h:Okl k l) (hk:k≠1) (hl:l.length≤17592186044000):yO zi 29 29 (iz k l) (sv 2 1 1 [.int .i64 x]) S=some (iz 2 (l++[x]),S):=by
 rw [adQ];exact aci h hk hl
theorem zA.round {r:Nat} (hn:l.length≤32):∀ (suf pre:List jX) {T:List Value} {rr:St} {S:zx} {k:Nat},wP (zC zi O false zA.jw) T S=rr→T.length=22 →
  T.getD 3 zh=iz k (pre.map (·.name))→T.getD 9 zh=.slice (some ⟨r,0,none⟩) l.length l.length→T.getD 10 zh=.int .i64 l.length→T.getD 11 zh=.int .i64 pre.length→l=pre++suf→Okl k (pre.map (·.name))→k≠1→qR fW 2 S (some ⟨r,0,none⟩) l fp →
  ∃ T' S' k',rr=some (.exit 0,T',S')∧T'.length=22∧T'.getD 3 zh=iz k' (l.map (·.name))∧Okl k' (l.map (·.name))∧k'≠1∧Ext S S':=by
 intro suf
 induction suf with
 | nil =>
  intro pre T rr S k hL hT h3 h9 h10 h11 hl hk k1 hA
  have hTe:=zA.eta hT
  rw [h3,h9,h10,h11] at hTe
  have hr:zC zi O false zA.jw T S=zC zi O false zA.jw T S:=rfl
  have hd:¬ (pre.length:Int) < (l.length:Int):=by rw [hl];simp
  conv at hr =>
   rhs
   rw [hTe]
   simp only [zA.jw,zA.code,zA.rs,zSs,reduceIte,zk,zn,zo,zq,hd]
  have hp:l=pre:=by rw [hl,List.append_nil]
  exact ⟨_,_,k,hL.symm.trans (jr hr (by simp)),rfl,by rw [hp];rfl,by rw [hp];exact hk,k1,Ext.refl _⟩
 | cons x suf ih =>
  intro pre T rr S k hL hT h3 h9 h10 h11 hl hk k1 hA
  have hTe:=zA.eta hT
  rw [h3,h9,h10,h11] at hTe
  have hr:zC zi O false zA.jw T S=zC zi O false zA.jw T S:=rfl
  have hd:(pre.length:Int) < (l.length:Int):=by rw [hl];simp;omega
  have ix:∀ S,zK zi 58 (.slice (some ⟨r,0,none⟩) l.length l.length) (.int .i64 pre.length) S=some (.pointer (some ⟨r,0+pre.length * 2,none⟩),S):=fun S=>by
   rw [Vx (o:=0) (n:=l.length) (c:=l.length) (q:=r) jG yB (by omega) hd,Int.toNat_natCast]
  have hA0:=hA
  rcases hA0 with ⟨h,_⟩ | ⟨r',anc,rest,ha,hfa,hg,hx⟩
  ·
   cases h
  simp only [Option.some.injEq,Addr.mk.injEq,and_true] at ha
  subst ha
  have l1:jf zi false 64 (.pointer (some ⟨r,0+pre.length * 2,none⟩)) S=some (wv x,S):=qR.load (P:=zi) (te:=64) (S:=S) Yk yB WU acQ (x:=x) (pre:=pre) (suf:=suf) (by rw [← hl];exact hg)
  obtain ⟨S1,n1,n2,n3,n4⟩:=Zf (P:=zi) (t:=64) (z:=[.int .i64 0,.int .i64 0]) (xs:=fW x) (x:=wv x) S rfl yB rfl rfl
  have al:=JJ S
  have l2:jf zi false 3 (.pointer (some ⟨S.next,0+0,none⟩)) S1=some (.int .i64 x.name,S1):=wJ (o:=0+0) n2 xO rfl
  have hpl:pre.length≤l.length:=by rw [hl];simp
  have ap:=fun S=>aaW (S:=S) (x:=x.name) hk k1 (by rw [List.length_map];omega)
  have wi:IntKind.i64.wrap ((pre.length:Int)+1)=((pre++[x]).length:Int):=by rw [wrap_i64 (by omega) (by omega)];simp
  conv at hr =>
   rhs
   rw [hTe]
   simp only [zA.jw,zA.code,zA.rs,zSs,reduceIte,zk,zn,zo,zq,hd,ix,l1,al,n1,qG,l2,Kt,ap,wi]
  have hs:=(wz hr).symm.trans hL
  obtain ⟨T',S',k',q1,q2,q3,q4,q5,q6⟩:=ih (pre++[x]) (k:=2) hs rfl (by rw [List.map_append];rfl) rfl rfl rfl (by rw [hl];simp) Okl.own (by decide) (hA.ext n3)
  exact ⟨T',S',k',q1,q2,q3,q4,q5,n3.trans q6⟩
theorem zA.v (h:Ft S q me nodes l fp):∃ k S1,zZ zi O zA.id [.pointer (some ⟨q,0,none⟩)] S=some (iz k (l.map (·.name)),S1)∧Okl k (l.map (·.name))∧k≠1∧Ext S S1:=by
 obtain ⟨T,hTe⟩:∃ T,T=(.pointer (some ⟨q,0,none⟩)::zh::zh::zh::zh::zh::zh::zh::zh::zh::zh::zh::zh::zh::zh::zh::zh::zh::zh::zh::zh::zh::[]):=⟨_,rfl⟩
 have hr:zC zi O false zA.code T S=zC zi O false zA.code T S:=rfl
 obtain ⟨a,h1,h2⟩:=h.cell
 have l1:=JE (t:=58) (o:=0+2) h1 yg rfl
 have ln:=fun S=>Qi jG a l.length l.length S
 conv at hr =>
  rhs
  rw [hTe]
  simp only [zA.code,zA.rs,zSs,reduceIte,zk,zn,zo,zq,wO,jS,l1,ln,goInt]
 generalize hL:wP (zC zi O false zA.jw) _ _=rr at hr
 have fin:∀ T' S' k',rr=some (.exit 0,T',S')→T'.length=22→T'.getD 3 zh=iz k' (l.map (·.name))→Okl k' (l.map (·.name))→k'≠1→Ext S S'→∃ k S1,zZ zi O zA.id [.pointer (some ⟨q,0,none⟩)] S=some (iz k (l.map (·.name)),S1)∧Okl k (l.map (·.name))∧k≠1∧Ext S S1:=by
  intro T' S' k' e1 e2 e3 e4 e5 e6
  subst e1
  have hTe':=zA.eta e2
  rw [e3] at hTe'
  conv at hr =>
   rhs
   simp only [zSs,reduceIte,zk,zn,zo,zq]
   rw [hTe']
   simp only [zA.code,zA.rs,zSs,reduceIte,zk,zn,zo,zq]
  rw [hTe] at hr
  exact ⟨k',S',zA.runs hr (.inr rfl),e4,e5,e6⟩
 rcases h2 with ⟨rfl,rfl,rfl⟩ | ⟨r,anc,rest,rfl,rfl,k3,k4⟩
 ·
  generalize hT2:List.cons _ _=T2 at hL
  have hlen:T2.length=22:=by rw [← hT2];rfl
  have g3:T2.getD 3 zh=.slice none 0 0:=by rw [← hT2];rfl
  have g10:T2.getD 10 zh=.int .i64 0:=by rw [← hT2];rfl
  have g11:T2.getD 11 zh=.int .i64 0:=by rw [← hT2];rfl
  have hTe2:=zA.eta hlen
  rw [g3,g10,g11] at hTe2
  have hr2:zC zi O false zA.jw T2 S=zC zi O false zA.jw T2 S:=rfl
  have hd:¬ (0:Int) < (0:Int):=by decide
  conv at hr2 =>
   rhs
   rw [hTe2]
   simp only [zA.jw,zA.code,zA.rs,zSs,reduceIte,zk,zn,zo,zq,hd]
  exact fin _ _ 0 (hL.symm.trans (jr hr2 (by simp))) rfl rfl Okl.none (by decide) (Ext.refl _)
 ·
  obtain ⟨T',S',k',q1,q2,q3,q4,q5,q6⟩:=zA.round h.len l [] (k:=0) hL rfl rfl rfl rfl rfl rfl Okl.none (by decide) (.inr ⟨r,anc,rest,rfl,rfl,k3,k4⟩)
  exact fin T' S' k' q1 q2 q3 q4 q5 q6
def vT (l:List jX) (n:Int):Bool:=!decide (Z5 n=0) && !(l.any fun w=>decide (n=w.name)) && decide (l.length < 32)
def Wp (l:List jX) (n:Int):List jX:=if vT l n then l++[⟨n,0⟩] else l
theorem Xk (l:List jX) (n:Int):((l.map (·.name)).any fun x=>decide (n=x))=l.any fun w=>decide (n=w.name):=by rw [List.any_map];rfl
theorem zB.v (h:Ft S q me nodes l fp) (n:Int):∃ S1 fp',zZ zi O zB.id [.pointer (some ⟨q,0,none⟩),.int .i64 n] S=some (.bool (vT l n),S1) ∧
  Ft S1 q me nodes (Wp l n) fp'∧(∀ x ∈ fp',x ∈ fp∨S.next≤x)∧Fr (q::fp) S S1:=by
 obtain ⟨T,hTe⟩:∃ T,T=(.pointer (some ⟨q,0,none⟩)::.int .i64 n::zh::zh::zh::zh::zh::zh::zh::zh::zh::zh::zh::zh::zh::zh::zh::zh::zh::zh::zh::zh::zh::zh::zh::zh::zh::zh::zh::zh::zh::zh::zh::[]):=⟨_,rfl⟩
 have hr:zC zi O true zB.code T S=zC zi O true zB.code T S:=rfl
 have c1:=fun S=>abS (zJ.v n S) (by rfl)
 by_cases h0:Z5 n=0
 ·
  have hb:vT l n=false:=by simp [vT,h0]
  have d0:=decide_eq_true h0
  refine ⟨S,fp,?_,by unfold Wp;rw [hb];exact h,fun x hx=>.inl hx,Fr.refl _ _⟩
  rw [hb]
  conv at hr =>
   rhs
   rw [hTe]
   simp only [zB.code,zB.rs,zSs,reduceIte,zk,zn,zo,zq,c1,d0]
  rw [hTe] at hr
  exact zB.runs hr (.inr rfl)
 ·
  have d0:=decide_eq_false h0
  obtain ⟨k,S1,w1,w2,w3,w4⟩:=zA.v h
  have c2:Ym (zZ zi O) 18 [.pointer (some ⟨q,0,none⟩)] S=some (iz k (l.map (·.name)),S1):=abS w1 (by rfl)
  have c3:∀ S,Ym (zZ zi O) 20 [iz (if k=2 then 1 else k) (l.map (·.name)),.int .i64 n] S=some (.bool (l.any fun w=>decide (n=w.name)),S):=fun S=>by
   rw [← Xk]
   exact abS (slices_Contains.v w2.dem (acA k) (by rw [List.length_map];have:=h.len;omega) S) (by simp only [List.all_cons,List.all_nil,acv];rfl)
  have h1:=h.ext w4
  cases ha:l.any fun w=>decide (n=w.name) with
  | true =>
   have hb:vT l n=false:=by simp only [vT,ha,Bool.not_true,Bool.and_false,Bool.false_and]
   refine ⟨S1,fp,?_,by unfold Wp;rw [hb];exact h1,fun x hx=>.inl hx,Fr.ext w4⟩
   rw [hb]
   rw [ha] at c3
   conv at hr =>
    rhs
    rw [hTe]
    simp only [zB.code,zB.rs,zSs,reduceIte,zk,zn,zo,zq,c1,d0,c2,c3]
   rw [hTe] at hr
   exact zB.runs hr (.inr rfl)
  | false =>
   rw [ha] at c3
   obtain ⟨a,g1,g2⟩:=h1.cell
   have l1:=JE (t:=58) (o:=0+2) g1 yg rfl
   have ln:=fun S=>Qi jG a l.length l.length S
   by_cases hl:l.length < 32
   ·
    have hb:vT l n=true:=by simp only [vT,ha,d0,Bool.not_false,Bool.true_and,decide_eq_true hl]
    have dl:¬ (32:Int)≤(l.length:Int):=by omega
    have bd:=ZE (y0:=.int .i64 n) rfl
    obtain ⟨S2,s1,s2,s3⟩:∃ S2,jd zi 58 1 [(0,wv ⟨n,0⟩)] S1=some (.slice (some ⟨S1.next,0,none⟩) 1 1,S2)∧S2.get S1.next=some (.cells (fW ⟨n,0⟩) (.own []) 2)∧S2=S1.push (.cells (fW ⟨n,0⟩) (.own []) 2) :=
     ⟨_,by kernel_rfl,by rw [zx.zO,if_pos rfl],rfl⟩
    have x2:Ext S1 S2:=by rw [s3];exact Ext.push _ _
    have src:Zz zi 58 2 (.slice (some ⟨S1.next,0,none⟩) 1 1) S2=some (([⟨n,0⟩]:List jX).length,([⟨n,0⟩]:List jX).flatMap fW) :=
     (VY (o:=0) (m:=1) (e:=2) jG s2 (by show 2≤2;omega) (by rfl)).trans rfl
    obtain ⟨a',S3,fp',e1,e2,e3,e4⟩:=qR.append (P:=zi) (t:=58) (te:=64) (tx:=58) jG yB YN rfl Yl (by decide) WU adz (g2.ext x2) src (by simp;omega) (by simp;omega)
    have hq3:S3.get q=some (.cells [.int .i64 me,.int .i64 nodes,.slice a l.length l.length] (.own []) 0):=by
     have hq1:q < S1.next:=h1.lt
     rw [e4.2 q (Nat.lt_of_lt_of_le hq1 x2.next) h1.KE,x2.get q hq1,g1]
    have st:=qL (P:=zi) (t:=58) (o:=0+2) (x:=.slice a' (l++[(⟨n,0⟩:jX)]).length (l++[(⟨n,0⟩:jX)]).length) hq3 ZT rfl rfl (by simp)
    generalize hS4:(S3.kills []).set q _=S4 at st
    refine ⟨S4,fp',?_,⟨?_,?_,a',?_,?_⟩,fun x hx=>?_,?_⟩
    ·
     rw [hb]
     conv at hr =>
      rhs
      rw [hTe]
      simp only [zB.code,zB.rs,zSs,reduceIte,zk,zn,zo,zq,c1,d0,c2,c3,wO,jS,l1,ln,goInt,dl,bd,s1,e1,st]
     rw [hTe] at hr
     exact zB.runs hr (.inr rfl)
    ·
     have:=x2.next;have:=e4.1;have:=h1.lt
     subst hS4
     simp [zx.kills];omega
    ·
     unfold Wp;rw [hb];simp;omega
    ·
     subst hS4;unfold Wp;rw [hb,zx.zV,if_pos rfl];rfl
    ·
     have hq4:q ∉ fp':=e2.KE hq3
     subst hS4
     unfold Wp;rw [hb]
     exact e2.keep (by simp [zx.kills]) fun x hx=>by rw [zx.zV,if_neg (fun e=>hq4 (by rw [← e];exact hx))];rfl
    ·
     rcases e3 x hx with hx | hx
     ·
      exact .inl hx
     ·
      exact .inr (by have:=w4.next;have:=x2.next;omega)
    ·
     have f1:Fr (q::fp) S S2:=(Fr.ext w4).trans (Fr.ext x2) (fp2:=[]) fun x hx=>by cases hx
     have f2:Fr (q::fp) S S3:=f1.trans e4 fun x hx=>.inl (by simp [hx])
     subst hS4
     exact f2.set (.inl (by simp)) _
   ·
    have hb:vT l n=false:=by simp only [vT,decide_eq_false hl,Bool.and_false]
    have dl:(32:Int)≤(l.length:Int):=by omega
    refine ⟨S1,fp,?_,by unfold Wp;rw [hb];exact h1,fun x hx=>.inl hx,Fr.ext w4⟩
    rw [hb]
    conv at hr =>
     rhs
     rw [hTe]
     simp only [zB.code,zB.rs,zSs,reduceIte,zk,zn,zo,zq,c1,d0,c2,c3,wO,jS,l1,ln,goInt,dl]
    rw [hTe] at hr
    exact zB.runs hr (.inr rfl)
end
end Go.Proofs.Ytpjglojnipjgfaa
namespace Go.Proofs.Ytpjglojnipjgfaa
open Go.Abs
structure ZL where
 to:Int
 frm:Int
 val:Int
def fA (x:ZL):List Value:=[.int .i64 x.to,.int .i64 2,.int .i64 x.frm,.int .i64 0,.int .i64 0,.int .i64 x.val,.int .i64 0,.int .i64 0,.int .i64 0,.int .i64 0,.int .i64 0,.int .i64 0,.int .i64 0,.slice none 0 0]
theorem abm (x:ZL):(fA x).length=14:=rfl
theorem adt (x:ZL):(fA x).all (·.oneCell')=true:=rfl
abbrev az (k:Nat) (l:List ZL):Value:=vs fA 14 k l
theorem adg (x:ZL) (S:zx):jZ zi 26 1 [(0,.agg [Value.int .i64 x.to,.int .i64 2,.int .i64 x.frm,.int .i64 0,.int .i64 0,.int .i64 x.val,.int .i64 0,.int .i64 0,.int .i64 0,.int .i64 0,.int .i64 0,.int .i64 0,.int .i64 0,.slice none 0 0].toArray)] S=some (az 2 [x],S):=by kernel_rfl
theorem acn {k:Nat} {l:List ZL} {x:ZL} {S:zx} (h:Okl k l) (hk:k≠1) (hl:l.length≤1000000):yO zi 26 26 (az k l) (az 2 [x]) S=some (az 2 (l++[x]),S):=by
 rw [Yt qm xg X9 rfl Vj (by decide) qm abm adt h hk Okl.own (by simp;omega) (by simp;omega),if_neg (fun h=>by have:=h.2;simp at this)]
def qX (me nodes asked:Int):Int:=(me+1+asked % (nodes - 1)) % nodes
def W9 (me nodes:Int) (w:jX):ZL:=⟨qX me nodes w.asked,me,w.name⟩
def aa7 (w:jX):jX:=⟨w.name,w.asked+1⟩
def ZR (me nodes:Int) (l:List jX):List ZL:=if nodes < 2 then [] else (l.take 8).map (W9 me nodes)
def Yb (nodes:Int) (l:List jX):List jX:=if nodes < 2 then l else (l.take 8).map aa7++l.drop 8
section
variable {S:zx} {q:Nat} {me nodes:Int} {l:List jX} {fp:List Nat}
theorem Vr {x:jX} {pre suf:List jX} {rest:List Value} (j:Nat) (hj:j < 2):((pre++x::suf).flatMap fW++rest)[0+pre.length * 2+j]?=(fW x)[j]?:=by
 have h:=qR.aa6 (f:=fW) (e:=2) WU (x:=x) (pre:=pre) (suf:=suf) (rest:=rest)
 have h2:=congrArg (·[j]?) h
 simp only [List.getElem?_take,if_pos hj,List.getElem?_drop] at h2
 exact h2
theorem aao {r:Nat} {anc:List Nat} {x:jX} {pre suf:List jX} {rest:List Value} (n:Int) (hg:S.get r=some (.cells ((pre++x::suf).flatMap fW++rest) (.own anc) 2)) (hx:∀ k ∈ r::anc,k < S.next∧Many S k) :
  ∃ S1,yN zi 3 (.pointer (some ⟨r,0+pre.length * 2+1,none⟩)) (.int .i64 n) S=some (zh,S1)∧S1.get r=some (.cells ((pre++⟨x.name,n⟩::suf).flatMap fW++rest) (.own []) 2)∧S1.next=S.next∧Fr (r::anc) S S1∧Many S1 r:=by
 have e0:∀ y:jX,(pre++y::suf).flatMap fW++rest=(pre.flatMap fW++[.int .i64 y.name])++([.int .i64 y.asked]++(suf.flatMap fW++rest)):=fun y=>by
  rw [List.flatMap_append,List.flatMap_cons]
  simp [fW]
 have hs:splice ((pre++x::suf).flatMap fW++rest) (0+pre.length * 2+1) [.int .i64 n]=(pre++⟨x.name,n⟩::suf).flatMap fW++rest:=by
  rw [e0,e0]
  exact xU (B:=[Value.int .i64 x.asked]) (C:=[Value.int .i64 n]) (by rw [List.length_append,jo WU];simp) (by rfl)
 have hle:0+pre.length * 2+1+1≤((pre++x::suf).flatMap fW++rest).length:=by
  rw [List.length_append,jo WU,List.length_append,List.length_cons];omega
 have:=qL (P:=zi) (t:=3) (o:=0+pre.length * 2+1) (x:=.int .i64 n) hg Xg rfl rfl hle
 refine ⟨_,this,?_,by simp,((Fr.refl _ _).kills (fun k hk=>.inl (by simp [hk]))).set (.inl (by simp)) _,vV (by decide) (xZ (hx r (by simp)).2)⟩
 rw [zx.zV,if_pos rfl]
 show some (jP.cells (splice _ _ [.int .i64 n]) _ _)=_
 rw [hs]
theorem zy.round {m:Nat} (hm0:0≤me∧me < nodes) (hn0:2≤nodes∧nodes≤7) (hnq:q ∉ fp) (hll:l.length≤32) (ha:∀ w ∈ l,0≤w.asked∧w.asked < 1099511627776) (hml:m≤l.length) {a:Option Addr} {S0:zx}:∀ (j:Nat) (pre suf:List jX) {T:List Value} {rr:St} {S:zx} {k:Nat} {fp1:List Nat},wP (zC zi O false zy.jw) T S=rr→T.length=71 →
  T.getD 0 zh=.pointer (some ⟨q,0,none⟩)→T.getD 3 zh=az k (pre.map (W9 me nodes))→T.getD 12 zh=.int .i64 m→T.getD 13 zh=.int .i64 pre.length→l=pre++suf→pre.length+j=m→Okl k (pre.map (W9 me nodes))→k≠1 →
  S.get q=some (.cells [.int .i64 me,.int .i64 nodes,.slice a l.length l.length] (.own []) 0)→qR fW 2 S a (pre.map aa7++suf) fp1→(∀ x ∈ fp1,x ∈ fp)→Fr fp S0 S→q < S.next →
  ∃ T' S' k' fp',rr=some (.exit 0,T',S')∧T'.length=71∧T'.getD 3 zh=az k' ((l.take m).map (W9 me nodes))∧Okl k' ((l.take m).map (W9 me nodes))∧k'≠1 ∧
   S'.get q=some (.cells [.int .i64 me,.int .i64 nodes,.slice a l.length l.length] (.own []) 0)∧qR fW 2 S' a ((l.take m).map aa7++l.drop m) fp'∧(∀ x ∈ fp',x ∈ fp)∧Fr fp S0 S'∧q < S'.next:=by
 intro j
 induction j with
 | zero =>
  intro pre suf T rr S k fp1 hL hT h0 h3 h12 h13 hl hj hk k1 hq hA hfp hF hlt
  have hTe:=zy.eta hT
  rw [h0,h3,h12,h13] at hTe
  have hr:zC zi O false zy.jw T S=zC zi O false zy.jw T S:=rfl
  have hd:¬ (pre.length:Int) < (m:Int):=by omega
  conv at hr =>
   rhs
   rw [hTe]
   simp only [zy.jw,zy.code,zy.rs,zSs,reduceIte,zk,zn,zo,zq,hd]
  have hp:l.take m=pre:=by rw [hl,← hj,Nat.add_zero,List.take_left]
  have hp2:l.drop m=suf:=by rw [hl,← hj,Nat.add_zero,List.drop_left]
  exact ⟨_,_,k,fp1,hL.symm.trans (jr hr (by simp)),rfl,by rw [hp];rfl,by rw [hp];exact hk,k1,hq,by rw [hp,hp2];exact hA,hfp,hF,hlt⟩
 | succ j ih =>
  intro pre suf T rr S k fp1 hL hT h0 h3 h12 h13 hl hj hk k1 hq hA hfp hF hlt
  have hTe:=zy.eta hT
  rw [h0,h3,h12,h13] at hTe
  have hr:zC zi O false zy.jw T S=zC zi O false zy.jw T S:=rfl
  have hd:(pre.length:Int) < (m:Int):=by omega
  obtain ⟨x,suf,rfl⟩:∃ x s,suf=x::s:=by
   cases suf with
   | nil=>rw [hl,List.append_nil] at hml;omega
   | cons x s=>exact ⟨x,s,rfl⟩
  have hin:(pre.length:Int) < (l.length:Int):=by omega
  have hA0:=hA
  rcases hA0 with ⟨_,h,_⟩ | ⟨r,anc,rest,ha2,hfa,hg,hx⟩
  ·
   simp at h
  subst ha2
  have ax:=ha x (by rw [hl];simp)
  have l0:=wJ (t:=3) (o:=0+0) hq xO rfl
  have l1:=wJ (t:=3) (o:=0+1) hq xO rfl
  have l2:=JE (t:=58) (o:=0+2) hq yg rfl
  have d2:¬ nodes < 2:=by omega
  have ix:∀ S,zK zi 58 (.slice (some ⟨r,0,none⟩) l.length l.length) (.int .i64 pre.length) S=some (.pointer (some ⟨r,0+pre.length * 2,none⟩),S):=fun S=>by
   rw [Vx (o:=0) (n:=l.length) (c:=l.length) (q:=r) jG yB (by omega) hin,Int.toNat_natCast]
  have lpre:(pre.map aa7).length=pre.length:=by simp
  have la:jf zi false 3 (.pointer (some ⟨r,0+pre.length * 2+1,none⟩)) S=some (.int .i64 x.asked,S):=wJ hg xO (by
   have:=Vr (x:=x) (pre:=pre.map aa7) (suf:=suf) (rest:=rest) 1 (by decide)
   rw [lpre] at this
   rw [this];rfl)
  obtain ⟨S1,s1,s2,s3,s4,s5⟩:=aao (x.asked+1) hg (by rw [← hfa];exact hx)
  rw [lpre] at s1
  have hq1:S1.get q=some (.cells [.int .i64 me,.int .i64 nodes,.slice (some ⟨r,0,none⟩) l.length l.length] (.own []) 0):=by
   rw [s4.2 q hlt (fun h=>hnq (hfp q (by rw [hfa];exact h))),hq]
  have m0:=wJ (t:=3) (o:=0+0) hq1 xO rfl
  have ln1:jf zi false 3 (.pointer (some ⟨r,0+pre.length * 2+0,none⟩)) S1=some (.int .i64 x.name,S1):=wJ s2 xO (by
   have:=Vr (x:=⟨x.name,x.asked+1⟩) (pre:=pre.map aa7) (suf:=suf) (rest:=rest) 0 (by decide)
   rw [lpre] at this
   rw [this];rfl)
  have hne:nodes - 1≠0:=by omega
  have hne2:nodes≠0:=by omega
  have w1:IntKind.i64.wrap (me+1)=me+1:=wrap_i64 (by omega) (by omega)
  have w2:IntKind.i64.wrap (nodes - 1)=nodes - 1:=wrap_i64 (by omega) (by omega)
  have hmod:=Int.emod_nonneg x.asked hne
  have hmod2:=Int.emod_lt_of_pos x.asked (show 0 < nodes - 1 by omega)
  have t1:x.asked.tmod (nodes - 1)=x.asked % (nodes - 1):=WG ax.1
  have w3:IntKind.i64.wrap (me+1+x.asked % (nodes - 1))=me+1+x.asked % (nodes - 1):=wrap_i64 (by omega) (by omega)
  have t2:(me+1+x.asked % (nodes - 1)).tmod nodes=qX me nodes x.asked:=WG (by omega)
  have w4:IntKind.i64.wrap (x.asked+1)=x.asked+1:=wrap_i64 (by omega) (by omega)
  have wi:IntKind.i64.wrap ((pre.length:Int)+1)=((pre++[x]).length:Int):=by rw [wrap_i64 (by omega) (by omega)];simp
  have bm:=fun S=>vU (y0:=.int .i64 2) (y1:=.int .i64 me) (y4:=.int .i64 x.name) rfl rfl rfl S
  have ba:=fun (y0:Value) {y1 y2 y3 y4 y5 y6 y7 y8 y9 y10 y11 y12 y13:Value} (h:y0.cells=#[y0]) S=>kK (y0:=y0) (y1_0:=y1) (y1_1:=y2) (y1_2:=y3) (y1_3:=y4) (y1_4:=y5) (y1_5:=y6) (y1_6:=y7) (y1_7:=y8) (y1_8:=y9) (y1_9:=y10) (y1_10:=y11) (y1_11:=y12) (y1_12:=y13) h S
  have ba:=fun S=>kK (y0:=.int .i64 (qX me nodes x.asked)) (y1_0:=.int .i64 2) (y1_1:=.int .i64 me) (y1_2:=.int .i64 0) (y1_3:=.int .i64 0) (y1_4:=.int .i64 x.name) (y1_5:=.int .i64 0) (y1_6:=.int .i64 0) (y1_7:=.int .i64 0) (y1_8:=.int .i64 0) (y1_9:=.int .i64 0) (y1_10:=.int .i64 0) (y1_11:=.int .i64 0) (y1_12:=.slice none 0 0) rfl S
  have bs:=adg (W9 me nodes x)
  have bs:∀ S,jZ zi 26 1 [(0,.agg [Value.int .i64 (qX me nodes x.asked),.int .i64 2,.int .i64 me,.int .i64 0,.int .i64 0,.int .i64 x.name,.int .i64 0,.int .i64 0,.int .i64 0,.int .i64 0,.int .i64 0,.int .i64 0,.int .i64 0,.slice none 0 0].toArray)] S=some (az 2 [W9 me nodes x],S):=bs
  have ap:=fun S=>acn (S:=S) (x:=W9 me nodes x) hk k1 (by rw [List.length_map];omega)
  conv at hr =>
   rhs
   rw [hTe]
   simp only [zy.jw,zy.code,zy.rs,zSs,reduceIte,zk,zn,zo,zq,hd,wO,vS,qx,jS,l0,l1,l2,d2,ix,Zc,qG,la,w1,w2,w3,JC _ _ _ hne,JC _ _ _ hne2,t1,t2,w4,s1,m0,ln1,bm,ba,bs,ap,wi]
  have hs:=(wz hr).symm.trans hL
  have hA1:qR fW 2 S1 (some ⟨r,0,none⟩) ((pre++[x]).map aa7++suf) [r]:=.inr ⟨r,[],rest,rfl,rfl,by rw [s2];simp [aa7],fun y hy=>by
   rw [List.mem_singleton.1 hy]
   exact ⟨by rw [s3];exact (hx r (by rw [hfa];simp)).1,s5⟩⟩
  exact ih (pre++[x]) suf (k:=2) hs rfl rfl (by rw [List.map_append];rfl) rfl rfl (by rw [hl];simp) (by simp;omega) Okl.own (by decide) hq1 hA1 (fun y hy=>hfp y (by rw [hfa,List.mem_singleton.1 hy];simp)) (hF.trans s4 fun y hy=>.inl (hfp y (by rw [hfa];exact hy))) (by rw [s3];exact hlt)
theorem zy.v (h:Ft S q me nodes l fp) (hm0:0≤me∧me < nodes) (hn0:nodes≤7) (ha:∀ w ∈ l,0≤w.asked∧w.asked < 1099511627776):∃ k S1 fp',zZ zi O zy.id [.pointer (some ⟨q,0,none⟩)] S=some (az k (ZR me nodes l),S1)∧Okl k (ZR me nodes l)∧k≠1 ∧
  Ft S1 q me nodes (Yb nodes l) fp'∧(∀ x ∈ fp',x ∈ fp)∧Fr fp S S1:=by
 obtain ⟨T,hTe⟩:∃ T,T=(.pointer (some ⟨q,0,none⟩)::zh::zh::zh::zh::zh::zh::zh::zh::zh::zh::zh::zh::zh::zh::zh::zh::zh::zh::zh::zh::zh::zh::zh::zh::zh::zh::zh::zh::zh::zh::zh::zh::zh::zh::zh::zh::zh::zh::zh::zh::zh::zh::zh::zh::zh::zh::zh::zh::zh::zh::zh::zh::zh::zh::zh::zh::zh::zh::zh::zh::zh::zh::zh::zh::zh::zh::zh::zh::zh::zh::[]):=⟨_,rfl⟩
 have hr:zC zi O false zy.code T S=zC zi O false zy.code T S:=rfl
 obtain ⟨a,h1,h2⟩:=h.cell
 have l2:=JE (t:=58) (o:=0+2) h1 yg rfl
 have ln:=fun S=>Qi jG a l.length l.length S
 have mn:(if (8:Int) < (l.length:Int) then (8:Int) else l.length)=((min 8 l.length:Nat):Int):=by split <;> omega
 conv at hr =>
  rhs
  rw [hTe]
  simp only [zy.code,zy.rs,zSs,reduceIte,zk,zn,zo,zq,wO,jS,l2,ln,goInt,ad7,mn]
 generalize hL:wP (zC zi O false zy.jw) _ _=rr at hr
 have fin:∀ T' S' k' fp' l1 l2,rr=some (.exit 0,T',S')→T'.length=71→T'.getD 3 zh=az k' l1→l1=ZR me nodes l→l2=Yb nodes l→Okl k' l1→k'≠1→S'.get q=some (.cells [.int .i64 me,.int .i64 nodes,.slice a l.length l.length] (.own []) 0)→qR fW 2 S' a l2 fp'→l2.length=l.length→(∀ x ∈ fp',x ∈ fp)→Fr fp S S'→q < S'.next →
   ∃ k S1 fp',zZ zi O zy.id [.pointer (some ⟨q,0,none⟩)] S=some (az k (ZR me nodes l),S1)∧Okl k (ZR me nodes l)∧k≠1∧Ft S1 q me nodes (Yb nodes l) fp'∧(∀ x ∈ fp',x ∈ fp)∧Fr fp S S1:=by
  intro T' S' k' fp' l1 l2 e1 e2 e3 e4 e5 e6 e7 e8 e9 e10 e11 e12 e13
  subst e1
  have hTe':=zy.eta e2
  rw [e3] at hTe'
  conv at hr =>
   rhs
   simp only [zSs,reduceIte,zk,zn,zo,zq]
   rw [hTe']
   simp only [zy.code,zy.rs,zSs,reduceIte,zk,zn,zo,zq]
  rw [hTe] at hr
  subst e4 e5
  exact ⟨k',S',fp',zy.runs hr (.inr rfl),e6,e7,⟨e13,by rw [e10];exact h.len,a,by rw [e10];exact e8,e9⟩,e11,e12⟩
 by_cases hn:nodes < 2
 ·
  have ta:ZR me nodes l=[]:=by rw [ZR,if_pos hn]
  have tl:Yb nodes l=l:=by rw [Yb,if_pos hn]
  generalize hT2:List.cons _ _=T2 at hL
  have hlen:T2.length=71:=by rw [← hT2];rfl
  have g0:T2.getD 0 zh=.pointer (some ⟨q,0,none⟩):=by rw [← hT2];rfl
  have g3:T2.getD 3 zh=.slice none 0 0:=by rw [← hT2];rfl
  have g12:T2.getD 12 zh=.int .i64 (min 8 l.length:Nat):=by rw [← hT2];rfl
  have g13:T2.getD 13 zh=.int .i64 0:=by rw [← hT2];rfl
  have hTe2:=zy.eta hlen
  rw [g0,g3,g12,g13] at hTe2
  have hr2:zC zi O false zy.jw T2 S=zC zi O false zy.jw T2 S:=rfl
  have l1:=wJ (t:=3) (o:=0+1) h1 xO rfl
  by_cases h0:(0:Int) < ((min 8 l.length:Nat):Int)
  ·
   conv at hr2 =>
    rhs
    rw [hTe2]
    simp only [zy.jw,zy.code,zy.rs,zSs,reduceIte,zk,zn,zo,zq,h0,wO,qx,l1,hn]
   exact fin _ _ 0 fp [] l (hL.symm.trans (jr hr2 (by simp))) rfl rfl ta.symm tl.symm Okl.none (by decide) h1 h2 rfl (fun x hx=>hx) (Fr.refl _ _) h.lt
  ·
   conv at hr2 =>
    rhs
    rw [hTe2]
    simp only [zy.jw,zy.code,zy.rs,zSs,reduceIte,zk,zn,zo,zq,h0]
   exact fin _ _ 0 fp [] l (hL.symm.trans (jr hr2 (by simp))) rfl rfl ta.symm tl.symm Okl.none (by decide) h1 h2 rfl (fun x hx=>hx) (Fr.refl _ _) h.lt
 ·
  obtain ⟨T',S',k',fp',q1,q2,q3,q4,q5,q6,q7,q8,q9,q10⟩:=zy.round (m:=min 8 l.length) (q:=q) (me:=me) (nodes:=nodes) (l:=l) (fp:=fp) (a:=a) (S0:=S) hm0 ⟨by omega,hn0⟩ h.KE h.len ha (by omega) (min 8 l.length) [] l (k:=0) (fp1:=fp) hL rfl rfl rfl rfl rfl rfl (by simp) Okl.none (by decide) h1 (by simpa using h2) (fun x hx=>hx) (Fr.refl _ _) h.lt
  have et:l.take (min 8 l.length)=l.take 8:=by
   by_cases h8:l.length≤8
   ·
    rw [List.take_of_length_le (by omega),List.take_of_length_le h8]
   ·
    rw [Nat.min_eq_left (by omega)]
  have ed:l.drop (min 8 l.length)=l.drop 8:=by
   by_cases h8:l.length≤8
   ·
    rw [List.drop_eq_nil_of_le (by omega),List.drop_eq_nil_of_le h8]
   ·
    rw [Nat.min_eq_left (by omega)]
  rw [et] at q3 q4 q7
  rw [ed] at q7
  exact fin T' S' k' fp' _ _ q1 q2 q3 (by rw [ZR,if_neg hn]) (by rw [Yb,if_neg hn]) q4 q5 q6 q7 (by simp;omega) q8 q9 q10
end
end Go.Proofs.Ytpjglojnipjgfaa
namespace Go.Proofs.Ytpjglojnipjgfaa
open Go.Abs
structure aea (kn ka:Nat) (l:List jX):Prop where
 n:Okl kn (l.map (·.name))
 a:Okl ka (l.map (·.asked))
 n2:kn≠2
 a2:ka≠2
section
variable {S:zx} {me nodes:Int} {l:List jX} {kn ka q e:Nat} {own:Own}
theorem Q9 (n:Int):(!decide (Z5 n=0))=kU n:=by
 unfold Z5
 cases h:kU n with
 | false=>rfl
 | true =>
  have:=Zn.mp h
  rw [if_pos rfl,decide_eq_false (by omega)];rfl
end
end Go.Proofs.Ytpjglojnipjgfaa
namespace Go.Proofs.Ytpjglojnipjgfaa
open Go.Abs
theorem yV.v (S:zx):zZ zi O 8 [] S=some (.bool true,S):=aah (n:=20) (by kernel_rfl)
section
variable {l:List ZL}
end
end Go.Proofs.Ytpjglojnipjgfaa
namespace Go.Proofs.Ytpjglojnipjgfaa
open Go.Abs
def wl (m:Nat):List jX:=(List.range m).map fun i:Nat=>⟨65536 * ((i:Int)+1),0⟩
theorem acY (m:Nat):(wl m).length=m:=by simp [wl]
theorem ab4 (m:Nat):wl (m+1)=wl m++[⟨65536 * ((m:Int)+1),0⟩]:=by simp [wl,List.range_succ]
theorem ac5 {m:Nat} {w:jX} (h:w ∈ wl m):∃ i:Nat,i < m∧w.name=65536 * ((i:Int)+1)∧w.asked=0:=by
 simp only [wl,List.mem_map,List.mem_range] at h
 obtain ⟨i,h1,rfl⟩:=h
 exact ⟨i,h1,rfl,rfl⟩
theorem XR {m:Nat} (h:m < 32):vT (wl m) (65536 * ((m:Int)+1))=true:=by
 have h1:(wl m).any (fun w=>decide (65536 * ((m:Int)+1)=w.name))=false:=by
  rw [List.any_eq_false]
  intro w hw
  obtain ⟨i,h1,h2,_⟩:=ac5 hw
  rw [h2]
  simp
  omega
 have h2:kU (65536 * ((m:Int)+1))=true:=Zn.mpr ⟨by omega,by omega,by omega⟩
 unfold vT
 rw [Q9,h2,h1,acY,decide_eq_true h];rfl
theorem KU {m:Nat} (h:m < 32):Wp (wl m) (65536 * ((m:Int)+1))=wl (m+1):=by
 unfold Wp
 rw [XR h,if_pos rfl,ab4]
theorem adx (S:zx):yS zi 54 S=some (.pointer (some ⟨S.next,0,none⟩),S.push (.cells [.int .i64 0,.int .i64 0,.int .i64 0,.int .i64 0,.int .i64 0,.int .i64 0,.int .i64 0,.int .i64 0,.int .i64 0,.int .i64 0,.int .i64 0,.int .i64 0,.int .i64 0,.slice none 0 0] (.own []) 0)):=by kernel_rfl
abbrev adU (x:ZL):Value:=.agg [Value.int .i64 x.to,.int .i64 2,.int .i64 x.frm,.int .i64 0,.int .i64 0,.int .i64 x.val,.int .i64 0,.int .i64 0,.int .i64 0,.int .i64 0,.int .i64 0,.int .i64 0,.int .i64 0,.slice none 0 0].toArray
theorem adu {k:Nat} {l pre suf:List ZL} {x:ZL} (hk:Okl k l) (hl:l=pre++x::suf) (S:zx):zK zi 26 (az k l) (.int .i64 pre.length) S=some (EP [Value.int .i64 x.to,.int .i64 2,.int .i64 x.frm,.int .i64 0,.int .i64 0,.int .i64 x.val,.int .i64 0,.int .i64 0,.int .i64 0,.int .i64 0,.int .i64 0,.int .i64 0,.int .i64 0,.slice none 0 0],S):=by
 rw [acS qm xg abm hk (by omega) (by rw [hl];simp;omega),acP hl];rfl
theorem acf (x:ZL) (S:zx):∃ S2,yN zi 54 (.pointer (some ⟨S.next,0,none⟩)) (adU x) (S.push (.cells [.int .i64 0,.int .i64 0,.int .i64 0,.int .i64 0,.int .i64 0,.int .i64 0,.int .i64 0,.int .i64 0,.int .i64 0,.int .i64 0,.int .i64 0,.int .i64 0,.int .i64 0,.slice none 0 0] (.own []) 0))=some (zh,S2)∧S2.get S.next=some (.cells (fA x) (.own []) 0)∧Ext S S2∧S.next < S2.next :=
 Zf (P:=zi) (t:=54) (z:=[.int .i64 0,.int .i64 0,.int .i64 0,.int .i64 0,.int .i64 0,.int .i64 0,.int .i64 0,.int .i64 0,.int .i64 0,.int .i64 0,.int .i64 0,.int .i64 0,.int .i64 0,.slice none 0 0]) (xs:=fA x) (x:=adU x) S rfl xg rfl rfl
theorem adb {k:Nat} {l:List ZL} (hk:Okl k l) (S:zx):WL zi 26 (az k l) S=some (goInt l.length,S):=abw (P:=zi) (t:=26) (f:=fA) (e:=14) (S:=S) qm hk
end Go.Proofs.Ytpjglojnipjgfaa
namespace Go.Proofs.Ytpjglojnipjgfaa
open Go.Abs
namespace fetchAll
def codes:List (Bool×Ty):=[(false,.int .i64),(false,.int .i64),(false,.int .i64)]
theorem coded:Z4 zi 9 [3,3,3]=some codes:=by kernel_rfl
def cg (g:Nat→Int):List Value:=(List.range 56).map fun i:Nat=>.int .i64 (g i)
theorem WM (g:Nat→Int):(cg g).length=56:=by simp [cg]
theorem aaA (g:Nat→Int) {i:Nat} (h:i < 56):(cg g)[i]?=some (.int .i64 (g i)):=by
 unfold cg
 rw [List.getElem?_map,List.getElem?_range h];rfl
theorem adr (g:Nat→Int) {i:Nat} (h:i < 56) (v:Int):splice (cg g) i [.int .i64 v]=cg fun j=>if j=i then v else g j:=by
 have e:splice (cg g) i [.int .i64 v]=(cg g).set i (.int .i64 v):=by
  rw [List.set_eq_take_append_cons_drop,if_pos (by rw [WM];exact h)]
  simp [splice]
 rw [e]
 apply List.ext_getElem?
 intro j
 rw [List.getElem?_set]
 by_cases hj:j < 56
 ·
  rw [aaA _ hj,aaA _ hj]
  by_cases hij:i=j
  ·
   subst hij
   rw [if_pos rfl,if_pos (by rw [WM];exact h),if_pos rfl]
  ·
   rw [if_neg hij,if_neg (fun h=>hij h.symm)]
 ·
  rw [if_neg (by omega),List.getElem?_eq_none (by rw [WM];omega),List.getElem?_eq_none (by rw [WM];omega)]
def before (me nodes:Int) (t:Nat) (to:Nat):Bool:=decide ((to:Int) < nodes) && decide (((to:Int) - me - 1) % nodes < t)
theorem JL {me nodes:Int} {t:Nat} (hn:2≤nodes∧nodes≤7) (hm:0≤me∧me < nodes) (ht:(t:Int) < nodes - 1) :
  0≤qX me nodes t∧qX me nodes t < nodes∧qX me nodes t≠me∧before me nodes t (qX me nodes t).toNat=false∧∀ to:Nat,before me nodes (t+1) to=(before me nodes t to || decide (to=(qX me nodes t).toNat)):=by
 have h7:nodes=2∨nodes=3∨nodes=4∨nodes=5∨nodes=6∨nodes=7:=by omega
 have hmod:(t:Int) % (nodes - 1)=t:=Int.emod_eq_of_lt (by omega) ht
 unfold qX before
 rw [hmod]
 refine ⟨?_,?_,?_,?_,fun to=>?_⟩
 ·
  rcases h7 with rfl | rfl | rfl | rfl | rfl | rfl <;> omega
 ·
  rcases h7 with rfl | rfl | rfl | rfl | rfl | rfl <;> omega
 ·
  rcases h7 with rfl | rfl | rfl | rfl | rfl | rfl <;> omega
 ·
  rw [Bool.and_eq_false_iff,decide_eq_false_iff_not,decide_eq_false_iff_not]
  rcases h7 with rfl | rfl | rfl | rfl | rfl | rfl <;> omega
 ·
  rw [Bool.eq_iff_iff]
  simp only [Bool.and_eq_true,Bool.or_eq_true,decide_eq_true_eq]
  rcases h7 with rfl | rfl | rfl | rfl | rfl | rfl <;> omega
theorem aaC {me nodes:Int} (hn:2≤nodes) (to:Nat):before me nodes 0 to=false:=by
 unfold before
 have:=Int.emod_nonneg ((to:Int) - me - 1) (show nodes≠0 by omega)
 rw [Bool.and_eq_false_iff,decide_eq_false_iff_not,decide_eq_false_iff_not]
 omega
theorem KC {me nodes:Int} {m to:Nat} (hn:2≤nodes∧nodes≤7) (hm:0≤me∧me < nodes) (hmn:(m:Int)=nodes - 1) (ht:(to:Int) < nodes):before me nodes m to=!decide ((to:Int)=me):=by
 have h7:nodes=2∨nodes=3∨nodes=4∨nodes=5∨nodes=6∨nodes=7:=by omega
 unfold before
 rw [Bool.eq_iff_iff]
 simp only [Bool.and_eq_true,decide_eq_true_eq,Bool.not_eq_true',decide_eq_false_iff_not]
 rcases h7 with rfl | rfl | rfl | rfl | rfl | rfl <;> omega
def G (me nodes:Int) (N t i:Nat) (j:Nat):Int:=if (j % 8 < N∧before me nodes t (j / 8)=true)∨(j % 8 < i∧j / 8=(qX me nodes t).toNat) then 1 else 0
theorem adn (me nodes:Int) (hn:2≤nodes) (N:Nat) (j:Nat):G me nodes N 0 0 j=0:=by
 unfold G
 rw [aaC hn,if_neg]
 simp
theorem acV {me nodes:Int} {N t:Nat} (hn:2≤nodes∧nodes≤7) (hm:0≤me∧me < nodes) (ht:(t:Int) < nodes - 1) (j:Nat):G me nodes N t N j=G me nodes N (t+1) 0 j:=by
 obtain ⟨_,_,_,_,h⟩:=JL hn hm ht
 unfold G
 rw [h]
 simp only [Bool.or_eq_true,decide_eq_true_eq,Nat.not_lt_zero,false_and,or_false]
 congr 1
 apply propext
 constructor
 ·
  rintro (⟨h1,h2⟩ | ⟨h1,h2⟩)
  ·
   exact ⟨h1,.inl h2⟩
  ·
   exact ⟨h1,.inr h2⟩
 ·
  rintro ⟨h1,h2 | h2⟩
  ·
   exact .inl ⟨h1,h2⟩
  ·
   exact .inr ⟨h1,h2⟩
theorem ad9 {me nodes:Int} {N t i:Nat} (hn:2≤nodes∧nodes≤7) (hm:0≤me∧me < nodes) (ht:(t:Int) < nodes - 1) (hi:i < 8):G me nodes N t i ((qX me nodes t).toNat * 8+i)=0:=by
 obtain ⟨_,_,_,h4,_⟩:=JL hn hm ht
 unfold G
 rw [show ((qX me nodes t).toNat * 8+i) / 8=(qX me nodes t).toNat by omega,h4,if_neg]
 rintro (⟨_,h⟩ | ⟨h,_⟩)
 ·
  cases h
 ·
  omega
theorem adO {me nodes:Int} {N t i:Nat} (hi:i < 8) (j:Nat):(if j=(qX me nodes t).toNat * 8+i then (1:Int) else G me nodes N t i j)=G me nodes N t (i+1) j:=by
 unfold G
 by_cases hj:j=(qX me nodes t).toNat * 8+i
 ·
  rw [if_pos hj,if_pos]
  exact .inr ⟨by omega,by omega⟩
 ·
  rw [if_neg hj]
  congr 1
  apply propext
  constructor
  ·
   rintro (h | ⟨h1,h2⟩)
   ·
    exact .inl h
   ·
    exact .inr ⟨by omega,h2⟩
  ·
   rintro (h | ⟨h1,h2⟩)
   ·
    exact .inl h
   ·
    exact .inr ⟨by omega,h2⟩
def wla (N t:Nat):List jX:=(List.range N).map fun i:Nat=>⟨65536 * ((i:Int)+1),t⟩
theorem aa1 {nodes:Int} {N t:Nat} (hn:2≤nodes) (hN:N≤8):Yb nodes (wla N t)=wla N (t+1):=by
 unfold Yb
 have hl:(wla N t).length≤8:=by simp [wla];exact hN
 rw [if_neg (by omega),List.take_of_length_le hl,List.drop_eq_nil_of_le hl,List.append_nil]
 unfold wla
 rw [List.map_map]
 rfl
def acts (me nodes:Int) (N t:Nat):List ZL:=(List.range N).map fun i:Nat=>⟨qX me nodes t,me,65536 * ((i:Int)+1)⟩
theorem XP {me nodes:Int} {N t:Nat} (hn:2≤nodes) (hN:N≤8):ZR me nodes (wla N t)=acts me nodes N t:=by
 unfold ZR
 have hl:(wla N t).length≤8:=by simp [wla];exact hN
 rw [if_neg (by omega),List.take_of_length_le hl]
 unfold wla acts
 rw [List.map_map]
 rfl
theorem acd {me nodes:Int} {N t:Nat} {pre suf:List ZL} {x:ZL} (h:acts me nodes N t=pre++x::suf):x=⟨qX me nodes t,me,65536 * ((pre.length:Int)+1)⟩:=by
 have h3:(acts me nodes N t)[pre.length]?=some x:=by
  rw [h,List.getElem?_append_right (by omega),Nat.sub_self,List.getElem?_cons_zero]
 obtain ⟨hb,he⟩:=List.getElem?_eq_some_iff.1 h3
 simp only [acts,List.getElem_map,List.getElem_range] at he
 exact he.symm
section
variable {me nodes:Int} {q N:Nat}
theorem ac3 (hN:N≤8):∀ (d m:Nat) {T:List Value} {r:St} {S:zx} {fp:List Nat},wP (zC zi O false zu.jw) T S=r→T.length=128 →
  T.getD 0 zh=.int .i64 me→T.getD 1 zh=.int .i64 nodes→T.getD 2 zh=.int .i64 N→T.getD 7 zh=.pointer (some ⟨q,0,none⟩)→T.getD 8 zh=.int .i64 m→N=m+d→Ft S q me nodes (wl m) fp →
  ∃ T' S' fp',r=some (.exit 0,T',S')∧T'.length=128∧T'.getD 0 zh=.int .i64 me∧T'.getD 1 zh=.int .i64 nodes∧T'.getD 2 zh=.int .i64 N∧T'.getD 7 zh=.pointer (some ⟨q,0,none⟩)∧Ft S' q me nodes (wl N) fp':=by
 intro d
 induction d with
 | zero =>
  intro m T r S fp hL hT h0 h1 h2 h7 h8 hm hF
  have hTe:=zu.eta hT
  rw [h0,h1,h2,h7,h8] at hTe
  have hr:zC zi O false zu.jw T S=zC zi O false zu.jw T S:=rfl
  have hd:¬ (m:Int) < (N:Int):=by omega
  conv at hr =>
   rhs
   rw [hTe]
   simp only [zu.jw,zu.code,zu.rs,zSs,reduceIte,zk,zn,zo,zq,hd]
  exact ⟨_,_,fp,hL.symm.trans (jr hr (by simp)),rfl,rfl,rfl,rfl,rfl,by rw [hm];exact hF⟩
 | succ d ih =>
  intro m T r S fp hL hT h0 h1 h2 h7 h8 hm hF
  have hTe:=zu.eta hT
  rw [h0,h1,h2,h7,h8] at hTe
  have hr:zC zi O false zu.jw T S=zC zi O false zu.jw T S:=rfl
  have hd:(m:Int) < (N:Int):=by omega
  have w1:IntKind.i64.wrap (65536 * (m:Int))=65536 * (m:Int):=wrap_i64 (by omega) (by omega)
  have w2:IntKind.i64.wrap (65536+65536 * (m:Int))=65536 * ((m:Int)+1):=by rw [wrap_i64 (by omega) (by omega)];omega
  obtain ⟨S1,fp1,c1,c2,c3,c4⟩:=zB.v hF (65536 * ((m:Int)+1))
  rw [KU (by omega)] at c2
  have wi:IntKind.i64.wrap ((m:Int)+1)=((m+1:Nat):Int):=by rw [wrap_i64 (by omega) (by omega)];omega
  conv at hr =>
   rhs
   rw [hTe]
   simp only [zu.jw,zu.code,zu.rs,zSs,reduceIte,zk,zn,zo,zq,hd,JK,w1,w2,c1,wi]
  exact ih (m+1) ((wz hr).symm.trans hL) rfl rfl rfl rfl rfl rfl (by omega) c2
theorem count {t p i:Nat} {S1:zx} (hn:2≤nodes∧nodes≤7) (hm:0≤me∧me < nodes) (ht:(t:Int) < nodes - 1) (hi:i < 8) (g1:S1.get p=some (.cells (cg (G me nodes N t i)) (.own []) 0)) :
  jf zi false 3 (.pointer (some ⟨p,0+(qX me nodes t).toNat * 8+i,none⟩)) S1=some (.int .i64 0,S1) ∧
  ∃ S2,yN zi 3 (.pointer (some ⟨p,0+(qX me nodes t).toNat * 8+i,none⟩)) (.int .i64 1) S1=some (zh,S2)∧S2.get p=some (.cells (cg (G me nodes N t (i+1))) (.own []) 0)∧S2.next=S1.next∧∀ y,y≠p→S2.get y=S1.get y:=by
 obtain ⟨t1,t2,t3,t4,t5⟩:=JL hn hm ht
 have hlt:(qX me nodes t).toNat * 8+i < 56:=by omega
 refine ⟨wJ g1 xO (by rw [Nat.zero_add,aaA _ hlt,ad9 hn hm ht (by omega)]),?_⟩
 have st:=qL (P:=zi) (t:=3) (o:=0+(qX me nodes t).toNat * 8+i) (x:=.int .i64 1) g1 Xg rfl rfl (by rw [WM];omega)
 refine ⟨_,st,?_,rfl,fun y hy=>by rw [zx.zV,if_neg hy];rfl⟩
 rw [zx.zV,if_pos rfl]
 show some (jP.cells (splice _ _ [.int .i64 1]) _ _)=_
 rw [Nat.zero_add,adr _ hlt,show (fun j=>if j=(qX me nodes t).toNat * 8+i then (1:Int) else G me nodes N t i j)=G me nodes N t (i+1) from funext fun j=>adO hi j]
theorem step2 {t p:Nat} (hN:N≤8) (hn:2≤nodes∧nodes≤7) (hm:0≤me∧me < nodes) (ht:(t:Int) < nodes - 1) {k:Nat} (hk:Okl k (acts me nodes N t)) {x:ZL} {suf pre:List ZL} {T:List Value} {S:zx} (hT:T.length=128)
  (h0:T.getD 0 zh=.int .i64 me) (h1:T.getD 1 zh=.int .i64 nodes) (h9:T.getD 9 zh=.pointer (some ⟨p,0,none⟩)) (h66:T.getD 66 zh=az k (acts me nodes N t)) (h67:T.getD 67 zh=.int .i64 (acts me nodes N t).length) (h68:T.getD 68 zh=.int .i64 pre.length) (hl:acts me nodes N t=pre++x::suf)
  (hg:S.get p=some (.cells (cg (G me nodes N t pre.length)) (.own []) 0)) (hp:p < S.next) :
  ∃ T' S',zC zi O false zu.ZO T S=some (.normal,T',S')∧(T'.length=128∧T'.getD 0 zh=.int .i64 me∧T'.getD 1 zh=.int .i64 nodes∧T'.getD 2 zh=T.getD 2 zh∧T'.getD 7 zh=T.getD 7 zh∧T'.getD 9 zh=.pointer (some ⟨p,0,none⟩)∧T'.getD 10 zh=T.getD 10 zh∧T'.getD 66 zh=az k (acts me nodes N t)∧T'.getD 67 zh=.int .i64 (acts me nodes N t).length∧T'.getD 68 zh=.int .i64 (pre++[x]).length) ∧
   S'.get p=some (.cells (cg (G me nodes N t (pre.length+1))) (.own []) 0)∧S.next≤S'.next∧∀ y,y≠p→y < S.next→S'.get y=S.get y:=by
 have hTe:=zu.eta hT
 rw [h0,h1,h9,h66,h67,h68] at hTe
 have hr:zC zi O false zu.ZO T S=zC zi O false zu.ZO T S:=rfl
 have hlen:(acts me nodes N t).length=pre.length+1+suf.length:=by rw [hl];simp;omega
 have hlN:(acts me nodes N t).length=N:=by simp [acts]
 have hd:(pre.length:Int) < ((acts me nodes N t).length:Int):=by omega
 have h8:pre.length < 8:=by omega
 have d65:(65536:Int)≠0:=by decide
 have qd:IntKind.i64.wrap ((65536 * ((pre.length:Int)+1)).tdiv 65536)=(pre.length:Int)+1:=by rw [JH (by omega),wrap_i64 (by omega) (by omega)];omega
 have qs:IntKind.i64.wrap ((pre.length:Int)+1 - 1)=(pre.length:Int):=by rw [wrap_i64 (by omega) (by omega)];omega
 have wi:IntKind.i64.wrap ((pre.length:Int)+1)=((pre++[x]).length:Int):=by rw [wrap_i64 (by omega) (by omega)];simp
 have w1:IntKind.i64.wrap (0+1:Int)=1:=wrap_i64 (by omega) (by omega)
 have hxe:=acd hl
 obtain ⟨t1,t2,t3,t4,t5⟩:=JL hn hm ht
 have e1:=adu hk hl
 obtain ⟨S1,n1,n2,n3,n4⟩:=acf x S
 have l0:jf zi false 3 (.pointer (some ⟨S.next,0+0,none⟩)) S1=some (.int .i64 x.to,S1):=wJ (o:=0+0) n2 xO rfl
 have l2:jf zi false 3 (.pointer (some ⟨S.next,0+1+1,none⟩)) S1=some (.int .i64 x.frm,S1):=wJ (o:=0+1+1) n2 xO rfl
 have l5:jf zi false 3 (.pointer (some ⟨S.next,0+1+4,none⟩)) S1=some (.int .i64 x.val,S1):=wJ (o:=0+1+4) n2 xO rfl
 have xt:x.to=qX me nodes t:=by rw [hxe]
 have xf:x.frm=me:=by rw [hxe]
 have xv:x.val=65536 * ((pre.length:Int)+1):=by rw [hxe]
 rw [xt] at l0
 rw [xf] at l2
 rw [xv] at l5
 have d1:(qX me nodes t < 0)=False:=eq_false (Int.not_lt.mpr t1)
 have d2:(nodes≤qX me nodes t)=False:=eq_false (Int.not_le.mpr t2)
 have t7:qX me nodes t < 7:=Int.lt_of_lt_of_le t2 hn.2
 have d3:(qX me nodes t=me)=False:=eq_false t3
 have g1:S1.get p=some (.cells (cg (G me nodes N t pre.length)) (.own []) 0):=(n3.get p hp).trans hg
 have i1:∀ S,zK zi 45 (.pointer (some ⟨p,0,none⟩)) (.int .i64 (qX me nodes t)) S=some (.pointer (some ⟨p,0+(qX me nodes t).toNat * 8,none⟩),S):=fun S=>Wv (o:=0) Zj Qn t1 t7
 have i2:∀ S,zK zi 44 (.pointer (some ⟨p,0+(qX me nodes t).toNat * 8,none⟩)) (.int .i64 pre.length) S=some (.pointer (some ⟨p,0+(qX me nodes t).toNat * 8+pre.length,none⟩),S):=fun S=>by
  rw [Wv (o:=0+(qX me nodes t).toNat * 8) (j:=pre.length) Qs Xg (Int.natCast_nonneg _) (Int.ofNat_lt.mpr h8)]
  rw [Int.toNat_natCast,Nat.mul_one]
 obtain ⟨lg,S2,st,g2,hnx,hoth⟩:=count hn hm ht h8 g1
 have al:=adx S
 conv at hr =>
  rhs
  rw [hTe]
  simp only [zu.ZO,zu.code,zu.rs,zSs,reduceIte,zk,zn,zo,zq,hd,e1,Kr,al,n1,Yu,Yy,Yr,Yz,l0,l2,l5,d1,d2,d3,JI _ _ _ d65,qd,qs,i1,i2,lg,w1,st,wi]
 exact ⟨_,_,hr,⟨rfl,rfl,rfl,rfl,rfl,rfl,rfl,rfl,rfl,rfl⟩,g2,Nat.le_trans n3.next (Nat.le_of_eq hnx.symm),fun y hy hys=>(hoth y hy).trans (n3.get y hys)⟩
theorem ac7 {t p:Nat} (hN:N≤8) (hn:2≤nodes∧nodes≤7) (hm:0≤me∧me < nodes) (ht:(t:Int) < nodes - 1) {k:Nat} (hk:Okl k (acts me nodes N t)):∀ (suf pre:List ZL) {T:List Value} {r:St} {S:zx},wP (zC zi O false zu.ZO) T S=r→T.length=128 →
  T.getD 0 zh=.int .i64 me→T.getD 1 zh=.int .i64 nodes→T.getD 9 zh=.pointer (some ⟨p,0,none⟩)→T.getD 66 zh=az k (acts me nodes N t)→T.getD 67 zh=.int .i64 (acts me nodes N t).length→T.getD 68 zh=.int .i64 pre.length→acts me nodes N t=pre++suf →
  S.get p=some (.cells (cg (G me nodes N t pre.length)) (.own []) 0)→p < S.next →
  ∃ T' S',r=some (.exit 4,T',S')∧T'.length=128∧T'.getD 0 zh=.int .i64 me∧T'.getD 1 zh=.int .i64 nodes∧T'.getD 2 zh=T.getD 2 zh∧T'.getD 7 zh=T.getD 7 zh∧T'.getD 9 zh=.pointer (some ⟨p,0,none⟩)∧T'.getD 10 zh=T.getD 10 zh ∧
   S'.get p=some (.cells (cg (G me nodes N t N)) (.own []) 0)∧S.next≤S'.next∧∀ x,x≠p→x < S.next→S'.get x=S.get x:=by
 intro suf
 induction suf with
 | nil =>
  intro pre T r S hL hT h0 h1 h9 h66 h67 h68 hl hg hp
  have hTe:=zu.eta hT
  rw [h0,h1,h9,h66,h67,h68] at hTe
  have hr:zC zi O false zu.ZO T S=zC zi O false zu.ZO T S:=rfl
  have hd:¬ (pre.length:Int) < ((acts me nodes N t).length:Int):=by rw [hl];simp
  conv at hr =>
   rhs
   rw [hTe]
   simp only [zu.ZO,zu.code,zu.rs,zSs,reduceIte,zk,zn,zo,zq,hd]
  have hpn:pre.length=N:=by
   have:=congrArg List.length hl
   simp [acts] at this
   exact this.symm
  rw [hpn] at hg
  exact ⟨_,_,hL.symm.trans (jr hr (by simp)),rfl,rfl,rfl,rfl,rfl,rfl,rfl,hg,Nat.le_refl _,fun _ _ _=>rfl⟩
 | cons x suf ih =>
  intro pre T r S hL hT h0 h1 h9 h66 h67 h68 hl hg hp
  obtain ⟨T1,S1,hr,⟨k1,k2,k3,k4,k5,k6,k7,k8,k9,k10⟩,g1,g2,g3⟩:=step2 hN hn hm ht hk hT h0 h1 h9 h66 h67 h68 hl hg hp
  have hpl:(pre++[x]).length=pre.length+1:=by simp
  obtain ⟨T',S',p1,p2,p3,p4,p5,p6,p7,p8,p9,p10,p11⟩:=ih (pre++[x]) ((wz hr).symm.trans hL) k1 k2 k3 k6 k8 k9 k10 (by simp [hl]) (by rw [hpl];exact g1) (Nat.lt_of_lt_of_le hp g2)
  exact ⟨T',S',p1,p2,p3,p4,p5.trans k4,p6.trans k5,p7,p8.trans k7,p9,Nat.le_trans g2 p10,fun y hy hys=>(p11 y hy (Nat.lt_of_lt_of_le hys g2)).trans (g3 y hy hys)⟩
theorem acZ {p:Nat} (hN:N≤8) (hn:2≤nodes∧nodes≤7) (hm:0≤me∧me < nodes):∀ (d t:Nat) {T:List Value} {r:St} {S:zx} {fp:List Nat},wP (zC zi O false zu.J5) T S=r→T.length=128 →
  T.getD 0 zh=.int .i64 me→T.getD 1 zh=.int .i64 nodes→T.getD 2 zh=.int .i64 N→T.getD 7 zh=.pointer (some ⟨q,0,none⟩)→T.getD 9 zh=.pointer (some ⟨p,0,none⟩)→T.getD 10 zh=.int .i64 ((t:Int)+1)→(t:Int)+d=nodes - 1→Ft S q me nodes (wla N t) fp →
  S.get p=some (.cells (cg (G me nodes N t 0)) (.own []) 0)→p < S.next→p≠q →
  ∃ T' S' m,r=some (.exit 2,T',S')∧T'.length=128∧T'.getD 0 zh=.int .i64 me∧T'.getD 1 zh=.int .i64 nodes∧T'.getD 2 zh=.int .i64 N∧T'.getD 9 zh=.pointer (some ⟨p,0,none⟩)∧((m:Nat):Int)=nodes - 1∧S'.get p=some (.cells (cg (G me nodes N m 0)) (.own []) 0):=by
 intro d
 induction d with
 | zero =>
  intro t T r S fp hL hT h0 h1 h2 h7 h9 h10 ht hF hg hp hpq
  have hTe:=zu.eta hT
  rw [h0,h1,h2,h7,h9,h10] at hTe
  have hr:zC zi O false zu.J5 T S=zC zi O false zu.J5 T S:=rfl
  have hd:¬ (t:Int)+1 < nodes:=by omega
  conv at hr =>
   rhs
   rw [hTe]
   simp only [zu.J5,zu.code,zu.rs,zSs,reduceIte,zk,zn,zo,zq,hd]
  exact ⟨_,_,t,hL.symm.trans (jr hr (by simp)),rfl,rfl,rfl,rfl,rfl,by omega,hg⟩
 | succ d ih =>
  intro t T r S fp hL hT h0 h1 h2 h7 h9 h10 ht hF hg hp hpq
  have hTe:=zu.eta hT
  rw [h0,h1,h2,h7,h9,h10] at hTe
  have hr:zC zi O false zu.J5 T S=zC zi O false zu.J5 T S:=rfl
  have hd:(t:Int)+1 < nodes:=by omega
  have htl:(t:Int) < nodes - 1:=by omega
  obtain ⟨k,S1,fp1,c1,c2,c3,c4,c5,c6⟩:=zy.v hF hm hn.2 (fun w h=>by
   simp only [wla,List.mem_map,List.mem_range] at h
   obtain ⟨i,_,rfl⟩:=h
   show 0≤(t:Int)∧(t:Int) < _
   omega)
  rw [XP hn.1 hN] at c1 c2
  rw [aa1 hn.1 hN] at c4
  have hlN:(acts me nodes N t).length=N:=by simp [acts]
  have ln2:=adb c2.dem
  have g1:S1.get p=some (.cells (cg (G me nodes N t 0)) (.own []) 0):=by
   have st:=hF.stay (c6.more fun x hx=>.inl (by simp [hx]))
   exact (st.2 p _ _ hpq hp hg).trans hg
  have hq:(((acts me nodes N t).length:Int)=(N:Int))=True:=eq_true (by rw [hlN])
  conv at hr =>
   rhs
   rw [hTe]
   simp only [zu.J5,zu.code,zu.rs,zSs,reduceIte,zk,zn,zo,zq,hd,c1,ln2,goInt,hq]
  generalize hL2:wP (zC zi O false zu.ZO) _ _=r2 at hr
  have hps1:p < S1.next:=Nat.lt_of_lt_of_le hp c6.1
  obtain ⟨T2,S2,rfl,p2,p3,p4,p5,p6,p7,p8,p9,p10,p11⟩:=ac7 (t:=t) (p:=p) hN hn hm htl c2.dem (acts me nodes N t) [] hL2 rfl rfl rfl rfl rfl rfl rfl rfl g1 hps1
  have hT2:=zu.eta p2
  rw [p3,p4,p5,p6,p7,p8] at hT2
  have F2:Ft S2 q me nodes (wla N (t+1)) fp1:=by
   obtain ⟨a,k1,k2⟩:=c4.cell
   exact ⟨Nat.lt_of_lt_of_le c4.lt p10,c4.len,a,by rw [p11 q (fun e=>hpq e.symm) c4.lt];exact k1,k2.keep p10 fun x hx=>p11 x (fun e=>k2.many x hx (cg (G me nodes N t 0)) (.own []) (by rw [e];exact g1)) (k2.lt x hx)⟩
  have wi:IntKind.i64.wrap ((t:Int)+1+1)=((t+1:Nat):Int)+1:=by rw [wrap_i64 (by omega) (by omega)];omega
  conv at hr =>
   rhs
   simp only [zSs,reduceIte,zk,zn,zo,zq]
   rw [hT2]
   simp only [zu.code,zu.rs,zSs,reduceIte,zk,zn,zo,zq,wi]
  have hG:G me nodes N t N=G me nodes N (t+1) 0:=funext fun j=>acV hn hm htl j
  rw [hG] at p9
  exact ih (t+1) ((wz hr).symm.trans hL) rfl rfl rfl rfl rfl rfl rfl (by omega) F2 p9 (Nat.lt_of_lt_of_le hps1 p10) hpq
theorem acU {p m to:Nat} {S:zx} (hN:N≤8) (hn:2≤nodes∧nodes≤7) (hm:0≤me∧me < nodes) (hmn:(m:Int)=nodes - 1) (hto:(to:Int) < nodes) (hg:S.get p=some (.cells (cg (G me nodes N m 0)) (.own []) 0)):∀ (d k:Nat) {T:List Value} {r:St},wP (zC zi O false zu.J7) T S=r→T.length=128 →
  T.getD 0 zh=.int .i64 me→T.getD 1 zh=.int .i64 nodes→T.getD 2 zh=.int .i64 N→T.getD 9 zh=.pointer (some ⟨p,0,none⟩)→T.getD 14 zh=.int .i64 to→T.getD 15 zh=.int .i64 k→k+d=N →
  ∃ T',r=some (.exit 8,T',S)∧T'.length=128∧T'.getD 0 zh=.int .i64 me∧T'.getD 1 zh=.int .i64 nodes∧T'.getD 2 zh=.int .i64 N∧T'.getD 9 zh=.pointer (some ⟨p,0,none⟩)∧T'.getD 14 zh=.int .i64 to:=by
 intro d
 induction d with
 | zero =>
  intro k T r hL hT h0 h1 h2 h9 h14 h15 hk
  have hTe:=zu.eta hT
  rw [h0,h1,h2,h9,h14,h15] at hTe
  have hr:zC zi O false zu.J7 T S=zC zi O false zu.J7 T S:=rfl
  have hd:¬ (k:Int) < (N:Int):=by omega
  conv at hr =>
   rhs
   rw [hTe]
   simp only [zu.J7,zu.code,zu.rs,zSs,reduceIte,zk,zn,zo,zq,hd]
  exact ⟨_,hL.symm.trans (jr hr (by simp)),rfl,rfl,rfl,rfl,rfl,rfl⟩
 | succ d ih =>
  intro k T r hL hT h0 h1 h2 h9 h14 h15 hk
  have hTe:=zu.eta hT
  rw [h0,h1,h2,h9,h14,h15] at hTe
  have hr:zC zi O false zu.J7 T S=zC zi O false zu.J7 T S:=rfl
  have hd:(k:Int) < (N:Int):=by omega
  have i1:∀ S,zK zi 45 (.pointer (some ⟨p,0,none⟩)) (.int .i64 (to:Int)) S=some (.pointer (some ⟨p,0+to * 8,none⟩),S):=fun S=>by
   rw [Wv (o:=0) (j:=to) Zj Qn (by omega) (by omega),Int.toNat_natCast]
  have i2:∀ S,zK zi 44 (.pointer (some ⟨p,0+to * 8,none⟩)) (.int .i64 k) S=some (.pointer (some ⟨p,0+to * 8+k,none⟩),S):=fun S=>by
   rw [Wv (o:=0+to * 8) (j:=k) Qs Xg (by omega) (by omega),Int.toNat_natCast,Nat.mul_one]
  have hG:G me nodes N m 0 (to * 8+k)=if (to:Int)=me then 0 else 1:=by
   unfold G
   rw [show (to * 8+k) / 8=to by omega,show (to * 8+k) % 8=k by omega,KC hn hm hmn hto]
   by_cases h:(to:Int)=me
   ·
    rw [if_pos h,decide_eq_true h,if_neg]
    simp
   ·
    rw [if_neg h,decide_eq_false h,if_pos]
    exact .inl ⟨by omega,rfl⟩
  have lg:jf zi false 3 (.pointer (some ⟨p,0+to * 8+k,none⟩)) S=some (.int .i64 (if (to:Int)=me then 0 else 1),S):=wJ hg xO (by
   rw [Nat.zero_add,aaA _ (by omega),hG])
  have wi:IntKind.i64.wrap ((k:Int)+1)=((k+1:Nat):Int):=by rw [wrap_i64 (by omega) (by omega)];omega
  have bb:∀ (b:Bool) S,wQ zi .neq 4 (.bool b) (.bool b) S=some (.bool false,S):=fun b S=>by cases b <;> rfl
  have dq:decide ((if (to:Int)=me then (0:Int) else 1)=1)=!decide ((to:Int)=me):=by
   by_cases h:(to:Int)=me
   ·
    rw [if_pos h,decide_eq_true h];rfl
   ·
    rw [if_neg h,decide_eq_false h];rfl
  conv at hr =>
   rhs
   rw [hTe]
   simp only [zu.J7,zu.code,zu.rs,zSs,reduceIte,zk,zn,zo,zq,hd,i1,i2,lg,dq,bb,wi]
  exact ih (k+1) ((wz hr).symm.trans hL) rfl rfl rfl rfl rfl rfl rfl (by omega)
theorem ac2 {p m:Nat} {S:zx} (hN:N≤8) (hn:2≤nodes∧nodes≤7) (hm:0≤me∧me < nodes) (hmn:(m:Int)=nodes - 1) (hg:S.get p=some (.cells (cg (G me nodes N m 0)) (.own []) 0)):∀ (d to:Nat) {T:List Value} {r:St},wP (zC zi O false zu.J4) T S=r→T.length=128 →
  T.getD 0 zh=.int .i64 me→T.getD 1 zh=.int .i64 nodes→T.getD 2 zh=.int .i64 N→T.getD 9 zh=.pointer (some ⟨p,0,none⟩)→T.getD 14 zh=.int .i64 to→(to:Int)+d=nodes →
  ∃ T',r=some (.exit 6,T',S)∧T'.length=128:=by
 intro d
 induction d with
 | zero =>
  intro to T r hL hT h0 h1 h2 h9 h14 hk
  have hTe:=zu.eta hT
  rw [h0,h1,h2,h9,h14] at hTe
  have hr:zC zi O false zu.J4 T S=zC zi O false zu.J4 T S:=rfl
  have hd:¬ (to:Int) < nodes:=by omega
  conv at hr =>
   rhs
   rw [hTe]
   simp only [zu.J4,zu.code,zu.rs,zSs,reduceIte,zk,zn,zo,zq,hd]
  exact ⟨_,hL.symm.trans (jr hr (by simp)),rfl⟩
 | succ d ih =>
  intro to T r hL hT h0 h1 h2 h9 h14 hk
  have hTe:=zu.eta hT
  rw [h0,h1,h2,h9,h14] at hTe
  have hr:zC zi O false zu.J4 T S=zC zi O false zu.J4 T S:=rfl
  have hd:(to:Int) < nodes:=by omega
  conv at hr =>
   rhs
   rw [hTe]
   simp only [zu.J4,zu.code,zu.rs,zSs,reduceIte,zk,zn,zo,zq,hd]
  generalize hL2:wP (zC zi O false zu.J7) _ _=r2 at hr
  obtain ⟨T2,rfl,p2,p3,p4,p5,p6,p7⟩:=acU hN hn hm hmn (to:=to) (by omega) hg N 0 hL2 rfl rfl rfl rfl rfl rfl rfl (by omega)
  have hT2:=zu.eta p2
  rw [p3,p4,p5,p6,p7] at hT2
  have wi:IntKind.i64.wrap ((to:Int)+1)=((to+1:Nat):Int):=by rw [wrap_i64 (by omega) (by omega)];omega
  conv at hr =>
   rhs
   simp only [zSs,reduceIte,zk,zn,zo,zq]
   rw [hT2]
   simp only [zu.code,zu.rs,zSs,reduceIte,zk,zn,zo,zq,wi]
  exact ih (to+1) ((wz hr).symm.trans hL) rfl rfl rfl rfl rfl rfl (by omega)
end
theorem aaJ (S:zx):jR zi 45 [] S=some (.agg (List.replicate 56 (Value.int .i64 0)).toArray,S):=by kernel_rfl
theorem aaQ (S:zx):yS zi 45 S=some (.pointer (some ⟨S.next,0,none⟩),S.push (.cells (List.replicate 56 (.int .i64 0)) (.own []) 0)):=by kernel_rfl
theorem abP {g:Nat→Int} (h:∀ j,g j=0):List.replicate 56 (Value.int .i64 0)=cg g:=by
 unfold cg
 rw [List.eq_replicate_of_mem (a:=Value.int .i64 0) (l:=(List.range 56).map fun i:Nat=>Value.int .i64 (g i))]
 ·
  simp
 ·
  intro b hb
  rw [List.mem_map] at hb
  obtain ⟨i,_,rfl⟩:=hb
  rw [h]
theorem run {me nodes names:Int} (S:zx):∃ S',zZ zi O 5 [.int .i64 me,.int .i64 nodes,.int .i64 names] S=some (.bool true,S'):=by
 obtain ⟨T,hTe⟩:∃ T,T=(.int .i64 me::.int .i64 nodes::.int .i64 names::zh::zh::zh::zh::zh::zh::zh::zh::zh::zh::zh::zh::zh::zh::zh::zh::zh::zh::zh::zh::zh::zh::zh::zh::zh::zh::zh::zh::zh::zh::zh::zh::zh::zh::zh::zh::zh::zh::zh::zh::zh::zh::zh::zh::zh::zh::zh::zh::zh::zh::zh::zh::zh::zh::zh::zh::zh::zh::zh::zh::zh::zh::zh::zh::zh::zh::zh::zh::zh::zh::zh::zh::zh::zh::zh::zh::zh::zh::zh::zh::zh::zh::zh::zh::zh::zh::zh::zh::zh::zh::zh::zh::zh::zh::zh::zh::zh::zh::zh::zh::zh::zh::zh::zh::zh::zh::zh::zh::zh::zh::zh::zh::zh::zh::zh::zh::zh::zh::zh::zh::zh::zh::zh::zh::zh::[]):=⟨_,rfl⟩
 have hr:zC zi O false zu.code T S=zC zi O false zu.code T S:=rfl
 have al:=fun S=>yV.v S
 by_cases h1:nodes < 2
 ·
  conv at hr =>
   rhs
   rw [hTe]
   simp only [zu.code,zu.rs,zSs,reduceIte,zk,zn,zo,zq,al,h1]
  rw [hTe] at hr
  exact ⟨_,(zu.runs hr (.inr rfl))⟩
 by_cases h2:7 < nodes
 ·
  conv at hr =>
   rhs
   rw [hTe]
   simp only [zu.code,zu.rs,zSs,reduceIte,zk,zn,zo,zq,al,h1,h2]
  rw [hTe] at hr
  exact ⟨_,(zu.runs hr (.inr rfl))⟩
 by_cases h3:me < 0
 ·
  conv at hr =>
   rhs
   rw [hTe]
   simp only [zu.code,zu.rs,zSs,reduceIte,zk,zn,zo,zq,al,h1,h2,h3]
  rw [hTe] at hr
  exact ⟨_,(zu.runs hr (.inr rfl))⟩
 by_cases h4:nodes≤me
 ·
  conv at hr =>
   rhs
   rw [hTe]
   simp only [zu.code,zu.rs,zSs,reduceIte,zk,zn,zo,zq,al,h1,h2,h3,h4]
  rw [hTe] at hr
  exact ⟨_,(zu.runs hr (.inr rfl))⟩
 by_cases h5:names < 1
 ·
  conv at hr =>
   rhs
   rw [hTe]
   simp only [zu.code,zu.rs,zSs,reduceIte,zk,zn,zo,zq,al,h1,h2,h3,h4,h5]
  rw [hTe] at hr
  exact ⟨_,(zu.runs hr (.inr rfl))⟩
 by_cases h6:8 < names
 ·
  conv at hr =>
   rhs
   rw [hTe]
   simp only [zu.code,zu.rs,zSs,reduceIte,zk,zn,zo,zq,al,h1,h2,h3,h4,h5,h6]
  rw [hTe] at hr
  exact ⟨_,(zu.runs hr (.inr rfl))⟩
 obtain ⟨N,rfl⟩:∃ N:Nat,names=N:=⟨names.toNat,by omega⟩
 have hn:2≤nodes∧nodes≤7:=⟨by omega,by omega⟩
 have hm:0≤me∧me < nodes:=⟨by omega,by omega⟩
 obtain ⟨S1,c1,c2,c3⟩:=zY.v me nodes S
 conv at hr =>
  rhs
  rw [hTe]
  simp only [zu.code,zu.rs,zSs,reduceIte,zk,zn,zo,zq,al,h1,h2,h3,h4,h5,h6,c1]
 generalize hL:wP (zC zi O false zu.jw) _ _=r at hr
 obtain ⟨T2,S2,fp2,rfl,p2,p3,p4,p5,p6,p7⟩:=ac3 (N:=N) (q:=S.next) (me:=me) (nodes:=nodes) (by omega) N 0 hL rfl rfl rfl rfl rfl rfl (by omega) c2
 have hT2:=zu.eta p2
 rw [p3,p4,p5,p6] at hT2
 have bd:=aaJ S2
 have aa:=aaQ S2
 obtain ⟨S3,b1,b2,b3,b4⟩:=Zf (P:=zi) (t:=45) (z:=List.replicate 56 (.int .i64 0)) (xs:=List.replicate 56 (.int .i64 0)) (x:=.agg (List.replicate 56 (Value.int .i64 0)).toArray) S2 (by rw [yC]) (by rw [List.length_replicate];exact Qk) rfl (by rfl)
 conv at hr =>
  rhs
  simp only [zSs,reduceIte,zk,zn,zo,zq]
  rw [hT2]
  simp only [zu.code,zu.rs,zSs,reduceIte,zk,zn,zo,zq,bd,aa,b1]
 generalize hL:wP (zC zi O false zu.J5) _ _=r at hr
 rw [abP (adn me nodes hn.1 N)] at b2
 obtain ⟨d,hd⟩:∃ d:Nat,(d:Int)=nodes - 1:=⟨(nodes - 1).toNat,by omega⟩
 obtain ⟨T3,S4,m,rfl,q2,q3,q4,q5,q6,q7,q8⟩:=acZ (N:=N) (q:=S.next) (p:=S2.next) (by omega) hn hm d 0 hL rfl rfl rfl rfl rfl rfl rfl (by omega) (p7.ext b3) b2 b4 (by have:=p7.lt;omega)
 have hT3:=zu.eta q2
 rw [q3,q4,q5,q6] at hT3
 conv at hr =>
  rhs
  simp only [zSs,reduceIte,zk,zn,zo,zq]
  rw [hT3]
  simp only [zu.code,zu.rs,zSs,reduceIte,zk,zn,zo,zq]
 generalize hL:wP (zC zi O false zu.J4) _ _=r at hr
 obtain ⟨n,hnn⟩:∃ n:Nat,(n:Int)=nodes:=⟨nodes.toNat,by omega⟩
 obtain ⟨T4,rfl,r2⟩:=ac2 (N:=N) (p:=S2.next) (by omega) hn hm q7 q8 n 0 hL rfl rfl rfl rfl rfl rfl (by omega)
 have hT4:=zu.eta r2
 conv at hr =>
  rhs
  simp only [zSs,reduceIte,zk,zn,zo,zq]
  rw [hT4]
  simp only [zu.code,zu.rs,zSs,reduceIte,zk,zn,zo,zq]
 rw [hTe] at hr
 exact ⟨_,zu.runs hr (.inr rfl)⟩
theorem law (x:Args codes) (h:Args.Good codes x):∃ k,(yU zi k 5 (Args.place codes x zx.empty).1 (Args.place codes x zx.empty).2).map (·.1)=some (.bool true):=by
 obtain ⟨a,b,c,u⟩:=x
 obtain ⟨S',e⟩:=run (me:=a) (nodes:=b) (names:=c) zx.empty
 exact Qc ac1 (S':=S') e
end fetchAll
end Go.Proofs.Ytpjglojnipjgfaa
namespace Go.Proofs.Ytpjglojnipjgfaa.fetchAll
open Go.ChangeShapes Go.WideShapes Go.ChangeAt Go.RowKit Go.Abs
theorem own:ownKnob zi.godebug=none:=by kernel_rfl
theorem laidOut:laidOutB zi=true:=by kernel_rfl
theorem mixes:zi.follows .mixedOrders=true:=by kernel_rfl
set_option maxRecDepth 100000 in
theorem lifted (os:Os) (started:os.Started) (H:Type) (enc:TypeId×Value→H) :
  ReturnsInHanded {} Try.checked os 5 .any (Rows.fetchAllSpec.pre6 enc zi Try.f5 Rows.fetchAllRow.domain false) (Rows.fetchAllSpec.post enc zi Try.f5 false true false false):=by
 refine returnsInHanded_of_change_sized (C:=Try.checked) own started (by kernel_rfl) Try.func5
  (ChangeSpec.witness6 (enc:=enc) (C:=Try.checked) false ⟨#[],#[.int .i64 0,.int .i64 0,.int .i64 0],[]⟩ 8 (by kernel_rfl) (by kernel_rfl) (by kernel_rfl) (by kernel_rfl)) ?_
 intro W base args ds gs before hval0 hW hcnd hsz0 _
 have hW':=hW
 obtain ⟨p,q,hA0,hV,rfl,hfz,hnd⟩:=hW
 obtain ⟨rfl,rfl⟩:=trodVars_none hV
 have hsz1:(DataW.weightsEach zi (Try.f5.params.toList++Rows.fetchAllSpec.plain.varTypes zi) (ds++[])).all (·≤reachBytes)=true:=hsz0
 have hval:∀ (j:Nat) t v,Try.f5.params[j]?=some t→args[j]?=some v→Value.okWide zi W .any base t v:=hval0
 have hA1:DataW.TrodAll enc zi W 0 (fun _=>true) true Try.f5.params.toList args.toList ds p:=hA0
 rw [Try.params5] at hA1 hsz1 hval
 have hA:DataW.TrodAll enc zi W 0 (fun _=>true) true [3,3,3] args.toList ds p:=hA1
 have hsz:(DataW.weightsEach zi [3,3,3] ds).all (·≤reachBytes)=true:=by rw [List.append_nil ds] at hsz1;exact hsz1
 clear hA0 hA1 hval0 hsz0 hsz1
 have r:=hA
 obtain ⟨v0,vs0,d0,ds0,p0,q0,hargs0,rfl,hp0,h0,r0⟩:=trodAll_cons r
 obtain ⟨v1,vs1,d1,ds1,p1,q1,hargs1,rfl,hp1,h1,r1⟩:=trodAll_cons r0
 obtain ⟨v2,vs2,d2,ds2,p2,q2,hargs2,rfl,hp2,h2,r2⟩:=trodAll_cons r1
 obtain ⟨_,rfl,_⟩:=trodAll_nil r2
 refine (VZ mixes coded law hA (fun j t v h1 h2=>hval j t v (by rw [List.getElem?_toArray];exact h1) h2) hsz).mono fun e W' ⟨he,bel⟩=>?_
 subst he
 exact ⟨_,rfl,_,_,_,[],_,[],hW',trodAll_mk1 (shut_bool (by kernel_rfl) _),aax laidOut bel _ _ _ _ (by kernel_rfl) hA,rfl,bel.frame _,fun h=>by cases h⟩
theorem over:Rows.fetchAllRow.holds Try.pinned (OpenSpec.ofChange Rows.fetchAllSpec) :=
 OpenClaim.holds_of_wide 5 Try.f5 rfl rfl rfl rfl rfl rfl rfl ⟨rfl,rfl,rfl,rfl,rfl⟩ rfl rfl rfl rfl rfl (by kernel_rfl) Try.func5 (by kernel_rfl)
  (of_decide_eq_true (by kernel_rfl)) (by unfold Func.isWrapper;first | (rw [if_pos (by decide +kernel)];kernel_rfl) | (rw [if_neg (by decide +kernel)];exact ⟨rfl,rfl⟩))
  (fun os started H enc _=>lifted os started H enc)
theorem proved:Rows.FetchAllSaid:=over
end Go.Proofs.Ytpjglojnipjgfaa.fetchAll
namespace Go.Proofs.Ytpjglojnipjgfaa
theorem fetchAll_holds:Rows.FetchAllSaid:=fetchAll.proved
#print axioms fetchAll_holds
end Go.Proofs.Ytpjglojnipjgfaa
