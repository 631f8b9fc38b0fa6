/-
The law MempoolPicks returns true for every input, and leaves it as it was; no condition. Part 6 of 6 of the texts (put together by a program: own names are short, what isn't needed is left out).
-/
import Derived.Test.YtacbgjhmkhjpoaaZMempoolPicks5
import Derived.Test.YtacbgjhmkhjpoaaRows
import Derived.WalkKit
import Derived.ProofKit
import Derived.OpenShut
import Derived.ShutString
import Derived.ChangeOld
import Derived.Below
import Derived.SizedLaws
import Derived.Carry
set_option linter.unusedVariables false
set_option linter.unusedSimpArgs false
set_option maxRecDepth 100000
open Go renaming undef → zh
open Go.Proofs.Try renaming prog → zi
open Nat renaming reduceEqDiff → zk
open Int renaming reduceEq → zn
open Int renaming reduceLT → zo
open Int renaming reduceLE → zq
namespace Go.Proofs.Ytacbgjhmkhjpoaa
open Go.Abs
namespace mempoolPicks
def codes:List (Bool×Ty):=[(false,.slc 16 tTx),(false,.int .i64),(false,.slc 8 (.int .i64))]
theorem coded:Wx zi 9 [23,3,38]=some codes:=by kernel_rfl
theorem acM {k:Nat} {l pre suf:List Int} {n:Int} {S:zx} (hk:Okl k l) (hpre:l=pre++n::suf):zV zi 38 (iz k l) (.int .i64 pre.length) S=some (EP [.int .i64 n],S):=by
 have hd:(pre.length:Int) < (l.length:Int):=by rw [hpre];simp;omega
 rw [adq hk (by omega) hd];rw [JG hpre]
section
variable {many:Int} {ks:Nat} {skip:List Int} {q:Nat}
theorem aen {k:Nat} {l:List TxV} (hk:Okl k l) (k2:k≠2) (hl:l.length≤60) {S0:zx}:∀ (suf pre:List TxV) {T:List Value} {r:St} {S:zx} {pl:List TxV},wP (zD zi O false zu.jh) T S=r→T.length=142 →
  T.getD 1 zh=.int .i64 many→T.getD 2 zh=iz ks skip→T.getD 7 zh=.pointer (some ⟨q,0,none⟩)→T.getD 31 zh=tl k l→T.getD 32 zh=.int .i64 l.length→T.getD 33 zh=.int .i64 pre.length→l=pre++suf→PS S0 S q pl→Srt pl →
  ∃ T' S' pl',r=some (.exit 0,T',S')∧T'.length=142∧T'.getD 1 zh=.int .i64 many∧T'.getD 2 zh=iz ks skip∧T'.getD 7 zh=.pointer (some ⟨q,0,none⟩)∧PS S0 S' q pl'∧Srt pl':=by
 intro suf
 induction suf with
 | nil =>
  intro pre T r S pl hL hT h1 h2 h7 h31 h32 h33 hpre hP hs
  have hTe:=zu.eta hT
  rw [h1,h2,h7,h31,h32,h33] at hTe
  have hr:zD zi O false zu.jh T S=zD zi O false zu.jh T S:=rfl
  have d1:¬ (pre.length:Int) < (l.length:Int):=by rw [hpre];simp
  conv at hr =>
   rhs
   rw [hTe]
   simp only [zu.jh,zu.code,zu.rs,zSs,reduceIte,zk,zn,zo,zq,d1]
  exact ⟨_,_,pl,hL.symm.trans (jr hr (by simp)),rfl,rfl,rfl,rfl,hP,hs⟩
 | cons x suf ih =>
  intro pre T r S pl hL hT h1 h2 h7 h31 h32 h33 hpre hP hs
  have hTe:=zu.eta hT
  rw [h1,h2,h7,h31,h32,h33] at hTe
  have hr:zD zi O false zu.jh T S=zD zi O false zu.jh T S:=rfl
  have hll:l.length=pre.length+suf.length+1:=by rw [hpre];simp;omega
  have d1:(pre.length:Int) < (l.length:Int):=by omega
  have e1:=fun S=>Wj (S:=S) hk hpre
  obtain ⟨S1,n1,n2,n3,n4⟩:=VH S x
  have al:=aaH S
  obtain ⟨S2,a2,p2⟩:=Qn (hP.ext n3) x
  have ld:=Qv n2
  have wi:IntKind.i64.wrap ((pre.length:Int)+1)=((pre++[x]).length:Int):=by rw [wrap_i64 (by omega) (by omega)];simp
  conv at hr =>
   rhs
   rw [hTe]
   simp only [zu.jh,zu.code,zu.rs,zSs,reduceIte,zk,zn,zo,zq,d1,e1,qG,al,n1,ld,a2,wi]
  have hs3:=(jo hr).symm.trans hL
  exact ih (pre++[x]) hs3 rfl rfl rfl rfl rfl rfl rfl (by rw [hpre];simp) p2 (hs.add x)
variable (hks:Okl ks skip) (ks2:ks≠2) (hsl:skip.length≤17592186044416)
include hks ks2 hsl
omit ks2 in
theorem aeM {t:TxV} (ht:inT skip t=false) {p:Nat} {b7 b10 b11 b12 b48 b49 b50:Value}:∀ (suf pre:List Int) {T:List Value} {r:St} {S:zx},wP (zD zi O false zu.Ye) T S=r→T.length=142 →
  T.getD 1 zh=.int .i64 many→T.getD 2 zh=iz ks skip→T.getD 7 zh=b7→T.getD 10 zh=b10→T.getD 11 zh=b11→T.getD 12 zh=b12→T.getD 14 zh=.pointer (some ⟨p,0,none⟩)→T.getD 48 zh=b48→T.getD 49 zh=b49→T.getD 50 zh=b50→T.getD 59 zh=iz ks skip→T.getD 60 zh=.int .i64 skip.length→T.getD 61 zh=.int .i64 pre.length→skip=pre++suf→S.get p=some (.cells (fT t) (.own []) 0) →
  ∃ T',r=some (.exit 4,T',S)∧T'.length=142∧T'.getD 1 zh=.int .i64 many∧T'.getD 2 zh=iz ks skip∧T'.getD 7 zh=b7∧T'.getD 10 zh=b10∧T'.getD 11 zh=b11∧T'.getD 12 zh=b12∧T'.getD 48 zh=b48∧T'.getD 49 zh=b49∧T'.getD 50 zh=b50:=by
 intro suf
 induction suf with
 | nil =>
  intro pre T r S hL hT h1 h2 h7 h10 h11 h12 h14 h48 h49 h50 h59 h60 h61 hpre hp
  have hTe:=zu.eta hT
  rw [h1,h2,h7,h10,h11,h12,h14,h48,h49,h50,h59,h60,h61] at hTe
  have hr:zD zi O false zu.Ye T S=zD zi O false zu.Ye T S:=rfl
  have d1:¬ (pre.length:Int) < (skip.length:Int):=by rw [hpre];simp
  conv at hr =>
   rhs
   rw [hTe]
   simp only [zu.Ye,zu.code,zu.rs,zSs,reduceIte,zk,zn,zo,zq,d1]
  exact ⟨_,hL.symm.trans (jr hr (by simp)),rfl,rfl,rfl,rfl,rfl,rfl,rfl,rfl,rfl,rfl⟩
 | cons n suf ih =>
  intro pre T r S hL hT h1 h2 h7 h10 h11 h12 h14 h48 h49 h50 h59 h60 h61 hpre hp
  have hTe:=zu.eta hT
  rw [h1,h2,h7,h10,h11,h12,h14,h48,h49,h50,h59,h60,h61] at hTe
  have hr:zD zi O false zu.Ye T S=zD zi O false zu.Ye T S:=rfl
  have hll:skip.length=pre.length+suf.length+1:=by rw [hpre];simp;omega
  have d1:(pre.length:Int) < (skip.length:Int):=by omega
  have e1:=fun S=>acM (S:=S) hks hpre
  have hne:(n=t.id)=False:=eq_false fun e=>by
   unfold inT at ht
   rw [List.any_eq_false] at ht
   have:=ht n (by rw [hpre];simp)
   simp [e] at this
  have wi:IntKind.i64.wrap ((pre.length:Int)+1)=((pre++[n]).length:Int):=by rw [wrap_i64 (by omega) (by omega)];simp
  conv at hr =>
   rhs
   rw [hTe]
   simp only [zu.Ye,zu.code,zu.rs,zSs,reduceIte,zk,zn,zo,zq,d1,e1,xQ,jJ,kY hp,hne,wi]
  have hs3:=(jo hr).symm.trans hL
  exact ih (pre++[n]) hs3 rfl rfl rfl rfl rfl rfl rfl rfl rfl rfl rfl rfl rfl rfl (by rw [hpre];simp) hp
theorem aeG {k:Nat} {l:List TxV} (hk:Okl k l) (hl:l.length≤16) (hf:∀ t ∈ l,inT skip t=false) {b7 b10 b11:Value}:∀ (suf pre:List TxV) {T:List Value} {r:St} {S:zx},wP (zD zi O false zu.Yt) T S=r→T.length=142 →
  T.getD 1 zh=.int .i64 many→T.getD 2 zh=iz ks skip→T.getD 7 zh=b7→T.getD 10 zh=b10→T.getD 11 zh=b11→T.getD 12 zh=iz 2 (pre.map (·.id))→T.getD 48 zh=tl k l→T.getD 49 zh=.int .i64 l.length→T.getD 50 zh=.int .i64 pre.length→l=pre++suf →
  ∃ T' S',r=some (.exit 2,T',S')∧T'.length=142∧T'.getD 1 zh=.int .i64 many∧T'.getD 2 zh=iz ks skip∧T'.getD 7 zh=b7∧T'.getD 10 zh=b10∧T'.getD 11 zh=b11∧T'.getD 12 zh=iz 2 (l.map (·.id))∧Ext S S':=by
 intro suf
 induction suf with
 | nil =>
  intro pre T r S hL hT h1 h2 h7 h10 h11 h12 h48 h49 h50 hpre
  have hTe:=zu.eta hT
  rw [h1,h2,h7,h10,h11,h12,h48,h49,h50] at hTe
  have hr:zD zi O false zu.Yt T S=zD zi O false zu.Yt T S:=rfl
  have d1:¬ (pre.length:Int) < (l.length:Int):=by rw [hpre];simp
  conv at hr =>
   rhs
   rw [hTe]
   simp only [zu.Yt,zu.code,zu.rs,zSs,reduceIte,zk,zn,zo,zq,d1]
  have e:l=pre:=by rw [hpre,List.append_nil]
  exact ⟨_,_,hL.symm.trans (jr hr (by simp)),rfl,rfl,rfl,rfl,rfl,rfl,by rw [e];rfl,Ext.refl _⟩
 | cons x suf ih =>
  intro pre T r S hL hT h1 h2 h7 h10 h11 h12 h48 h49 h50 hpre
  have hTe:=zu.eta hT
  rw [h1,h2,h7,h10,h11,h12,h48,h49,h50] at hTe
  have hr:zD zi O false zu.Yt T S=zD zi O false zu.Yt T S:=rfl
  have hll:l.length=pre.length+suf.length+1:=by rw [hpre];simp;omega
  have d1:(pre.length:Int) < (l.length:Int):=by omega
  have e1:=fun S=>Wj (S:=S) hk hpre
  obtain ⟨S1,n1,n2,n3,n4⟩:=VH S x
  have al:=aaH S
  have ap:∀ S,qo zi 38 38 (iz 2 (pre.map (·.id))) (iz 2 [x.id]) S=some (iz 2 ((pre++[x]).map (·.id)),S):=fun S=>by
   rw [adR (k:=2) (x:=x.id) Okl.own (by decide) (by simp;omega),List.map_append];rfl
  have lns:∀ S,kP zi 38 (iz ks skip) S=some (.int .i64 skip.length,S):=fun S=>Xj hks
  have wi:IntKind.i64.wrap ((pre.length:Int)+1)=((pre++[x]).length:Int):=by rw [wrap_i64 (by omega) (by omega)];simp
  conv at hr =>
   rhs
   rw [hTe]
   simp only [zu.Yt,zu.code,zu.rs,zSs,reduceIte,zk,zn,zo,zq,d1,e1,qG,al,n1,jJ,kY n2,XW,afa,ap,if_neg ks2,lns]
  generalize hL2:wP (zD zi O false zu.Ye) _ _=r2 at hr
  obtain ⟨T2,rfl,w1,w2,w3,w4,w5,w6,w7,w8,w9,w10⟩:=aeM hks hsl (many:=many) (t:=x) (hf x (by rw [hpre];simp)) (p:=S.next) (b7:=b7) (b10:=b10) (b11:=b11) (b12:=iz 2 ((pre++[x]).map (·.id))) (b48:=tl k l) (b49:=.int .i64 l.length) (b50:=.int .i64 pre.length) skip [] hL2 rfl rfl rfl rfl rfl rfl rfl rfl rfl rfl rfl rfl rfl rfl rfl n2
  have hT2:=zu.eta w1
  rw [w2,w3,w4,w5,w6,w7,w8,w9,w10] at hT2
  conv at hr =>
   rhs
   simp only [zSs,reduceIte,zk,zn,zo,zq]
   rw [hT2]
   simp only [zu.code,zu.rs,zSs,reduceIte,zk,zn,zo,zq,wi]
  have hs3:=(jo hr).symm.trans hL
  obtain ⟨T',S',y1,y2,y3,y4,y5,y6,y7,y8,y9⟩:=ih (pre++[x]) hs3 rfl rfl rfl rfl rfl rfl rfl rfl rfl rfl (by rw [hpre];simp)
  exact ⟨T',S',y1,y2,y3,y4,y5,y6,y7,y8,n3.trans y9⟩
omit ks2 in
theorem aes {t:TxV} {p:Nat} {b11 b17 b91 b92 b93:Value}:∀ (suf pre:List Int) {T:List Value} {r:St} {S:zx},wP (zD zi O false zu.JM) T S=r→T.length=142 →
  T.getD 1 zh=.int .i64 many→T.getD 2 zh=iz ks skip→T.getD 11 zh=b11→T.getD 17 zh=b17→T.getD 19 zh=.pointer (some ⟨p,0,none⟩)→T.getD 20 zh=.bool (pre.any fun n=>decide (n=t.id))→T.getD 91 zh=b91→T.getD 92 zh=b92→T.getD 93 zh=b93→T.getD 97 zh=iz ks skip→T.getD 98 zh=.int .i64 skip.length→T.getD 99 zh=.int .i64 pre.length→skip=pre++suf→S.get p=some (.cells (fT t) (.own []) 0) →
  ∃ T',r=some (.exit 8,T',S)∧T'.length=142∧T'.getD 1 zh=.int .i64 many∧T'.getD 2 zh=iz ks skip∧T'.getD 11 zh=b11∧T'.getD 17 zh=b17∧T'.getD 19 zh=.pointer (some ⟨p,0,none⟩)∧T'.getD 20 zh=.bool (inT skip t)∧T'.getD 91 zh=b91∧T'.getD 92 zh=b92∧T'.getD 93 zh=b93:=by
 intro suf
 induction suf with
 | nil =>
  intro pre T r S hL hT h1 h2 h11 h17 h19 h20 h91 h92 h93 h97 h98 h99 hpre hp
  have hTe:=zu.eta hT
  rw [h1,h2,h11,h17,h19,h20,h91,h92,h93,h97,h98,h99] at hTe
  have hr:zD zi O false zu.JM T S=zD zi O false zu.JM T S:=rfl
  have d1:¬ (pre.length:Int) < (skip.length:Int):=by rw [hpre];simp
  conv at hr =>
   rhs
   rw [hTe]
   simp only [zu.JM,zu.code,zu.rs,zSs,reduceIte,zk,zn,zo,zq,d1]
  have e:(pre.any fun n=>decide (n=t.id))=inT skip t:=by
   rw [hpre,List.append_nil]
   unfold inT
   congr 1
   funext n
   rw [Bool.eq_iff_iff];simp [eq_comm]
  exact ⟨_,hL.symm.trans (jr hr (by simp)),rfl,rfl,rfl,rfl,rfl,rfl,by rw [← e];rfl,rfl,rfl,rfl⟩
 | cons n suf ih =>
  intro pre T r S hL hT h1 h2 h11 h17 h19 h20 h91 h92 h93 h97 h98 h99 hpre hp
  have hTe:=zu.eta hT
  rw [h1,h2,h11,h17,h19,h20,h91,h92,h93,h97,h98,h99] at hTe
  have hr:zD zi O false zu.JM T S=zD zi O false zu.JM T S:=rfl
  have hll:skip.length=pre.length+suf.length+1:=by rw [hpre];simp;omega
  have d1:(pre.length:Int) < (skip.length:Int):=by omega
  have e1:=fun S=>acM (S:=S) hks hpre
  have ea:((pre++[n]).any fun n=>decide (n=t.id))=((pre.any fun n=>decide (n=t.id)) || decide (n=t.id)):=by simp
  have wi:IntKind.i64.wrap ((pre.length:Int)+1)=((pre++[n]).length:Int):=by rw [wrap_i64 (by omega) (by omega)];simp
  cases hb:(pre.any fun n=>decide (n=t.id)) with
  | true =>
   rw [hb] at hTe ea
   conv at hr =>
    rhs
    rw [hTe]
    simp only [zu.JM,zu.code,zu.rs,zSs,reduceIte,zk,zn,zo,zq,d1,e1,xQ,wi]
   have hs3:=(jo hr).symm.trans hL
   exact ih (pre++[n]) hs3 rfl rfl rfl rfl rfl rfl (by rw [ea];rfl) rfl rfl rfl rfl rfl rfl (by rw [hpre];simp) hp
  | false =>
   rw [hb] at hTe ea
   conv at hr =>
    rhs
    rw [hTe]
    simp only [zu.JM,zu.code,zu.rs,zSs,reduceIte,zk,zn,zo,zq,d1,e1,xQ,jJ,kY hp,wi]
   have hs3:=(jo hr).symm.trans hL
   exact ih (pre++[n]) hs3 rfl rfl rfl rfl rfl rfl (by rw [ea,Bool.false_or];rfl) rfl rfl rfl rfl rfl rfl (by rw [hpre];simp) hp
omit hks ks2 hsl in
theorem aek {k:Nat} {l:List TxV} (hk:Okl k l) (hl:l.length≤16) {t:TxV} {out:Bool} (hx:∀ u ∈ l,u.id≠t.id∧(out=false→wZ u t=true)) {p:Nat} {b2 b11 b17 b91 b92 b93:Value}:∀ (suf pre:List TxV) {T:List Value} {r:St} {S:zx},wP (zD zi O false zu.JO) T S=r→T.length=142 →
  T.getD 1 zh=.int .i64 many→T.getD 2 zh=b2→T.getD 11 zh=b11→T.getD 17 zh=b17→T.getD 19 zh=.pointer (some ⟨p,0,none⟩)→T.getD 20 zh=.bool out→T.getD 91 zh=b91→T.getD 92 zh=b92→T.getD 93 zh=b93→T.getD 111 zh=tl k l→T.getD 112 zh=.int .i64 l.length→T.getD 113 zh=.int .i64 pre.length→l=pre++suf→S.get p=some (.cells (fT t) (.own []) 0)→p < S.next →
  ∃ T' S',r=some (.exit 10,T',S')∧T'.length=142∧T'.getD 1 zh=.int .i64 many∧T'.getD 2 zh=b2∧T'.getD 11 zh=b11∧T'.getD 17 zh=b17∧T'.getD 20 zh=.bool out∧T'.getD 91 zh=b91∧T'.getD 92 zh=b92∧T'.getD 93 zh=b93∧Ext S S':=by
 intro suf
 induction suf with
 | nil =>
  intro pre T r S hL hT h1 h2 h11 h17 h19 h20 h91 h92 h93 h111 h112 h113 hpre hp hpl
  have hTe:=zu.eta hT
  rw [h1,h2,h11,h17,h19,h20,h91,h92,h93,h111,h112,h113] at hTe
  have hr:zD zi O false zu.JO T S=zD zi O false zu.JO T S:=rfl
  have d1:¬ (pre.length:Int) < (l.length:Int):=by rw [hpre];simp
  conv at hr =>
   rhs
   rw [hTe]
   simp only [zu.JO,zu.code,zu.rs,zSs,reduceIte,zk,zn,zo,zq,d1]
  exact ⟨_,_,hL.symm.trans (jr hr (by simp)),rfl,rfl,rfl,rfl,rfl,rfl,rfl,rfl,rfl,Ext.refl _⟩
 | cons u suf ih =>
  intro pre T r S hL hT h1 h2 h11 h17 h19 h20 h91 h92 h93 h111 h112 h113 hpre hp hpl
  have hTe:=zu.eta hT
  rw [h1,h2,h11,h17,h19,h20,h91,h92,h93,h111,h112,h113] at hTe
  have hr:zD zi O false zu.JO T S=zD zi O false zu.JO T S:=rfl
  have hll:l.length=pre.length+suf.length+1:=by rw [hpre];simp;omega
  have d1:(pre.length:Int) < (l.length:Int):=by omega
  have e1:=fun S=>Wj (S:=S) hk hpre
  obtain ⟨S1,n1,n2,n3,n4⟩:=VH S u
  have al:=aaH S
  have hp1:S1.get p=some (.cells (fT t) (.own []) 0):=(n3.get p hpl).trans hp
  obtain ⟨q1,q2⟩:=hx u (by rw [hpre];simp)
  have dq:=eq_false q1
  have c1:=fun S=>zF.v u t S
  have wi:IntKind.i64.wrap ((pre.length:Int)+1)=((pre++[u]).length:Int):=by rw [wrap_i64 (by omega) (by omega)];simp
  cases out with
  | true =>
   conv at hr =>
    rhs
    rw [hTe]
    simp only [zu.JO,zu.code,zu.rs,zSs,reduceIte,zk,zn,zo,zq,d1,e1,qG,al,n1,jJ,kY n2,kY hp1,dq,decide_false,Bool.not_true,wi]
   have hs3:=(jo hr).symm.trans hL
   obtain ⟨T',S',y1,y2,y3,y4,y5,y6,y7,y8,y9,y10,y11⟩:=ih (pre++[u]) hs3 rfl rfl rfl rfl rfl rfl rfl rfl rfl rfl rfl rfl rfl (by rw [hpre];simp) hp1 (Nat.lt_of_lt_of_le hpl n3.next)
   exact ⟨T',S',y1,y2,y3,y4,y5,y6,y7,y8,y9,y10,n3.trans y11⟩
  | false =>
   rw [q2 rfl] at c1
   conv at hr =>
    rhs
    rw [hTe]
    simp only [zu.JO,zu.code,zu.rs,zSs,reduceIte,zk,zn,zo,zq,d1,e1,qG,al,n1,jJ,kY n2,kY hp1,dq,decide_false,Bool.not_false,Bool.not_true,Qv n2,Qv hp1,c1,wi]
   have hs3:=(jo hr).symm.trans hL
   obtain ⟨T',S',y1,y2,y3,y4,y5,y6,y7,y8,y9,y10,y11⟩:=ih (pre++[u]) hs3 rfl rfl rfl rfl rfl rfl rfl rfl rfl rfl rfl rfl rfl (by rw [hpre];simp) hp1 (Nat.lt_of_lt_of_le hpl n3.next)
   exact ⟨T',S',y1,y2,y3,y4,y5,y6,y7,y8,y9,y10,n3.trans y11⟩
theorem aeD {k j:Nat} {x l:List TxV} (hk:Okl k l) (hl:l.length≤16) (hj:Okl j x) (hxl:x.length≤16) (hx:∀ t ∈ l,(∀ u ∈ x,u.id≠t.id)∧(inT skip t=false→(∀ u ∈ x,wZ u t=true)∧many≤x.length)):∀ (suf pre:List TxV) {T:List Value} {r:St} {S:zx},wP (zD zi O false zu.YG) T S=r→T.length=142 →
  T.getD 1 zh=.int .i64 many→T.getD 2 zh=iz ks skip→T.getD 11 zh=tl j x→T.getD 91 zh=tl k l→T.getD 92 zh=.int .i64 l.length→T.getD 93 zh=.int .i64 pre.length→l=pre++suf →
  ∃ T' S',r=some (.exit 6,T',S')∧T'.length=142:=by
 intro suf
 induction suf with
 | nil =>
  intro pre T r S hL hT h1 h2 h11 h91 h92 h93 hpre
  have hTe:=zu.eta hT
  rw [h1,h2,h11,h91,h92,h93] at hTe
  have hr:zD zi O false zu.YG T S=zD zi O false zu.YG T S:=rfl
  have d1:¬ (pre.length:Int) < (l.length:Int):=by rw [hpre];simp
  conv at hr =>
   rhs
   rw [hTe]
   simp only [zu.YG,zu.code,zu.rs,zSs,reduceIte,zk,zn,zo,zq,d1]
  exact ⟨_,_,hL.symm.trans (jr hr (by simp)),rfl⟩
 | cons t suf ih =>
  intro pre T r S hL hT h1 h2 h11 h91 h92 h93 hpre
  have hTe:=zu.eta hT
  rw [h1,h2,h11,h91,h92,h93] at hTe
  have hr:zD zi O false zu.YG T S=zD zi O false zu.YG T S:=rfl
  have hll:l.length=pre.length+suf.length+1:=by rw [hpre];simp;omega
  have d1:(pre.length:Int) < (l.length:Int):=by omega
  have e1:=fun S=>Wj (S:=S) hk hpre
  obtain ⟨S1,n1,n2,n3,n4⟩:=VH S t
  have al:=aaH S
  have lns:∀ S,kP zi 38 (iz ks skip) S=some (.int .i64 skip.length,S):=fun S=>Xj hks
  have lnx:=fun S=>xG (S:=S) hj.dem
  have wi:IntKind.i64.wrap ((pre.length:Int)+1)=((pre++[t]).length:Int):=by rw [wrap_i64 (by omega) (by omega)];simp
  obtain ⟨x1,x2⟩:=hx t (by rw [hpre];simp)
  conv at hr =>
   rhs
   rw [hTe]
   simp only [zu.YG,zu.code,zu.rs,zSs,reduceIte,zk,zn,zo,zq,d1,e1,qG,al,n1,if_neg ks2,lns]
  generalize hL4:wP (zD zi O false zu.JM) _ _=r4 at hr
  obtain ⟨T4,rfl,w1,w2,w3,w4,w5,w6,w7,w8,w9,w10⟩:=aes hks hsl (many:=many) (t:=t) (p:=S.next) (b11:=tl j x) (b17:=T.getD 17 zh) (b91:=tl k l) (b92:=.int .i64 l.length) (b93:=.int .i64 pre.length) skip [] hL4 rfl rfl rfl rfl rfl rfl rfl rfl rfl rfl rfl rfl rfl rfl n2
  have hT4:=zu.eta w1
  rw [w2,w3,w4,w5,w6,w7,w8,w9,w10] at hT4
  conv at hr =>
   rhs
   simp only [zSs,reduceIte,zk,zn,zo,zq]
   rw [hT4]
   simp only [zu.code,zu.rs,zSs,reduceIte,zk,zn,zo,zq,lnx]
  generalize hL5:wP (zD zi O false zu.JO) _ _=r5 at hr
  obtain ⟨T5,S5,rfl,v1,v2,v3,v4,v5,v6,v7,v8,v9,v10⟩:=aek hj.dem hxl (many:=many) (t:=t) (out:=inT skip t) (fun u hu=>⟨x1 u hu,fun h=>(x2 h).1 u hu⟩) (p:=S.next) (b2:=iz ks skip) (b11:=tl j x) (b17:=T.getD 17 zh) (b91:=tl k l) (b92:=.int .i64 l.length) (b93:=.int .i64 pre.length) x [] hL5 rfl rfl rfl rfl rfl rfl rfl rfl rfl rfl rfl rfl rfl rfl n2 n4
  have hT5:=zu.eta v1
  rw [v2,v3,v4,v5,v6,v7,v8,v9] at hT5
  cases hI:inT skip t with
  | true =>
   rw [hI] at hT5
   conv at hr =>
    rhs
    simp only [zSs,reduceIte,zk,zn,zo,zq]
    rw [hT5]
    simp only [zu.code,zu.rs,zSs,reduceIte,zk,zn,zo,zq,Bool.not_true,wi]
   have hs3:=(jo hr).symm.trans hL
   exact ih (pre++[t]) hs3 rfl rfl rfl rfl rfl rfl rfl (by rw [hpre];simp)
  | false =>
   rw [hI] at hT5
   have dm:¬ (x.length:Int) < many:=by have:=(x2 hI).2;omega
   conv at hr =>
    rhs
    simp only [zSs,reduceIte,zk,zn,zo,zq]
    rw [hT5]
    simp only [zu.code,zu.rs,zSs,reduceIte,zk,zn,zo,zq,Bool.not_false,lnx,decide_eq_false dm,wi]
   have hs3:=(jo hr).symm.trans hL
   exact ih (pre++[t]) hs3 rfl rfl rfl rfl rfl rfl rfl (by rw [hpre];simp)
theorem run {k:Nat} {l:List TxV} (hk:Okl k l) (k2:k≠2) (hl:l.length * 16≤140737488351232) (S:zx):∃ S',zO zi O 8 [tl k l,.int .i64 many,iz ks skip] S=some (.bool true,S'):=by
 obtain ⟨T,hTe⟩:∃ T,T=(tl k l::.int .i64 many::iz ks skip::zh::zh::zh::zh::zh::zh::zh::zh::zh::zh::zh::zh::zh::zh::zh::zh::zh::zh::zh::zh::zh::zh::zh::zh::zh::zh::zh::zh::zh::zh::zh::zh::zh::zh::zh::zh::zh::zh::zh::zh::zh::zh::zh::zh::zh::zh::zh::zh::zh::zh::zh::zh::zh::zh::zh::zh::zh::zh::zh::zh::zh::zh::zh::zh::zh::zh::zh::zh::zh::zh::zh::zh::zh::zh::zh::zh::zh::zh::zh::zh::zh::zh::zh::zh::zh::zh::zh::zh::zh::zh::zh::zh::zh::zh::zh::zh::zh::zh::zh::zh::zh::zh::zh::zh::zh::zh::zh::zh::zh::zh::zh::zh::zh::zh::zh::zh::zh::zh::zh::zh::zh::zh::zh::zh::zh::zh::zh::zh::zh::zh::zh::zh::zh::zh::zh::zh::zh::zh::zh::[]):=⟨_,rfl⟩
 have hr:zD zi O false zu.code T S=zD zi O false zu.code T S:=rfl
 obtain ⟨S1,a1,f1⟩:=zC.v S
 have ln:=fun S=>xG (S:=S) hk
 by_cases h60:l.length≤60
 case neg =>
  have d1:(60:Int) < (l.length:Int):=by omega
  refine ⟨S1,?_⟩
  conv at hr =>
   rhs
   rw [hTe]
   simp only [zu.code,zu.rs,zSs,reduceIte,zk,zn,zo,zq,if_neg k2,a1,ln,d1]
  rw [hTe] at hr
  exact zu.runs hr (.inr rfl)
 have d1:¬ (60:Int) < (l.length:Int):=by omega
 obtain ⟨S2,a2,p2⟩:=acL S1
 conv at hr =>
  rhs
  rw [hTe]
  simp only [zu.code,zu.rs,zSs,reduceIte,zk,zn,zo,zq,if_neg k2,a1,ln,d1,a2]
 generalize hL:wP (zD zi O false zu.jh) _ _=r at hr
 obtain ⟨T1,S3,pl,rfl,w1,w2,w3,w4,w5,w6⟩:=aen hk k2 h60 (many:=many) (ks:=ks) (skip:=skip) (q:=S1.next) l [] hL rfl rfl rfl rfl rfl rfl rfl rfl p2 List.Pairwise.nil
 have hT1:=zu.eta w1
 rw [w2,w3,w4] at hT1
 obtain ⟨i,i1,i2,a3⟩:=aaW w5
 obtain ⟨j,S4,a4,j1,j2,p4⟩:=aai (many:=many) w5 hks ks2 hsl
 have hpl:=w5.len
 have hxl:=VE pl many skip
 have hrest:=aaP w6 many skip
 have hfree:∀ t ∈ yO pl many skip,inT skip t=false:=fun t ht=>V8 ht
 have hdrop:∀ t ∈ ZO pl ((yO pl many skip).map (·.id)),(∀ u ∈ yO pl many skip,u.id≠t.id)∧(inT skip t=false→(∀ u ∈ yO pl many skip,wZ u t=true)∧many≤(yO pl many skip).length):=fun t ht=>⟨fun u hu=>WH ht hu,fun h=>QK w6 ht h⟩
 have hmany:(yO pl many skip).length≤many.toNat:=by rw [ZV,List.length_take];omega
 generalize yO pl many skip=x at *
 have lnx:=fun S=>xG (S:=S) j1.dem
 conv at hr =>
  rhs
  simp only [zSs,reduceIte,zk,zn,zo,zq]
  rw [hT1]
  simp only [zu.code,zu.rs,zSs,reduceIte,zk,zn,zo,zq,a3,if_neg ks2,a4,XF,lnx]
 generalize hL3:wP (zD zi O false zu.Yt) _ _=r3 at hr
 obtain ⟨T3,S5,rfl,v1,v2,v3,v4,v5,v6,v7,v8⟩:=aeG hks ks2 hsl j1.dem (by omega) hfree (many:=many) (b7:=.pointer (some ⟨S1.next,0,none⟩)) (b10:=tl i pl) (b11:=tl j x) x [] hL3 rfl rfl rfl rfl rfl rfl rfl rfl rfl rfl rfl
 have hT3:=zu.eta v1
 rw [v2,v3,v4,v5,v6,v7] at hT3
 obtain ⟨dv,S6,a5,p6⟩:=adM (p4.ext v8) (Okl.read (l:=x.map (·.id))) (by decide) (by rw [List.length_map];omega)
 obtain ⟨i3,i4,i5,a6⟩:=aaW p6
 have lnr:=fun S=>xG (S:=S) i4.dem
 have lnw:=fun S=>xG (S:=S) i1.dem
 have wa:IntKind.i64.wrap ((x.length:Int)+((ZO pl (x.map (·.id))).length:Int))=(pl.length:Int):=by rw [wrap_i64 (by omega) (by omega)];omega
 have dmx:¬ (if many > 0 then many else 0) < (x.length:Int):=by split <;> omega
 conv at hr =>
  rhs
  simp only [zSs,reduceIte,zk,zn,zo,zq]
  rw [hT3]
  simp only [zu.code,zu.rs,zSs,reduceIte,zk,zn,zo,zq,a5,a6,lnx,lnr,lnw,wa,afu,decide_eq_false dmx]
 generalize hL6:wP (zD zi O false zu.YG) _ _=r6 at hr
 obtain ⟨T6,S7,rfl,u1⟩:=aeD hks ks2 hsl i4.dem (by omega) j1 (by omega) hdrop (ZO pl (x.map (·.id))) [] hL6 rfl rfl rfl rfl rfl rfl rfl rfl
 have hT6:=zu.eta u1
 conv at hr =>
  rhs
  simp only [zSs,reduceIte,zk,zn,zo,zq]
  rw [hT6]
  simp only [zu.code,zu.rs,zSs,reduceIte,zk,zn,zo,zq]
 rw [hTe] at hr
 exact ⟨_,zu.runs hr (.inr rfl)⟩
end
theorem law (x:Args codes) (h:Args.Good codes x):∃ k,(qN zi k 8 (Args.place codes x zx.empty).1 (Args.place codes x zx.empty).2).map (·.1)=some (.bool true):=by
 obtain ⟨a,b,c,u⟩:=x
 obtain ⟨h1,h2,h3,_⟩:=h
 obtain ⟨k,l,p1,p2,p3,p4,p5⟩:=aeg a h1
 obtain ⟨ks,skip,q1,q2,q3,q4,q5⟩:=adC c h3
 obtain ⟨S',e⟩:=run (many:=b) q1 q2 (by omega) p1 p2 p4 zx.empty
 refine QO aeY (S':=S') ?_
 have e2:Args.ZW codes (a,b,c,u)=[tl k l,.int .i64 b,iz ks skip]:=by
  show [kZ false ((Ty.slc 16 tTx).ZW a),_,kZ false ((Ty.slc 8 (.int .i64)).ZW c)]=_
  rw [p3,q3];rfl
 rw [e2]
 exact e
end mempoolPicks
end Go.Proofs.Ytacbgjhmkhjpoaa
namespace Go.Proofs.Ytacbgjhmkhjpoaa.mempoolPicks
open Go.ChangeShapes Go.WideShapes Go.ChangeAt Go.RowKit Go.Abs
theorem own:ownKnob zi.godebug=none:=by kernel_rfl
theorem laidOut:laidOutB zi=true:=by kernel_rfl
theorem mixes:zi.follows .mixedOrders=true:=by kernel_rfl
set_option maxRecDepth 100000 in
theorem lifted (os:Os) (started:os.Started) (H:Type) (enc:TypeId×Value→H) :
  ReturnsInHanded {} Try.checked os 8 .any (Rows.mempoolPicksSpec.pre6 enc zi Try.f8 Rows.mempoolPicksRow.domain false) (Rows.mempoolPicksSpec.post enc zi Try.f8 false true false false):=by
 refine returnsInHanded_of_change_sized (C:=Try.checked) own started (by kernel_rfl) Try.func8
  (ChangeSpec.witness6 (enc:=enc) (C:=Try.checked) false ⟨#[],#[.slice none 0 0,.int .i64 0,.slice none 0 0],[]⟩ 8 (by kernel_rfl) (by kernel_rfl) (by kernel_rfl) (by kernel_rfl)) ?_
 intro W base args ds gs before hval0 hW hcnd hsz0 _
 have hW':=hW
 obtain ⟨p,q,hA0,hV,rfl,hfz,hnd⟩:=hW
 obtain ⟨rfl,rfl⟩:=trodVars_none hV
 have hsz1:(DataW.weightsEach zi (Try.f8.params.toList++Rows.mempoolPicksSpec.plain.varTypes zi) (ds++[])).all (·≤reachBytes)=true:=hsz0
 have hval:∀ (j:Nat) t v,Try.f8.params[j]?=some t→args[j]?=some v→Value.okWide zi W .any base t v:=hval0
 have hA1:DataW.TrodAll enc zi W 0 (fun _=>true) true Try.f8.params.toList args.toList ds p:=hA0
 rw [Try.params8] at hA1 hsz1 hval
 have hA:DataW.TrodAll enc zi W 0 (fun _=>true) true [23,3,38] args.toList ds p:=hA1
 have hsz:(DataW.weightsEach zi [23,3,38] ds).all (·≤reachBytes)=true:=by rw [List.append_nil ds] at hsz1;exact hsz1
 clear hA0 hA1 hval0 hsz0 hsz1
 have r:=hA
 obtain ⟨v0,vs0,d0,ds0,p0,q0,hargs0,rfl,hp0,h0,r0⟩:=trodAll_cons r
 obtain ⟨v1,vs1,d1,ds1,p1,q1,hargs1,rfl,hp1,h1,r1⟩:=trodAll_cons r0
 obtain ⟨v2,vs2,d2,ds2,p2,q2,hargs2,rfl,hp2,h2,r2⟩:=trodAll_cons r1
 obtain ⟨_,rfl,_⟩:=trodAll_nil r2
 refine (V9 mixes coded law hA (fun j t v h1 h2=>hval j t v (by rw [List.getElem?_toArray];exact h1) h2) hsz).mono fun e W' ⟨he,bel⟩=>?_
 subst he
 exact ⟨_,rfl,_,_,_,[],_,[],hW',trodAll_mk1 (shut_bool (by kernel_rfl) _),abv laidOut bel _ _ _ _ (by kernel_rfl) hA,rfl,bel.frame _,fun h=>by cases h⟩
theorem over:Rows.mempoolPicksRow.holds Try.pinned (OpenSpec.ofChange Rows.mempoolPicksSpec) :=
 OpenClaim.holds_of_wide 8 Try.f8 rfl rfl rfl rfl rfl rfl rfl ⟨rfl,rfl,rfl,rfl,rfl⟩ rfl rfl rfl rfl rfl (by kernel_rfl) Try.func8 (by kernel_rfl)
  (of_decide_eq_true (by kernel_rfl)) (by unfold Func.isWrapper;first | (rw [if_pos (by decide +kernel)];kernel_rfl) | (rw [if_neg (by decide +kernel)];exact ⟨rfl,rfl⟩))
  (fun os started H enc _=>lifted os started H enc)
theorem proved:Rows.MempoolPicksSaid:=over
end Go.Proofs.Ytacbgjhmkhjpoaa.mempoolPicks
namespace Go.Proofs.Ytacbgjhmkhjpoaa
theorem mempoolPicks_holds:Rows.MempoolPicksSaid:=mempoolPicks.proved
#print axioms mempoolPicks_holds
end Go.Proofs.Ytacbgjhmkhjpoaa
