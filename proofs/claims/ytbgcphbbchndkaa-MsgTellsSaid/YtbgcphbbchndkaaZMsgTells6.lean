/-
The law MsgTells returns true for every input, and leaves it as it was; no condition. Part 6 of 6 of the texts (put together by a program: own names are short, what isn't needed is left out).
-/
import Derived.Test.YtbgcphbbchndkaaZMsgTells5
import Derived.Test.YtbgcphbbchndkaaRows
import Derived.WalkKit
import Derived.ProofKit
import Derived.OpenShut
import Derived.ShutString
import Derived.ChangeOld
import Derived.Below
import Derived.SizedLaws
import Derived.Carry
set_option linter.unusedVariables false
set_option linter.unusedSimpArgs false
set_option maxRecDepth 100000
namespace Go.Proofs.Ytbgcphbbchndkaa
open Go.Abs
abbrev tl (k : Nat) (l : List TxV) : Value := vs fT 2 k l
theorem VQ (t : TxV) : (fT t).length = 2 := rfl
theorem ahe (t : TxV) : (fT t).all (·.oneCell') = true := rfl
theorem xX {k : Nat} {l : List TxV} {S : zk} (h : Okl k l) : Zw Try.prog 26 (tl k l) S = some (.int .i64 l.length, S) := ac9 xI h
theorem WH {k : Nat} {l pre suf : List TxV} {t : TxV} {S : zk} (h : Okl k l) (hl : l = pre ++ t :: suf) : jP Try.prog 26 (tl k l) (.int .i64 pre.length) S = some (EP [.int .i64 t.id, .int .i64 t.fee], S) := by
 have h1 : (pre.length : Int) < (l.length : Int) := by rw [hl]; simp; omega
 rw [afJ xI xZ VQ h (by omega) h1, abS hl]; rfl
theorem ad5 {k : Nat} {l : List TxV} {S : zk} {lo hi : Option Value} {i j : Int} (h : Okl k l) (hlo : xA 0 lo = some i) (hhi : xA l.length hi = some j) (h0 : 0 ≤ i) (hij : i ≤ j) (hj : j ≤ l.length) : Zl Try.prog 26 (tl k l) lo hi S = some (tl (if k = 2 then 1 else k) ((l.drop i.toNat).take (j.toNat - i.toNat)), S) := aeb xI xZ VQ h hlo hhi h0 hij hj
theorem VT {α : Type} (g : α → Int) (v : Value) (l : List α) (k : Int) : aaP (l.map fun t => (g t, v)) k = if k ∈ l.map g then some v else none := by
 induction l with
 | nil => rfl
 | cons t l ih =>
  simp only [List.map_cons, aaP, ih, List.mem_cons]
  by_cases h : g t = k
  ·
   simp [h]
  ·
   have h' : ¬ k = g t := fun e => h e.symm
   simp [h, h']
abbrev kI : Int → Value := fun n => .int .i64 n
def unl (l : List TxV) : Bool := decide ((l.map TxV.id).Nodup) && decide (l.length ≤ 3)
theorem ji.round {k : Nat} {l : List TxV} (hk : Okl k l) (hl : l.length ≤ 8796093022208) {q : Nat} : ∀ (suf pre : List TxV) {T : List Value} {S : zk} {r : St}, qo (zG Try.prog O false ji.jT) T S = r → T.length = 24 →
  T.getD 0 undef = tl k l → T.getD 3 undef = .map (some q) → T.getD 7 undef = tl k l → T.getD 8 undef = .int .i64 l.length → T.getD 9 undef = .int .i64 pre.length → l = pre ++ suf →
  MapAt kI S q (pre.map fun t => (t.id, .bool true)) → q < S.next → (pre.map TxV.id).Nodup →
  ∃ e T' S', r = some (e, T', S') ∧ if (l.map TxV.id).Nodup then e = .exit 0 ∧ T'.length = 24 ∧ T'.getD 0 undef = tl k l else e = .ret ∧ T'.getD 2 undef = .bool false := by
 intro suf
 induction suf with
 | nil =>
  intro pre T S r hL hT h0 h3 h7 h8 h9 hpre hm hq hn
  have hTe := ji.eta hT
  rw [h0, h3, h7, h8, h9] at hTe
  have hr : zG Try.prog O false ji.jT T S = zG Try.prog O false ji.jT T S := rfl
  have d1 : ¬ (pre.length : Int) < (l.length : Int) := by rw [hpre]; simp
  conv at hr =>
   rhs
   rw [hTe]
   simp only [ji.jT, ji.code, ji.rs, zSs, reduceIte, Nat.reduceEqDiff, Int.reduceEq, Int.reduceLT, Int.reduceLE, d1]
  refine ⟨_, _, _, hL.symm.trans (wO hr (by simp)), ?_⟩
  rw [if_pos (by rw [hpre, List.append_nil]; exact hn)]
  exact ⟨rfl, rfl, rfl⟩
 | cons t suf ih =>
  intro pre T S r hL hT h0 h3 h7 h8 h9 hpre hm hq hn
  have hTe := ji.eta hT
  rw [h0, h3, h7, h8, h9] at hTe
  have hr : zG Try.prog O false ji.jT T S = zG Try.prog O false ji.jT T S := rfl
  have d1 : (pre.length : Int) < (l.length : Int) := by rw [hpre]; simp; omega
  have e1 := fun S => WH (S := S) hk hpre
  have wi : IntKind.i64.wrap ((pre.length : Int) + 1) = ((pre ++ [t]).length : Int) := by rw [wrap_i64 (by omega) (by omega)]; simp
  obtain ⟨S2, p1, p2, p3, p4⟩ := aeB S t
  have hm2 : MapAt kI S2 q (pre.map fun t => (t.id, .bool true)) := hm.keep (p3.get q hq)
  have m1 : vJ Try.prog false 100 (.map (some q)) (.int .i64 t.id) false S2 = _ := af0 abN hm2 WI aev ahf rfl t.id
  rw [VT] at m1
  by_cases ht : t.id ∈ pre.map TxV.id
  ·
   rw [if_pos ht] at m1
   conv at hr =>
    rhs
    rw [hTe]
    simp only [ji.jT, ji.code, ji.rs, zSs, reduceIte, Nat.reduceEqDiff, Int.reduceEq, Int.reduceLT, Int.reduceLE, d1, e1, qy, XR, p1, qm, YD p2, m1, Option.getD_some]
   refine ⟨_, _, _, hL.symm.trans (wO hr (by simp)), ?_⟩
   rw [if_neg (by rw [hpre]; simp only [List.map_append, List.map_cons, List.nodup_append]; intro h; exact h.2.2 _ ht _ (by simp) rfl)]
   exact ⟨rfl, rfl⟩
  ·
   rw [if_neg ht] at m1
   obtain ⟨S3, u1, u2, u3, u4, u5⟩ := agi abN hm2 WI aev t.id (.bool true)
   have u1' : yF Try.prog 100 (.map (some q)) (.int .i64 t.id) (.bool true) S2 = some (undef, S3) := u1
   rw [VY (by rw [VT, if_neg ht])] at u2
   conv at hr =>
    rhs
    rw [hTe]
    simp only [ji.jT, ji.code, ji.rs, zSs, reduceIte, Nat.reduceEqDiff, Int.reduceEq, Int.reduceLT, Int.reduceLE, d1, e1, qy, XR, p1, qm, YD p2, m1, Option.getD_none, u1', wi]
   refine ih (pre ++ [t]) ((yN hr).symm.trans hL) rfl rfl rfl rfl rfl rfl (by simp [hpre]) (by simpa using u2) (by omega) ?_
   simp only [List.map_append, List.map_cons, List.map_nil, List.nodup_append]
   exact ⟨hn, by simp, fun a ha b hb => by simp at hb; subst hb; exact fun h => ht (h ▸ ha)⟩
theorem ji.v {k : Nat} {l : List TxV} (hk : Okl k l) (k2 : k ≠ 2) (hl : l.length ≤ 8796093022208) (S : zk) : jf Try.prog O ji.id [tl k l] S = some (.bool (unl l), S) := by
 obtain ⟨T, hTe⟩ : ∃ T, T = (tl k l :: undef :: undef :: undef :: undef :: undef :: undef :: undef :: undef :: undef :: undef :: undef :: undef :: undef :: undef :: undef :: undef :: undef :: undef :: undef :: undef :: undef :: undef :: undef :: []) := ⟨_, rfl⟩
 have hr : zG Try.prog O false ji.code T zk.empty = zG Try.prog O false ji.code T zk.empty := rfl
 obtain ⟨S1, m1, m2, m3, m4, m5⟩ := af4 (P := Try.prog) (t := 100) kI zk.empty
 conv at hr =>
  rhs
  rw [hTe]
  simp only [ji.code, ji.rs, zSs, reduceIte, Nat.reduceEqDiff, Int.reduceEq, Int.reduceLT, Int.reduceLE, m1, if_neg k2, xX hk]
 generalize hL : qo (zG Try.prog O false ji.jT) _ _ = r at hr
 obtain ⟨e, T', S', rfl, g⟩ := ji.round hk hl l [] hL rfl rfl rfl rfl rfl rfl rfl m2 (by omega) List.nodup_nil
 unfold unl
 by_cases h : (l.map TxV.id).Nodup
 ·
  rw [if_pos h] at g
  obtain ⟨rfl, g2, g3⟩ := g
  have hTe' := ji.eta g2
  rw [g3] at hTe'
  have d3 : decide ((l.length : Int) ≤ 3) = decide (l.length ≤ 3) := decide_eq_decide.mpr (by omega)
  conv at hr =>
   rhs
   rw [hTe']
   simp only [ji.code, ji.rs, zSs, reduceIte, Nat.reduceEqDiff, Int.reduceEq, Int.reduceLT, Int.reduceLE, if_neg k2, xX hk, d3]
  rw [hTe] at hr
  rw [decide_eq_true h, Bool.true_and]
  exact ji.runs hr (.inr rfl) (all1 (Zh hk.le fun _ _ => rfl)) rfl
 ·
  rw [if_neg h] at g
  obtain ⟨rfl, g2⟩ := g
  conv at hr =>
   rhs
   simp only [zSs, reduceIte, Nat.reduceEqDiff, Int.reduceEq, Int.reduceLT, Int.reduceLE]
  rw [hTe] at hr
  rw [decide_eq_false h, Bool.false_and]
  have hrun := ji.runs (S := S) hr (.inr rfl) (all1 (Zh hk.le fun _ _ => rfl)) (by rw [g2]; rfl)
  rw [g2] at hrun
  exact hrun
def WM (l : List TxV) : Bool := unl l && l.all qG
def flat (l : List TxV) : List Int := l.flatMap fun t => [t.id, t.fee]
def afy (l : List TxV) : List UInt8 := encs ((l.length : Int) :: flat l)
def afg (l : List TxV) : Value := if WM l then .tuple #[by_ 2 (afy l), .int .i64 0] else .tuple #[.slice none 0 0, .int .i64 61]
theorem Yk (a b : List TxV) : flat (a ++ b) = flat a ++ flat b := by simp [flat]
theorem Kq (l : List TxV) : (flat l).length = 2 * l.length := by
 induction l with
 | nil => rfl
 | cons t l ih => rw [show flat (t :: l) = [t.id, t.fee] ++ flat l from rfl, List.length_append, ih]; simp; omega
theorem aal {l : List TxV} (h : ∀ t ∈ l, qG t = true) : ∀ n ∈ flat l, 0 ≤ n ∧ n ≤ 1000000 := by
 intro n hn
 simp only [flat, List.mem_flatMap] at hn
 obtain ⟨t, h1, h2⟩ := hn
 obtain ⟨b1, b2, b3, b4⟩ := ZW.mp (h t h1)
 simp at h2
 omega
theorem YT (l : List TxV) : afy l = encs [(l.length : Int)] ++ encs (flat l) := Zi [(l.length : Int)] (flat l)
theorem Ju {l : List TxV} (h : ∀ t ∈ l, qG t = true) : (encs (flat l)).length ≤ 20 * l.length := by
 have h1 := vG (l := flat l) (fun n hn => by have := aal h n hn; omega)
 rw [Kq] at h1
 omega
theorem jy.round {k : Nat} {l : List TxV} (hk : Okl k l) (hl : l.length ≤ 3) {A : List UInt8} (hA : A.length ≤ 100) : ∀ (suf pre : List TxV) {T : List Value} {S : zk} {r : St}, qo (zG Try.prog O false jy.jT) T S = r → T.length = 39 →
  T.getD 4 undef = by_ 2 (A ++ encs (flat pre)) → T.getD 20 undef = tl k l → T.getD 21 undef = .int .i64 l.length → T.getD 22 undef = .int .i64 pre.length → l = pre ++ suf → (∀ t ∈ pre, qG t = true) →
  ∃ e T' S', r = some (e, T', S') ∧ if l.all qG = true then e = .exit 0 ∧ T'.length = 39 ∧ T'.getD 4 undef = by_ 2 (A ++ encs (flat l)) else e = .ret ∧ T'.getD 2 undef = .slice none 0 0 ∧ T'.getD 3 undef = .int .i64 61 := by
 intro suf
 induction suf with
 | nil =>
  intro pre T S r hL hT h4 h20 h21 h22 hpre hp
  have hTe := jy.eta hT
  rw [h4, h20, h21, h22] at hTe
  have hr : zG Try.prog O false jy.jT T S = zG Try.prog O false jy.jT T S := rfl
  have d1 : ¬ (pre.length : Int) < (l.length : Int) := by rw [hpre]; simp
  conv at hr =>
   rhs
   rw [hTe]
   simp only [jy.jT, jy.code, jy.rs, zSs, reduceIte, Nat.reduceEqDiff, Int.reduceEq, Int.reduceLT, Int.reduceLE, d1]
  refine ⟨_, _, _, hL.symm.trans (wO hr (by simp)), ?_⟩
  rw [List.append_nil] at hpre
  rw [hpre, if_pos (List.all_eq_true.mpr hp)]
  exact ⟨rfl, rfl, rfl⟩
 | cons t suf ih =>
  intro pre T S r hL hT h4 h20 h21 h22 hpre hp
  have hTe := jy.eta hT
  rw [h4, h20, h21, h22] at hTe
  have hr : zG Try.prog O false jy.jT T S = zG Try.prog O false jy.jT T S := rfl
  have d1 : (pre.length : Int) < (l.length : Int) := by rw [hpre]; simp; omega
  have e1 := fun S => WH (S := S) hk hpre
  have wi : IntKind.i64.wrap ((pre.length : Int) + 1) = ((pre ++ [t]).length : Int) := by rw [wrap_i64 (by omega) (by omega)]; simp
  obtain ⟨S2, p1, p2, p3, p4⟩ := aeB S t
  have c1 : ∀ S, jf Try.prog O 33 [.agg [Value.int .i64 t.id, .int .i64 t.fee].toArray] S = some (afd t, S) := fun S => wK.v t S
  unfold afd at c1
  by_cases ht : qG t = true
  ·
   rw [if_pos ht] at c1
   have hb := QF ht
   have hf := Ju hp
   have hpl : pre.length ≤ 3 := by omega
   have ap : ∀ S, wU Try.prog 23 23 (by_ 2 (A ++ encs (flat pre))) (by_ 1 (txB t)) S = some (by_ 2 (A ++ encs (flat (pre ++ [t]))), S) := fun S => by
    rw [qw Okl.own (by decide) Okl.read (by simp; omega), Yk, Zi, ← List.append_assoc]; rfl
   conv at hr =>
    rhs
    rw [hTe]
    simp only [jy.jT, jy.code, jy.rs, zSs, reduceIte, Nat.reduceEqDiff, Int.reduceEq, Int.reduceLT, Int.reduceLE, d1, e1, qy, XR, p1, ad2 p2, c1, ap, wi]
   exact ih (pre ++ [t]) ((yN hr).symm.trans hL) rfl rfl rfl rfl rfl (by simp [hpre]) (fun x hx => by rcases List.mem_append.1 hx with h | h; { exact hp x h }; { simp at h; rw [h]; exact ht })
  ·
   rw [if_neg ht] at c1
   conv at hr =>
    rhs
    rw [hTe]
    simp only [jy.jT, jy.code, jy.rs, zSs, reduceIte, Nat.reduceEqDiff, Int.reduceEq, Int.reduceLT, Int.reduceLE, d1, e1, qy, XR, p1, ad2 p2, c1]
   refine ⟨_, _, _, hL.symm.trans (wO hr (by simp)), ?_⟩
   rw [if_neg (by rw [hpre]; simp [ht])]
   exact ⟨rfl, rfl, rfl⟩
theorem jy.v {k : Nat} {l : List TxV} (hk : Okl k l) (k2 : k ≠ 2) (hl : l.length ≤ 8796093022208) (S : zk) : jf Try.prog O jy.id [tl k l] S = some (afg l, S) := by
 obtain ⟨T, hTe⟩ : ∃ T, T = (tl k l :: undef :: undef :: undef :: undef :: undef :: undef :: undef :: undef :: undef :: undef :: undef :: undef :: undef :: undef :: undef :: undef :: undef :: undef :: undef :: undef :: undef :: undef :: undef :: undef :: undef :: undef :: undef :: undef :: undef :: undef :: undef :: undef :: undef :: undef :: undef :: undef :: undef :: undef :: []) := ⟨_, rfl⟩
 have hr : zG Try.prog O false jy.code T zk.empty = zG Try.prog O false jy.code T zk.empty := rfl
 have c1 := fun S => ji.v hk k2 hl S
 have cl : jB 16 (tl k l) = true := Zh hk.le fun _ _ => rfl
 unfold afg WM
 by_cases hu : unl l = true
 ·
  have h3 : l.length ≤ 3 := by unfold unl at hu; simp at hu; exact hu.2
  have c2 := fun S => zZ.v (l := [(l.length : Int)]) Okl.read (by decide) (by simp; omega) S
  have hA : (encs [(l.length : Int)]).length ≤ 100 := by
   have := vG (l := [(l.length : Int)]) (by simp; omega)
   simp at this; omega
  conv at hr =>
   rhs
   rw [hTe]
   simp only [jy.code, jy.rs, zSs, reduceIte, Nat.reduceEqDiff, Int.reduceEq, Int.reduceLT, Int.reduceLE, if_neg k2, c1, hu, xX hk, YU, ag3, c2, vg (l := [(l.length : Int)]) (by simp) (by intro n hn; simp at hn; omega) (by simp)]
  generalize hL : qo (zG Try.prog O false jy.jT) _ _ = r at hr
  obtain ⟨e, T', S', rfl, g⟩ := jy.round hk h3 hA l [] hL rfl (by rw [show flat [] = [] from rfl, show encs [] = [] from rfl, List.append_nil]; rfl) rfl rfl rfl rfl (fun t h => by cases h)
  by_cases ha : l.all qG = true
  ·
   rw [if_pos ha] at g
   obtain ⟨rfl, g2, g3⟩ := g
   have hTe' := jy.eta g2
   rw [g3] at hTe'
   conv at hr =>
    rhs
    rw [hTe']
    simp only [jy.code, jy.rs, zSs, reduceIte, Nat.reduceEqDiff, Int.reduceEq, Int.reduceLT, Int.reduceLE]
   rw [hTe] at hr
   rw [if_pos (by rw [hu, ha]; rfl), YT]
   exact jy.runs hr (.inr rfl) (by simp only [List.getD_cons_succ, List.getD_cons_zero, wP, wE, jQ, jY, wC]) rfl (all1 cl) (qL (all2 (xY (k := 2) (Nat.le_refl 2)) rfl))
  ·
   rw [if_neg ha] at g
   obtain ⟨rfl, g2, g3⟩ := g
   conv at hr =>
    rhs
    simp only [zSs, reduceIte, Nat.reduceEqDiff, Int.reduceEq, Int.reduceLT, Int.reduceLE]
   rw [hTe] at hr
   rw [if_neg (by rw [hu, Bool.true_and]; exact ha)]
   have hrun := jy.runs (S := S) hr (.inr rfl) (by rw [g2]; rfl) (by rw [g3]; rfl) (all1 cl) (by rw [g2, g3]; rfl)
   rw [g2, g3] at hrun
   exact hrun
 ·
  rw [Bool.not_eq_true] at hu
  conv at hr =>
   rhs
   rw [hTe]
   simp only [jy.code, jy.rs, zSs, reduceIte, Nat.reduceEqDiff, Int.reduceEq, Int.reduceLT, Int.reduceLE, if_neg k2, c1, hu]
  rw [hTe] at hr
  rw [if_neg (by rw [hu]; simp)]
  exact jy.runs hr (.inr rfl) rfl rfl (all1 cl) rfl
def good (l : List TxV) : Prop := (l.map TxV.id).Nodup ∧ ∀ t ∈ l, qG t = true
theorem JD {l : List TxV} : WM l = true ↔ good l ∧ l.length ≤ 3 := by
 unfold WM unl good
 simp [and_assoc, and_comm, and_left_comm]
theorem zn.inner {k : Nat} {l : List TxV} (hk : Okl k l) (hl : l.length ≤ 3) {t : TxV} {q : Nat} :
  ∀ (suf pre : List TxV) {T : List Value} {S : zk} {r : St}, qo (zG Try.prog O false zn.jT) T S = r → T.length = 51 → T.getD 6 undef = .pointer (some ⟨q, 0, none⟩) → T.getD 27 undef = tl k l → T.getD 28 undef = .int .i64 l.length → T.getD 29 undef = .int .i64 pre.length → l = pre ++ suf →
  S.get q = some (.cells (fT t) (.own []) 0) → q < S.next →
  ∃ e T' S', r = some (e, T', S') ∧ Ext S S' ∧ if t.id ∈ suf.map TxV.id then e = .ret ∧ T'.getD 2 undef = .slice none 0 0 ∧ T'.getD 3 undef = .int .i64 61 else e = .exit 2 ∧ T'.length = 51 ∧
   T'.getD 0 undef = T.getD 0 undef ∧ T'.getD 4 undef = T.getD 4 undef ∧ T'.getD 6 undef = T.getD 6 undef ∧ T'.getD 15 undef = T.getD 15 undef ∧ T'.getD 16 undef = T.getD 16 undef ∧ T'.getD 17 undef = T.getD 17 undef := by
 intro suf
 induction suf with
 | nil =>
  intro pre T S r hL hT h6 h27 h28 h29 hpre hg hq
  have hTe := zn.eta hT
  rw [h27, h28, h29] at hTe
  have hr : zG Try.prog O false zn.jT T S = zG Try.prog O false zn.jT T S := rfl
  have d1 : ¬ (pre.length : Int) < (l.length : Int) := by rw [hpre]; simp
  conv at hr =>
   rhs
   rw [hTe]
   simp only [zn.jT, zn.code, zn.rs, zSs, reduceIte, Nat.reduceEqDiff, Int.reduceEq, Int.reduceLT, Int.reduceLE, d1]
  refine ⟨_, _, _, hL.symm.trans (wO hr (by simp)), Ext.refl _, ?_⟩
  rw [if_neg (by simp)]
  exact ⟨rfl, rfl, rfl, rfl, rfl, rfl, rfl, rfl⟩
 | cons u suf ih =>
  intro pre T S r hL hT h6 h27 h28 h29 hpre hg hq
  have hTe := zn.eta hT
  rw [h6, h27, h28, h29] at hTe
  have hr : zG Try.prog O false zn.jT T S = zG Try.prog O false zn.jT T S := rfl
  have d1 : (pre.length : Int) < (l.length : Int) := by rw [hpre]; simp; omega
  have e1 := fun S => WH (S := S) hk hpre
  have wi : IntKind.i64.wrap ((pre.length : Int) + 1) = ((pre ++ [u]).length : Int) := by rw [wrap_i64 (by omega) (by omega)]; simp
  obtain ⟨S2, p1, p2, p3, p4⟩ := aeB S u
  have g2 : S2.get q = some (.cells (fT t) (.own []) 0) := (p3.get q hq).trans hg
  by_cases ht : u.id = t.id
  ·
   conv at hr =>
    rhs
    rw [hTe]
    simp only [zn.jT, zn.code, zn.rs, zSs, reduceIte, Nat.reduceEqDiff, Int.reduceEq, Int.reduceLT, Int.reduceLE, d1, e1, qy, XR, p1, qm, YD p2, YD g2, decide_eq_true ht]
   refine ⟨_, _, _, hL.symm.trans (wO hr (by simp)), p3, ?_⟩
   rw [if_pos (by simp [ht])]
   exact ⟨rfl, rfl, rfl⟩
  ·
   conv at hr =>
    rhs
    rw [hTe]
    simp only [zn.jT, zn.code, zn.rs, zSs, reduceIte, Nat.reduceEqDiff, Int.reduceEq, Int.reduceLT, Int.reduceLE, d1, e1, qy, XR, p1, qm, YD p2, YD g2, decide_eq_false ht, wi]
   obtain ⟨e, T', S', i1, i2, i3⟩ := ih (pre ++ [u]) ((yN hr).symm.trans hL) rfl rfl rfl rfl rfl (by simp [hpre]) g2 (by omega)
   refine ⟨e, T', S', i1, p3.trans i2, ?_⟩
   have hm : t.id ∈ (u :: suf).map TxV.id ↔ t.id ∈ suf.map TxV.id := by
    simp only [List.map_cons, List.mem_cons]
    exact ⟨fun h => h.resolve_left (fun e => ht e.symm), .inr⟩
   by_cases hc : t.id ∈ suf.map TxV.id
   ·
    rw [if_pos hc] at i3
    rw [if_pos (hm.mpr hc)]
    exact i3
   ·
    rw [if_neg hc] at i3
    rw [if_neg (fun h => hc (hm.mp h))]
    obtain ⟨j1, j2, j3, j4, j5, j6, j7, j8⟩ := i3
    exact ⟨j1, j2, j3, j4, j5.trans h6.symm, j6, j7, j8⟩
theorem zn.round {k : Nat} {l : List TxV} (hk : Okl k l) (k2 : k ≠ 2) (hl : l.length ≤ 3) {n : Int} : ∀ (suf pre : List TxV) {T : List Value} {S : zk} {r : St}, qo (zG Try.prog O false zn.Zb) T S = r → T.length = 51 →
  T.getD 0 undef = tl k l → T.getD 4 undef = iz 2 (n :: flat pre) → T.getD 15 undef = tl k l → T.getD 16 undef = .int .i64 l.length → T.getD 17 undef = .int .i64 pre.length → l = pre ++ suf → good pre →
  ∃ e T' S', r = some (e, T', S') ∧ ((good l ∧ e = .exit 0 ∧ T'.length = 51 ∧ T'.getD 4 undef = iz 2 (n :: flat l)) ∨ (¬ good l ∧ e = .ret ∧ T'.getD 2 undef = .slice none 0 0 ∧ T'.getD 3 undef = .int .i64 61)) := by
 intro suf
 induction suf with
 | nil =>
  intro pre T S r hL hT h0 h4 h15 h16 h17 hpre hp
  have hTe := zn.eta hT
  rw [h0, h4, h15, h16, h17] at hTe
  have hr : zG Try.prog O false zn.Zb T S = zG Try.prog O false zn.Zb T S := rfl
  have d1 : ¬ (pre.length : Int) < (l.length : Int) := by rw [hpre]; simp
  conv at hr =>
   rhs
   rw [hTe]
   simp only [zn.Zb, zn.code, zn.rs, zSs, reduceIte, Nat.reduceEqDiff, Int.reduceEq, Int.reduceLT, Int.reduceLE, d1]
  refine ⟨_, _, _, hL.symm.trans (wO hr (by simp)), .inl ?_⟩
  rw [List.append_nil] at hpre
  rw [hpre]
  exact ⟨hp, rfl, rfl, rfl⟩
 | cons t suf ih =>
  intro pre T S r hL hT h0 h4 h15 h16 h17 hpre hp
  have hTe := zn.eta hT
  rw [h0, h4, h15, h16, h17] at hTe
  have hr : zG Try.prog O false zn.Zb T S = zG Try.prog O false zn.Zb T S := rfl
  have d1 : (pre.length : Int) < (l.length : Int) := by rw [hpre]; simp; omega
  have e1 := fun S => WH (S := S) hk hpre
  have wi : IntKind.i64.wrap ((pre.length : Int) + 1) = ((pre ++ [t]).length : Int) := by rw [wrap_i64 (by omega) (by omega)]; simp
  obtain ⟨S2, p1, p2, p3, p4⟩ := aeB S t
  have c1 : ∀ S, jf Try.prog O 46 [.agg [Value.int .i64 t.id, .int .i64 t.fee].toArray] S = some (.bool (qG t), S) := fun S => zX.v t S
  by_cases ht : qG t = true
  ·
   have sl : ∀ S, Zl Try.prog 26 (tl k l) none (some (.int .i64 pre.length)) S = some (tl k pre, S) := fun S => by
    rw [ad5 hk rfl rfl (by omega) (by omega) (by omega), if_neg k2, hpre]
    simp
   have hkp : Okl k pre := ⟨hk.le, fun h => by have := hk.nil h; rw [hpre] at this; simp at this⟩
   conv at hr =>
    rhs
    rw [hTe]
    simp only [zn.Zb, zn.code, zn.rs, zSs, reduceIte, Nat.reduceEqDiff, Int.reduceEq, Int.reduceLT, Int.reduceLE, d1, e1, qy, XR, p1, ad2 p2, c1, ht, if_neg k2, sl, xX hkp]
   generalize hL2 : qo (zG Try.prog O false zn.jT) _ _ = r2 at hr
   obtain ⟨e, T', S', rfl, g1, g⟩ := zn.inner (t := t) hkp (by rw [hpre] at hl; simp at hl; omega) pre [] hL2 rfl rfl rfl rfl rfl rfl p2 p4
   by_cases hin : t.id ∈ pre.map TxV.id
   ·
    rw [if_pos hin] at g
    obtain ⟨rfl, g2, g3⟩ := g
    conv at hr =>
     rhs
     simp only [zSs, reduceIte, Nat.reduceEqDiff, Int.reduceEq, Int.reduceLT, Int.reduceLE]
    refine ⟨_, _, _, hL.symm.trans (wO hr (by simp)), .inr ⟨?_, rfl, g2, g3⟩⟩
    intro hgd
    have := hgd.1
    rw [hpre] at this
    simp only [List.map_append, List.map_cons, List.nodup_append] at this
    exact this.2.2 _ hin _ (by simp) rfl
   ·
    rw [if_neg hin] at g
    obtain ⟨rfl, g2, f0, f4, f6, f15, f16, f17⟩ := g
    have hTe' := zn.eta g2
    rw [f0, f4, f6, f15, f16, f17] at hTe'
    simp only [List.getD_cons_succ, List.getD_cons_zero] at hTe'
    have g3 : S'.get S.next = some (.cells (fT t) (.own []) 0) := (g1.get _ p4).trans p2
    have ap : ∀ S, wU Try.prog 57 57 (iz 2 (n :: flat pre)) (iz 2 [t.id, t.fee]) S = some (iz 2 (n :: flat (pre ++ [t])), S) := fun S => by
     rw [ado Okl.own (by decide) Okl.own (by simp [Kq]; omega), Yk]; rfl
    conv at hr =>
     rhs
     rw [hTe']
     simp only [zn.code, zn.rs, zSs, reduceIte, Nat.reduceEqDiff, Int.reduceEq, Int.reduceLT, Int.reduceLE, qm, xM, YD g3, agY g3, Wn, VK, ap, wi]
    refine ih (pre ++ [t]) ((yN hr).symm.trans hL) rfl rfl rfl rfl rfl rfl (by simp [hpre]) ?_
    refine ⟨?_, fun x hx => by rcases List.mem_append.1 hx with h | h; { exact hp.2 x h }; { simp at h; rw [h]; exact ht }⟩
    simp only [List.map_append, List.map_cons, List.map_nil, List.nodup_append]
    exact ⟨hp.1, by simp, fun a ha b hb => by simp at hb; subst hb; exact fun h => hin (h ▸ ha)⟩
  ·
   have ht' := ht
   rw [Bool.not_eq_true] at ht'
   conv at hr =>
    rhs
    rw [hTe]
    simp only [zn.Zb, zn.code, zn.rs, zSs, reduceIte, Nat.reduceEqDiff, Int.reduceEq, Int.reduceLT, Int.reduceLE, d1, e1, qy, XR, p1, ad2 p2, c1, ht']
   refine ⟨_, _, _, hL.symm.trans (wO hr (by simp)), .inr ⟨?_, rfl, rfl, rfl⟩⟩
   intro hgd
   exact ht (hgd.2 t (by rw [hpre]; simp))
theorem zn.v {k : Nat} {l : List TxV} (hk : Okl k l) (k2 : k ≠ 2) (hl : l.length ≤ 8796093022208) (S : zk) : jf Try.prog O zn.id [tl k l] S = some (afg l, S) := by
 obtain ⟨T, hTe⟩ : ∃ T, T = (tl k l :: undef :: undef :: undef :: undef :: undef :: undef :: undef :: undef :: undef :: undef :: undef :: undef :: undef :: undef :: undef :: undef :: undef :: undef :: undef :: undef :: undef :: undef :: undef :: undef :: undef :: undef :: undef :: undef :: undef :: undef :: undef :: undef :: undef :: undef :: undef :: undef :: undef :: undef :: undef :: undef :: undef :: undef :: undef :: undef :: undef :: undef :: undef :: undef :: undef :: undef :: []) := ⟨_, rfl⟩
 have hr : zG Try.prog O false zn.code T zk.empty = zG Try.prog O false zn.code T zk.empty := rfl
 have cl : jB 16 (tl k l) = true := Zh hk.le fun _ _ => rfl
 unfold afg
 by_cases h3 : l.length ≤ 3
 ·
  have d3 : ¬ (3 : Int) < (l.length : Int) := by omega
  conv at hr =>
   rhs
   rw [hTe]
   simp only [zn.code, zn.rs, zSs, reduceIte, Nat.reduceEqDiff, Int.reduceEq, Int.reduceLT, Int.reduceLE, if_neg k2, xX hk, d3, YU, ag3]
  generalize hL : qo (zG Try.prog O false zn.Zb) _ _ = r at hr
  obtain ⟨e, T', S', rfl, ⟨g0, rfl, g2, g3⟩ | ⟨g0, rfl, g2, g3⟩⟩ := zn.round hk k2 h3 l [] hL rfl rfl rfl rfl rfl rfl rfl ⟨List.nodup_nil, fun t h => by cases h⟩
  ·
   have hTe' := zn.eta g2
   rw [g3] at hTe'
   have few := aal g0.2
   have c2 := fun S => zu.v (l := (l.length : Int) :: flat l) Okl.read (by decide) (by intro n hn; rcases List.mem_cons.1 hn with rfl | hn; { omega }; { have := few n hn; omega }) S
   have n2 := vg (k := 2) (l := (l.length : Int) :: flat l) (by simp [Kq]; omega) (by intro n hn; rcases List.mem_cons.1 hn with rfl | hn; { omega }; { have := few n hn; omega }) (by simp)
   conv at hr =>
    rhs
    rw [hTe']
    simp only [zn.code, zn.rs, zSs, reduceIte, Nat.reduceEqDiff, Int.reduceEq, Int.reduceLT, Int.reduceLE, c2, n2]
   rw [hTe] at hr
   rw [if_pos (JD.mpr ⟨g0, h3⟩)]
   exact zn.runs hr (.inr rfl) (by simp only [List.getD_cons_succ, List.getD_cons_zero, wP, wE, jQ, jY, wC]) rfl (all1 cl) (qL (all2 (xY (k := 2) (Nat.le_refl 2)) rfl))
  ·
   conv at hr =>
    rhs
    simp only [zSs, reduceIte, Nat.reduceEqDiff, Int.reduceEq, Int.reduceLT, Int.reduceLE]
   rw [hTe] at hr
   rw [if_neg (fun h => g0 (JD.mp h).1)]
   have hrun := zn.runs (S := S) hr (.inr rfl) (by rw [g2]; rfl) (by rw [g3]; rfl) (all1 cl) (by rw [g2, g3]; rfl)
   rw [g2, g3] at hrun
   exact hrun
 ·
  have d3 : (3 : Int) < (l.length : Int) := by omega
  conv at hr =>
   rhs
   rw [hTe]
   simp only [zn.code, zn.rs, zSs, reduceIte, Nat.reduceEqDiff, Int.reduceEq, Int.reduceLT, Int.reduceLE, if_neg k2, xX hk, d3]
  rw [hTe] at hr
  rw [if_neg (fun h => h3 (JD.mp h).2)]
  exact zn.runs hr (.inr rfl) rfl rfl (all1 cl) rfl
end Go.Proofs.Ytbgcphbbchndkaa
namespace Go.Abs
variable {P : Program} {t : TypeId} {xs ys : Array Value} {d : Nat}
theorem Wh (P : Program) : yH P program = some P := rfl
def FEq (P : Program) (d : Nat) (xs ys : Array Value) : List Field → List Bool → Prop
 | [], [] => True
 | f :: fs, b :: bs => (f.name ≠ "_" ∧ ∃ v w, yH P (part f.type xs f.offset) = some v ∧ yH P (part f.type ys f.offset) = some w ∧ yH P (Op.equalIn d f.type v w) = some b) ∧ FEq P d xs ys fs bs
 | _, _ => False
theorem abB {fs : List Field} (hu : P.underlying t = some (.struct fs.toArray)) (hs : P.stoodInHeld t = false) {bs : List Bool} (h : FEq P d xs ys fs bs) : yH P (Op.equalIn (d + 1) t (.agg xs) (.agg ys)) = some (bs.all id) := by
 rw [Op.equalIn]
 simp only [yI, kJ hu, Option.bind_some, Wh, hs, Bool.false_eq_true, if_false, List.forIn_toArray]
 clear hu hs
 induction fs generalizing bs with
 | nil =>
  cases bs with
  | nil => rfl
  | cons b bs => exact absurd h id
 | cons f fs ih =>
  cases bs with
  | nil => exact absurd h id
  | cons b bs =>
   obtain ⟨⟨h1, v, w, h2, h3, h4⟩, h5⟩ := h
   rw [List.forIn_cons]
   simp only [yI, if_pos h1, h2, h3, h4, Option.bind_some]
   cases b with
   | true =>
    simp only [Bool.not_true, Bool.false_eq_true, if_false, wu, Option.bind_some, List.all_cons, id, Bool.true_and]
    exact ih h5
   | false =>
    simp only [Bool.not_false, if_true, wu, Option.bind_some, List.all_cons, id, Bool.false_and]
theorem aaW {fs : List Field} {S : zk} (hu : P.underlying t = some (.struct fs.toArray)) (hs : P.stoodInHeld t = false) (hg : P.eqGuardType P.depth t = false) {bs : List Bool} (h : FEq P 9999 xs ys fs bs)
  (gx : ground (.agg xs) = true) (gy : ground (.agg ys) = true) : jS P .eql t (.agg xs) (.agg ys) S = some (.bool (bs.all id), S) ∧ jS P .neq t (.agg xs) (.agg ys) S = some (.bool (!bs.all id), S) := by
 rw [aae, aae]
 have e : yH P (Op.equal t (.agg xs) (.agg ys)) = some (bs.all id) := abB hu hs h
 have g : yH P (eqGuard .eql t (.tmp 0) (.tmp 0) (.agg xs) (.agg ys)) = some () := by
  unfold eqGuard
  simp only [Bool.not_true, Bool.false_eq_true, if_false, yI, Wh, Option.bind_some, hg, Bool.not_false, if_true]
  rfl
 have g' : yH P (eqGuard .neq t (.tmp 0) (.tmp 0) (.agg xs) (.agg ys)) = some () := by
  unfold eqGuard
  simp only [Bool.not_true, Bool.false_eq_true, if_false, yI, Wh, Option.bind_some, hg, Bool.not_false, if_true]
  rfl
 have ha : [Value.agg xs, .agg ys].all ground = true := by simp [gx, gy]
 constructor
 ·
  unfold Ze qW
  simp only [hu]
  show yB P [Value.agg xs, .agg ys] _ S = _
  refine wF ha ?_ rfl
  simp only [yI, g, Option.bind_some]
  unfold binOp
  simp only [yI, e, Option.bind_some, wu]
 ·
  unfold Ze qW
  simp only [hu]
  show yB P [Value.agg xs, .agg ys] _ S = _
  refine wF ha ?_ rfl
  simp only [yI, g', Option.bind_some]
  unfold binOp
  simp only [yI, e, Option.bind_some, wu]
end Go.Abs
namespace Go.Proofs.Ytbgcphbbchndkaa
open Go.Abs
theorem TxV.ext_iff' {t u : TxV} : t = u ↔ t.id = u.id ∧ t.fee = u.fee := by cases t; cases u; simp
theorem adB (t u : TxV) (S : zk) : jS Try.prog .eql 25 (tv t) (tv u) S = some (.bool (decide (t = u)), S) ∧ jS Try.prog .neq 25 (tv t) (tv u) S = some (.bool (!decide (t = u)), S) := by
 have h := aaW (S := S) (xs := #[Value.int .i64 t.id, .int .i64 t.fee]) (ys := #[Value.int .i64 u.id, .int .i64 u.fee]) (bs := [t.id == u.id, t.fee == u.fee]) ad1 (by kernel_rfl) (by kernel_rfl)
  ⟨⟨by decide, .int .i64 t.id, .int .i64 u.id, by kernel_rfl, by kernel_rfl, by kernel_rfl⟩, ⟨by decide, .int .i64 t.fee, .int .i64 u.fee, by kernel_rfl, by kernel_rfl, by kernel_rfl⟩, trivial⟩ rfl rfl
 have e : [t.id == u.id, t.fee == u.fee].all id = decide (t = u) := by
  rw [Bool.eq_iff_iff]
  simp [TxV.ext_iff']
 rw [e] at h
 exact h
theorem zx.round {k j : Nat} {a b : List TxV} (hk : Okl k a) (hj : Okl j b) (k2 : k ≠ 2) (j2 : j ≠ 2) (hab : a.length = b.length) (hlen : a.length ≤ 17592186044416) {S : zk} : ∀ (sa sb pa pb : List TxV) {T : List Value} {r : St}, qo (zG Try.prog O false zx.jT) T S = r → T.length = 26 →
  T.getD 0 undef = tl k a → T.getD 1 undef = tl j b → T.getD 12 undef = .int .i64 a.length → T.getD 13 undef = .int .i64 pa.length → a = pa ++ sa → b = pb ++ sb → pa.length = pb.length → pa = pb →
  ∃ e T', r = some (e, T', S) ∧ if a = b then e = .exit 0 ∧ T'.length = 26 else e = .ret ∧ T'.getD 4 undef = .bool false := by
 intro sa
 induction sa with
 | nil =>
  intro sb pa pb T r hL hT h0 h1 h12 h13 ha hb hp hpp
  have hTe := zx.eta hT
  rw [h0, h1, h12, h13] at hTe
  have hr : zG Try.prog O false zx.jT T S = zG Try.prog O false zx.jT T S := rfl
  have hd : ¬ (pa.length : Int) < (a.length : Int) := by rw [ha]; simp
  conv at hr =>
   rhs
   rw [hTe]
   simp only [zx.jT, zx.code, zx.rs, zSs, reduceIte, Nat.reduceEqDiff, Int.reduceEq, Int.reduceLT, Int.reduceLE, hd]
  have hsb : sb = [] := by rw [ha, hb] at hab; simp [hp] at hab; exact hab
  refine ⟨_, _, hL.symm.trans (wO hr (by simp)), ?_⟩
  rw [if_pos (by rw [ha, hb, hsb, hpp])]
  exact ⟨rfl, rfl⟩
 | cons x sa ih =>
  intro sb pa pb T r hL hT h0 h1 h12 h13 ha hb hp hpp
  have hTe := zx.eta hT
  rw [h0, h1, h12, h13] at hTe
  have hr : zG Try.prog O false zx.jT T S = zG Try.prog O false zx.jT T S := rfl
  have hd : (pa.length : Int) < (a.length : Int) := by rw [ha]; simp; omega
  cases sb with
  | nil => rw [ha, hb] at hab; simp [hp] at hab
  | cons y sb =>
   have e1 := fun S => WH (S := S) hk ha
   have e2 : ∀ S, jP Try.prog 26 (tl j b) (.int .i64 pa.length) S = some (EP [.int .i64 y.id, .int .i64 y.fee], S) := fun S => by rw [hp]; exact WH hj hb
   have wi : IntKind.i64.wrap ((pa.length : Int) + 1) = ((pa ++ [x]).length : Int) := by rw [wrap_i64 (by omega) (by omega)]; simp
   have q : ∀ S, jS Try.prog .neq 25 (.agg [Value.int .i64 x.id, .int .i64 x.fee].toArray) (.agg [Value.int .i64 y.id, .int .i64 y.fee].toArray) S = some (.bool (!decide (x = y)), S) := fun S => (adB x y S).2
   by_cases hxy : x = y
   ·
    conv at hr =>
     rhs
     rw [hTe]
     simp only [zx.jT, zx.code, zx.rs, zSs, reduceIte, Nat.reduceEqDiff, Int.reduceEq, Int.reduceLT, Int.reduceLE, hd, if_neg k2, if_neg j2, e1, e2, qy, q, decide_eq_true hxy, wi]
    subst hxy
    exact ih sb (pa ++ [x]) (pb ++ [x]) ((yN hr).symm.trans hL) rfl rfl rfl rfl rfl (by simp [ha]) (by simp [hb]) (by simp [hp]) (by rw [hpp])
   ·
    conv at hr =>
     rhs
     rw [hTe]
     simp only [zx.jT, zx.code, zx.rs, zSs, reduceIte, Nat.reduceEqDiff, Int.reduceEq, Int.reduceLT, Int.reduceLE, hd, if_neg k2, if_neg j2, e1, e2, qy, q, decide_eq_false hxy]
    refine ⟨_, _, hL.symm.trans (wO hr (by simp)), ?_⟩
    rw [if_neg (by rw [ha, hb, hpp]; simp [hxy])]
    exact ⟨rfl, rfl⟩
theorem zx.v {k j : Nat} {a b : List TxV} (hk : Okl k a) (hj : Okl j b) (k2 : k ≠ 2) (j2 : j ≠ 2) (hlen : a.length ≤ 17592186044416) (S : zk) : jf Try.prog O zx.id [tl k a, tl j b] S = some (.bool (decide (a = b)), S) := by
 obtain ⟨T, hTe⟩ : ∃ T, T = (tl k a :: tl j b :: undef :: undef :: undef :: undef :: undef :: undef :: undef :: undef :: undef :: undef :: undef :: undef :: undef :: undef :: undef :: undef :: undef :: undef :: undef :: undef :: undef :: undef :: undef :: undef :: []) := ⟨_, rfl⟩
 have hr : zG Try.prog O false zx.code T S = zG Try.prog O false zx.code T S := rfl
 by_cases hab : a.length = b.length
 ·
  have d1 : ¬ (a.length : Int) ≠ (b.length : Int) := by omega
  conv at hr =>
   rhs
   rw [hTe]
   simp only [zx.code, zx.rs, zSs, reduceIte, Nat.reduceEqDiff, Int.reduceEq, Int.reduceLT, Int.reduceLE, if_neg k2, if_neg j2, xX hk, xX hj, hab]
  rw [← hab] at hr
  generalize hL : qo (zG Try.prog O false zx.jT) _ _ = r at hr
  obtain ⟨e, T', rfl, g⟩ := zx.round hk hj k2 j2 hab hlen a b [] [] hL rfl rfl rfl rfl rfl rfl rfl rfl rfl
  by_cases h : a = b
  ·
   rw [if_pos h] at g
   obtain ⟨rfl, g2⟩ := g
   have hTe' := zx.eta g2
   conv at hr =>
    rhs
    rw [hTe']
    simp only [zx.code, zx.rs, zSs, reduceIte, Nat.reduceEqDiff, Int.reduceEq, Int.reduceLT, Int.reduceLE]
   rw [hTe] at hr
   rw [decide_eq_true h]
   exact zx.runs hr (.inr rfl)
  ·
   rw [if_neg h] at g
   obtain ⟨rfl, g2⟩ := g
   conv at hr =>
    rhs
    simp only [zSs, reduceIte, Nat.reduceEqDiff, Int.reduceEq, Int.reduceLT, Int.reduceLE]
   rw [hTe] at hr
   have hrun := zx.runs hr (.inr rfl)
   rw [g2] at hrun
   rw [decide_eq_false h]
   exact hrun
 ·
  have d1 : ¬ (a.length : Int) = (b.length : Int) := by omega
  conv at hr =>
   rhs
   rw [hTe]
   simp only [zx.code, zx.rs, zSs, reduceIte, Nat.reduceEqDiff, Int.reduceEq, Int.reduceLT, Int.reduceLE, if_neg k2, if_neg j2, xX hk, xX hj, d1]
  rw [hTe] at hr
  rw [decide_eq_false (fun h : a = b => hab (by rw [h]))]
  exact zx.runs hr (.inr rfl)
theorem slices_Equal.round {k j : Nat} {a b : List TxV} (hk : Okl k a) (hj : Okl j b) (k2 : k ≠ 2) (j2 : j ≠ 2) (hab : a.length = b.length) (hlen : a.length ≤ 17592186044416) {S : zk} : ∀ (sa sb pa pb : List TxV) {T : List Value} {r : St}, qo (zG Try.prog O false slices_Equal.jT) T S = r → T.length = 26 →
  T.getD 0 undef = tl k a → T.getD 1 undef = tl j b → T.getD 12 undef = .int .i64 a.length → T.getD 13 undef = .int .i64 pa.length → a = pa ++ sa → b = pb ++ sb → pa.length = pb.length → pa = pb →
  ∃ e T', r = some (e, T', S) ∧ if a = b then e = .exit 0 ∧ T'.length = 26 else e = .ret ∧ T'.getD 4 undef = .bool false := by
 intro sa
 induction sa with
 | nil =>
  intro sb pa pb T r hL hT h0 h1 h12 h13 ha hb hp hpp
  have hTe := slices_Equal.eta hT
  rw [h0, h1, h12, h13] at hTe
  have hr : zG Try.prog O false slices_Equal.jT T S = zG Try.prog O false slices_Equal.jT T S := rfl
  have hd : ¬ (pa.length : Int) < (a.length : Int) := by rw [ha]; simp
  conv at hr =>
   rhs
   rw [hTe]
   simp only [slices_Equal.jT, slices_Equal.code, slices_Equal.rs, zSs, reduceIte, Nat.reduceEqDiff, Int.reduceEq, Int.reduceLT, Int.reduceLE, hd]
  have hsb : sb = [] := by rw [ha, hb] at hab; simp [hp] at hab; exact hab
  refine ⟨_, _, hL.symm.trans (wO hr (by simp)), ?_⟩
  rw [if_pos (by rw [ha, hb, hsb, hpp])]
  exact ⟨rfl, rfl⟩
 | cons x sa ih =>
  intro sb pa pb T r hL hT h0 h1 h12 h13 ha hb hp hpp
  have hTe := slices_Equal.eta hT
  rw [h0, h1, h12, h13] at hTe
  have hr : zG Try.prog O false slices_Equal.jT T S = zG Try.prog O false slices_Equal.jT T S := rfl
  have hd : (pa.length : Int) < (a.length : Int) := by rw [ha]; simp; omega
  cases sb with
  | nil => rw [ha, hb] at hab; simp [hp] at hab
  | cons y sb =>
   have e1 := fun S => WH (S := S) hk ha
   have e2 : ∀ S, jP Try.prog 26 (tl j b) (.int .i64 pa.length) S = some (EP [.int .i64 y.id, .int .i64 y.fee], S) := fun S => by rw [hp]; exact WH hj hb
   have wi : IntKind.i64.wrap ((pa.length : Int) + 1) = ((pa ++ [x]).length : Int) := by rw [wrap_i64 (by omega) (by omega)]; simp
   have q : ∀ S, jS Try.prog .neq 25 (.agg [Value.int .i64 x.id, .int .i64 x.fee].toArray) (.agg [Value.int .i64 y.id, .int .i64 y.fee].toArray) S = some (.bool (!decide (x = y)), S) := fun S => (adB x y S).2
   by_cases hxy : x = y
   ·
    conv at hr =>
     rhs
     rw [hTe]
     simp only [slices_Equal.jT, slices_Equal.code, slices_Equal.rs, zSs, reduceIte, Nat.reduceEqDiff, Int.reduceEq, Int.reduceLT, Int.reduceLE, hd, if_neg k2, if_neg j2, e1, e2, qy, q, decide_eq_true hxy, wi]
    subst hxy
    exact ih sb (pa ++ [x]) (pb ++ [x]) ((yN hr).symm.trans hL) rfl rfl rfl rfl rfl (by simp [ha]) (by simp [hb]) (by simp [hp]) (by rw [hpp])
   ·
    conv at hr =>
     rhs
     rw [hTe]
     simp only [slices_Equal.jT, slices_Equal.code, slices_Equal.rs, zSs, reduceIte, Nat.reduceEqDiff, Int.reduceEq, Int.reduceLT, Int.reduceLE, hd, if_neg k2, if_neg j2, e1, e2, qy, q, decide_eq_false hxy]
    refine ⟨_, _, hL.symm.trans (wO hr (by simp)), ?_⟩
    rw [if_neg (by rw [ha, hb, hpp]; simp [hxy])]
    exact ⟨rfl, rfl⟩
theorem slices_Equal.v {k j : Nat} {a b : List TxV} (hk : Okl k a) (hj : Okl j b) (k2 : k ≠ 2) (j2 : j ≠ 2) (hlen : a.length ≤ 17592186044416) (S : zk) : jf Try.prog O slices_Equal.id [tl k a, tl j b] S = some (.bool (decide (a = b)), S) := by
 obtain ⟨T, hTe⟩ : ∃ T, T = (tl k a :: tl j b :: undef :: undef :: undef :: undef :: undef :: undef :: undef :: undef :: undef :: undef :: undef :: undef :: undef :: undef :: undef :: undef :: undef :: undef :: undef :: undef :: undef :: undef :: undef :: undef :: []) := ⟨_, rfl⟩
 have hr : zG Try.prog O false slices_Equal.code T S = zG Try.prog O false slices_Equal.code T S := rfl
 by_cases hab : a.length = b.length
 ·
  have d1 : ¬ (a.length : Int) ≠ (b.length : Int) := by omega
  conv at hr =>
   rhs
   rw [hTe]
   simp only [slices_Equal.code, slices_Equal.rs, zSs, reduceIte, Nat.reduceEqDiff, Int.reduceEq, Int.reduceLT, Int.reduceLE, if_neg k2, if_neg j2, xX hk, xX hj, hab]
  rw [← hab] at hr
  generalize hL : qo (zG Try.prog O false slices_Equal.jT) _ _ = r at hr
  obtain ⟨e, T', rfl, g⟩ := slices_Equal.round hk hj k2 j2 hab hlen a b [] [] hL rfl rfl rfl rfl rfl rfl rfl rfl rfl
  by_cases h : a = b
  ·
   rw [if_pos h] at g
   obtain ⟨rfl, g2⟩ := g
   have hTe' := slices_Equal.eta g2
   conv at hr =>
    rhs
    rw [hTe']
    simp only [slices_Equal.code, slices_Equal.rs, zSs, reduceIte, Nat.reduceEqDiff, Int.reduceEq, Int.reduceLT, Int.reduceLE]
   rw [hTe] at hr
   rw [decide_eq_true h]
   exact slices_Equal.runs hr (.inr rfl)
  ·
   rw [if_neg h] at g
   obtain ⟨rfl, g2⟩ := g
   conv at hr =>
    rhs
    simp only [zSs, reduceIte, Nat.reduceEqDiff, Int.reduceEq, Int.reduceLT, Int.reduceLE]
   rw [hTe] at hr
   have hrun := slices_Equal.runs hr (.inr rfl)
   rw [g2] at hrun
   rw [decide_eq_false h]
   exact hrun
 ·
  have d1 : ¬ (a.length : Int) = (b.length : Int) := by omega
  conv at hr =>
   rhs
   rw [hTe]
   simp only [slices_Equal.code, slices_Equal.rs, zSs, reduceIte, Nat.reduceEqDiff, Int.reduceEq, Int.reduceLT, Int.reduceLE, if_neg k2, if_neg j2, xX hk, xX hj, d1]
  rw [hTe] at hr
  rw [decide_eq_false (fun h : a = b => hab (by rw [h]))]
  exact slices_Equal.runs hr (.inr rfl)
end Go.Proofs.Ytbgcphbbchndkaa
namespace Go.Proofs.Ytbgcphbbchndkaa
open Go.Abs
theorem QL {l : List TxV} (h : WM l = true) : (afy l).length ≤ 100 := by
 obtain ⟨h1, h2⟩ := JD.mp h
 have h3 := Ju h1.2
 have h4 := vG (l := [(l.length : Int)]) (by simp; omega)
 rw [YT, List.length_append]
 simp at h4
 omega
theorem ahn (x : (Ty.slc 16 tTx).Val) (hg : (Ty.slc 16 tTx).Good x) : ∃ k l, Okl k l ∧ k ≠ 2 ∧ (Ty.slc 16 tTx).J3 x = [tl k l] ∧ l.length * 16 ≤ 140737488351232 ∧ ∀ t ∈ l, t.Ok :=
 agU (b := 16) fT TxV.Ok ahA VQ x hg
theorem agr {k : Nat} {l : List TxV} {S : zk} (h : Okl k l) (hl : l.length ≤ 8796093022208) : wU Try.prog 26 26 (tl 2 []) (tl k l) S = some (tl 2 l, S) := by
 rw [YH xI xZ aed rfl aeF (by omega) xI VQ ahe Okl.own (by decide) h (by simp; omega) (by simp; omega)]; rfl
theorem tl0 (S : zk) : jJ Try.prog 26 0 [] S = some (tl 2 [], S) := by rw [QU]; rfl
end Go.Proofs.Ytbgcphbbchndkaa
namespace Go.Proofs.Ytbgcphbbchndkaa
open Go.Abs
structure xW where
 slot : Int
 miner : Int
 variant : Int
 parent : Int
 k : Nat
 txs : List TxV
def fBk (b : xW) : List Value := [.int .i64 b.slot, .int .i64 b.miner, .int .i64 b.variant, .int .i64 b.parent, tl b.k b.txs]
abbrev bv (b : xW) : Value := .agg [Value.int .i64 b.slot, .int .i64 b.miner, .int .i64 b.variant, .int .i64 b.parent, tl b.k b.txs].toArray
structure xW.Ok (b : xW) : Prop where
 okl : Okl b.k b.txs
 ne : b.k ≠ 2
 len : b.txs.length * 16 ≤ 140737488351232
 par : b.parent < 9223372036854775808
abbrev tBk : Ty := .pair (.int .i64) (.pair (.int .i64) (.pair (.int .i64) (.pair (.int .i64) (.pair (.slc 16 tTx) .unit))))
def headB (b : xW) : Bool := btw b.slot 1 4095 && btw b.miner 0 6 && btw b.variant 0 255 && (decide (b.parent = 0) || (qE b.parent && decide (b.parent / 65536 < b.slot)))
def jL (b : xW) : Bool := headB b && WM b.txs
theorem Zf {b : xW} : headB b = true ↔ (1 ≤ b.slot ∧ b.slot ≤ 4095) ∧ (0 ≤ b.miner ∧ b.miner ≤ 6) ∧ (0 ≤ b.variant ∧ b.variant ≤ 255) ∧ (b.parent = 0 ∨ (qE b.parent = true ∧ b.parent / 65536 < b.slot)) := by
 simp [headB, WX, and_assoc]
theorem wV {b : xW} {d : Nat} (h : b.k ≤ 2) : jB (d + 6) (bv b) = true := by
 have h1 : jB (d + 5) (tl b.k b.txs) = true := Zh (d := d + 1) h fun _ _ => rfl
 refine XQ ?_
 simp only [List.all_cons, List.all_nil, h1, Bool.and_true]
 rfl
abbrev adN (b : xW) : zk := zk.empty.push (.cells (fBk b) (.own []) 0)
theorem Zx (b : xW) : vV (bv b) zk.empty = some (.pointer (some ⟨0, 0, none⟩), adN b) := rfl
theorem yx (b : xW) : (adN b).get 0 = some (.cells (fBk b) (.own []) 0) := rfl
theorem XV {S : zk} {q : Nat} {b : xW} (h : S.get q = some (.cells (fBk b) (.own []) 0)) : zV Try.prog false 3 (.pointer (some ⟨q, 0 + 0, none⟩)) S = some (.int .i64 b.slot, S) := yO (t := 3) (o := 0 + 0) h vO rfl
theorem Xq {S : zk} {q : Nat} {b : xW} (h : S.get q = some (.cells (fBk b) (.own []) 0)) : zV Try.prog false 3 (.pointer (some ⟨q, 0 + 1, none⟩)) S = some (.int .i64 b.miner, S) := yO (t := 3) (o := 0 + 1) h vO rfl
theorem Xp {S : zk} {q : Nat} {b : xW} (h : S.get q = some (.cells (fBk b) (.own []) 0)) : zV Try.prog false 3 (.pointer (some ⟨q, 0 + 2, none⟩)) S = some (.int .i64 b.variant, S) := yO (t := 3) (o := 0 + 2) h vO rfl
theorem Xd {S : zk} {q : Nat} {b : xW} (h : S.get q = some (.cells (fBk b) (.own []) 0)) : zV Try.prog false 3 (.pointer (some ⟨q, 0 + 3, none⟩)) S = some (.int .i64 b.parent, S) := yO (t := 3) (o := 0 + 3) h vO rfl
theorem KR {S : zk} {q : Nat} {b : xW} (h : S.get q = some (.cells (fBk b) (.own []) 0)) (hk : b.k ≠ 2) : zV Try.prog false 26 (.pointer (some ⟨q, 0 + 4, none⟩)) S = some (tl b.k b.txs, S) := by
 rw [aaj (o := 0 + 4) (v := tl b.k b.txs) h aa7 rfl (fun l h => by unfold tl vs sv at h; split at h <;> cases h), aaw, if_neg hk]
theorem ahs {S : zk} {q : Nat} {b : xW} (h : S.get q = some (.cells (fBk b) (.own []) 0)) (hk : b.k ≠ 2) : zV Try.prog false 28 (.pointer (some ⟨q, 0, none⟩)) S = some (bv b, S) := by
 rw [KW h, kQ, kQ, kQ, kQ, VA, if_neg hk]
theorem jc.v {b : xW} (hb : b.Ok) (S : zk) : jf Try.prog O jc.id [bv b] S = some (.bool (jL b), S) := by
 obtain ⟨T, hTe⟩ : ∃ T, T = (bv b :: undef :: undef :: undef :: undef :: undef :: undef :: undef :: undef :: undef :: undef :: undef :: undef :: undef :: undef :: undef :: undef :: undef :: undef :: undef :: undef :: undef :: undef :: undef :: undef :: undef :: undef :: undef :: undef :: undef :: undef :: undef :: undef :: undef :: undef :: undef :: undef :: undef :: undef :: undef :: undef :: undef :: undef :: undef :: undef :: undef :: []) := ⟨_, rfl⟩
 have hr : zG Try.prog O false jc.code T zk.empty = zG Try.prog O false jc.code T zk.empty := rfl
 have l0 := XV (yx b)
 have l1 := Xq (yx b)
 have l2 := Xp (yx b)
 have l3 := Xd (yx b)
 have l4 := KR (yx b) hb.ne
 have c1 := fun S => jy.v hb.okl hb.ne (by have := hb.len; omega) S
 unfold afg at c1
 cases h1 : btw b.slot 1 4095
 ·
  have e : jL b = false := by simp [jL, headB, h1]
  rw [e]
  conv at hr =>
   rhs
   rw [hTe]
   simp only [jc.code, jc.rs, zSs, reduceIte, Nat.reduceEqDiff, Int.reduceEq, Int.reduceLT, Int.reduceLE, Zx, jq, jv, jr, jo, jl, l0, l1, l2, l3, l4, if_neg hb.ne, jw.v, h1]
  rw [hTe] at hr
  exact jc.runs hr (.inr rfl) (all1 (wV hb.okl.le)) rfl
 ·
  cases h2 : btw b.miner 0 6
  ·
   have e : jL b = false := by simp [jL, headB, h1, h2]
   rw [e]
   conv at hr =>
    rhs
    rw [hTe]
    simp only [jc.code, jc.rs, zSs, reduceIte, Nat.reduceEqDiff, Int.reduceEq, Int.reduceLT, Int.reduceLE, Zx, jq, jv, jr, jo, jl, l0, l1, l2, l3, l4, if_neg hb.ne, jw.v, h1, h2]
   rw [hTe] at hr
   exact jc.runs hr (.inr rfl) (all1 (wV hb.okl.le)) rfl
  ·
   cases h3 : btw b.variant 0 255
   ·
    have e : jL b = false := by simp [jL, headB, h1, h2, h3]
    rw [e]
    conv at hr =>
     rhs
     rw [hTe]
     simp only [jc.code, jc.rs, zSs, reduceIte, Nat.reduceEqDiff, Int.reduceEq, Int.reduceLT, Int.reduceLE, Zx, jq, jv, jr, jo, jl, l0, l1, l2, l3, l4, if_neg hb.ne, jw.v, h1, h2, h3]
    rw [hTe] at hr
    exact jc.runs hr (.inr rfl) (all1 (wV hb.okl.le)) rfl
   ·
    by_cases h4 : b.parent = 0
    ·
     by_cases h7 : WM b.txs = true
     ·
      rw [if_pos h7] at c1
      have e : jL b = true := by simp [jL, headB, h1, h2, h3, h4, h7]
      rw [e]
      conv at hr =>
       rhs
       rw [hTe]
       simp only [jc.code, jc.rs, zSs, reduceIte, Nat.reduceEqDiff, Int.reduceEq, Int.reduceLT, Int.reduceLE, Zx, jq, jv, jr, jo, jl, l0, l1, l2, l3, l4, if_neg hb.ne, jw.v, h1, h2, h3, decide_eq_true h4, c1]
      rw [hTe] at hr
      exact jc.runs hr (.inr rfl) (all1 (wV hb.okl.le)) rfl
     ·
      rw [if_neg h7] at c1
      have e : jL b = false := by simp [jL, h7]
      rw [e]
      conv at hr =>
       rhs
       rw [hTe]
       simp only [jc.code, jc.rs, zSs, reduceIte, Nat.reduceEqDiff, Int.reduceEq, Int.reduceLT, Int.reduceLE, Zx, jq, jv, jr, jo, jl, l0, l1, l2, l3, l4, if_neg hb.ne, jw.v, h1, h2, h3, decide_eq_true h4, c1]
      rw [hTe] at hr
      exact jc.runs hr (.inr rfl) (all1 (wV hb.okl.le)) rfl
    ·
     cases h5 : qE b.parent
     ·
      have e : jL b = false := by simp [jL, headB, h1, h2, h3, h4, h5]
      rw [e]
      conv at hr =>
       rhs
       rw [hTe]
       simp only [jc.code, jc.rs, zSs, reduceIte, Nat.reduceEqDiff, Int.reduceEq, Int.reduceLT, Int.reduceLE, Zx, jq, jv, jr, jo, jl, l0, l1, l2, l3, l4, if_neg hb.ne, jw.v, h1, h2, h3, decide_eq_false h4, jK.v, h5]
      rw [hTe] at hr
      exact jc.runs hr (.inr rfl) (all1 (wV hb.okl.le)) rfl
     ·
      have hn := qZ.mp h5
      have q1 : IntKind.i64.wrap (b.parent.tdiv 65536) = b.parent / 65536 := by rw [JY (by omega), wrap_i64 (by omega) (by omega)]
      by_cases h6 : b.parent / 65536 < b.slot
      ·
       have h6' : ¬ b.slot ≤ b.parent / 65536 := by omega
       by_cases h7 : WM b.txs = true
       ·
        rw [if_pos h7] at c1
        have e : jL b = true := by simp [jL, headB, h1, h2, h3, h4, h5, h6, h7]
        rw [e]
        conv at hr =>
         rhs
         rw [hTe]
         simp only [jc.code, jc.rs, zSs, reduceIte, Nat.reduceEqDiff, Int.reduceEq, Int.reduceLT, Int.reduceLE, Zx, jq, jv, jr, jo, jl, l0, l1, l2, l3, l4, if_neg hb.ne, jw.v, h1, h2, h3, decide_eq_false h4, jK.v, h5, qQ _ _ _ WE, q1, decide_eq_false h6', c1]
        rw [hTe] at hr
        exact jc.runs hr (.inr rfl) (all1 (wV hb.okl.le)) rfl
       ·
        rw [if_neg h7] at c1
        have e : jL b = false := by simp [jL, h7]
        rw [e]
        conv at hr =>
         rhs
         rw [hTe]
         simp only [jc.code, jc.rs, zSs, reduceIte, Nat.reduceEqDiff, Int.reduceEq, Int.reduceLT, Int.reduceLE, Zx, jq, jv, jr, jo, jl, l0, l1, l2, l3, l4, if_neg hb.ne, jw.v, h1, h2, h3, decide_eq_false h4, jK.v, h5, qQ _ _ _ WE, q1, decide_eq_false h6', c1]
        rw [hTe] at hr
        exact jc.runs hr (.inr rfl) (all1 (wV hb.okl.le)) rfl
      ·
       have h6' : b.slot ≤ b.parent / 65536 := by omega
       have e : jL b = false := by simp [jL, headB, h1, h2, h3, h4, h5, h6]
       rw [e]
       conv at hr =>
        rhs
        rw [hTe]
        simp only [jc.code, jc.rs, zSs, reduceIte, Nat.reduceEqDiff, Int.reduceEq, Int.reduceLT, Int.reduceLE, Zx, jq, jv, jr, jo, jl, l0, l1, l2, l3, l4, if_neg hb.ne, jw.v, h1, h2, h3, decide_eq_false h4, jK.v, h5, qQ _ _ _ WE, q1, decide_eq_true h6']
       rw [hTe] at hr
       exact jc.runs hr (.inr rfl) (all1 (wV hb.okl.le)) rfl
theorem zq.v {b : xW} (hb : b.Ok) (S : zk) : jf Try.prog O zq.id [bv b] S = some (.bool (jL b), S) := by
 obtain ⟨T, hTe⟩ : ∃ T, T = (bv b :: undef :: undef :: undef :: undef :: undef :: undef :: undef :: undef :: undef :: undef :: undef :: undef :: undef :: undef :: undef :: undef :: undef :: undef :: undef :: undef :: undef :: undef :: undef :: undef :: undef :: undef :: undef :: undef :: undef :: undef :: undef :: undef :: undef :: undef :: undef :: undef :: undef :: undef :: undef :: undef :: undef :: undef :: undef :: undef :: undef :: undef :: undef :: undef :: undef :: undef :: undef :: undef :: undef :: undef :: undef :: undef :: undef :: undef :: undef :: undef :: undef :: undef :: []) := ⟨_, rfl⟩
 have hr : zG Try.prog O false zq.code T zk.empty = zG Try.prog O false zq.code T zk.empty := rfl
 have l0 := XV (yx b)
 have l1 := Xq (yx b)
 have l2 := Xp (yx b)
 have l3 := Xd (yx b)
 have l4 := KR (yx b) hb.ne
 have c1 := fun S => zn.v hb.okl hb.ne (by have := hb.len; omega) S
 unfold afg at c1
 by_cases h1 : b.slot < 1
 ·
  have e : jL b = false := by
   cases h : jL b with
    | false => rfl
    | true => simp only [jL, Bool.and_eq_true, Zf] at h; omega
  rw [e]
  conv at hr =>
   rhs
   rw [hTe]
   simp only [zq.code, zq.rs, zSs, reduceIte, Nat.reduceEqDiff, Int.reduceEq, Int.reduceLT, Int.reduceLE, Zx, jq, jv, jr, jo, jl, l0, l1, l2, l3, l4, if_neg hb.ne, decide_eq_true h1]
  rw [hTe] at hr
  exact zq.runs hr (.inr rfl) (all1 (wV hb.okl.le)) rfl
 ·
  by_cases h2 : 4095 < b.slot
  ·
   have e : jL b = false := by
    cases h : jL b with
     | false => rfl
     | true => simp only [jL, Bool.and_eq_true, Zf] at h; omega
   rw [e]
   conv at hr =>
    rhs
    rw [hTe]
    simp only [zq.code, zq.rs, zSs, reduceIte, Nat.reduceEqDiff, Int.reduceEq, Int.reduceLT, Int.reduceLE, Zx, jq, jv, jr, jo, jl, l0, l1, l2, l3, l4, if_neg hb.ne, decide_eq_false h1, decide_eq_true h2]
   rw [hTe] at hr
   exact zq.runs hr (.inr rfl) (all1 (wV hb.okl.le)) rfl
  ·
   by_cases h3 : b.miner < 0
   ·
    have e : jL b = false := by
     cases h : jL b with
      | false => rfl
      | true => simp only [jL, Bool.and_eq_true, Zf] at h; omega
    rw [e]
    conv at hr =>
     rhs
     rw [hTe]
     simp only [zq.code, zq.rs, zSs, reduceIte, Nat.reduceEqDiff, Int.reduceEq, Int.reduceLT, Int.reduceLE, Zx, jq, jv, jr, jo, jl, l0, l1, l2, l3, l4, if_neg hb.ne, decide_eq_false h1, decide_eq_false h2, decide_eq_true h3]
    rw [hTe] at hr
    exact zq.runs hr (.inr rfl) (all1 (wV hb.okl.le)) rfl
   ·
    by_cases h4 : 6 < b.miner
    ·
     have e : jL b = false := by
      cases h : jL b with
       | false => rfl
       | true => simp only [jL, Bool.and_eq_true, Zf] at h; omega
     rw [e]
     conv at hr =>
      rhs
      rw [hTe]
      simp only [zq.code, zq.rs, zSs, reduceIte, Nat.reduceEqDiff, Int.reduceEq, Int.reduceLT, Int.reduceLE, Zx, jq, jv, jr, jo, jl, l0, l1, l2, l3, l4, if_neg hb.ne, decide_eq_false h1, decide_eq_false h2, decide_eq_false h3, decide_eq_true h4]
     rw [hTe] at hr
     exact zq.runs hr (.inr rfl) (all1 (wV hb.okl.le)) rfl
    ·
     by_cases h5 : b.variant < 0
     ·
      have e : jL b = false := by
       cases h : jL b with
        | false => rfl
        | true => simp only [jL, Bool.and_eq_true, Zf] at h; omega
      rw [e]
      conv at hr =>
       rhs
       rw [hTe]
       simp only [zq.code, zq.rs, zSs, reduceIte, Nat.reduceEqDiff, Int.reduceEq, Int.reduceLT, Int.reduceLE, Zx, jq, jv, jr, jo, jl, l0, l1, l2, l3, l4, if_neg hb.ne, decide_eq_false h1, decide_eq_false h2, decide_eq_false h3, decide_eq_false h4, decide_eq_true h5]
      rw [hTe] at hr
      exact zq.runs hr (.inr rfl) (all1 (wV hb.okl.le)) rfl
     ·
      by_cases h6 : 255 < b.variant
      ·
       have e : jL b = false := by
        cases h : jL b with
         | false => rfl
         | true => simp only [jL, Bool.and_eq_true, Zf] at h; omega
       rw [e]
       conv at hr =>
        rhs
        rw [hTe]
        simp only [zq.code, zq.rs, zSs, reduceIte, Nat.reduceEqDiff, Int.reduceEq, Int.reduceLT, Int.reduceLE, Zx, jq, jv, jr, jo, jl, l0, l1, l2, l3, l4, if_neg hb.ne, decide_eq_false h1, decide_eq_false h2, decide_eq_false h3, decide_eq_false h4, decide_eq_false h5, decide_eq_true h6]
       rw [hTe] at hr
       exact zq.runs hr (.inr rfl) (all1 (wV hb.okl.le)) rfl
      ·
       by_cases h7 : WM b.txs = true
       ·
        rw [if_pos h7] at c1
        have hh : headB b = (decide (b.parent = 0) || (qE b.parent && decide (b.parent / 65536 < b.slot))) := by
         have a1 := WX.mpr (show 1 ≤ b.slot ∧ b.slot ≤ 4095 by omega)
         have a2 := WX.mpr (show 0 ≤ b.miner ∧ b.miner ≤ 6 by omega)
         have a3 := WX.mpr (show 0 ≤ b.variant ∧ b.variant ≤ 255 by omega)
         simp [headB, a1, a2, a3]
        by_cases h8 : b.parent = 0
        ·
         have e : jL b = true := by simp [jL, hh, h8, h7]
         rw [e]
         conv at hr =>
          rhs
          rw [hTe]
          simp only [zq.code, zq.rs, zSs, reduceIte, Nat.reduceEqDiff, Int.reduceEq, Int.reduceLT, Int.reduceLE, Zx, jq, jv, jr, jo, jl, l0, l1, l2, l3, l4, if_neg hb.ne, decide_eq_false h1, decide_eq_false h2, decide_eq_false h3, decide_eq_false h4, decide_eq_false h5, decide_eq_false h6, c1, decide_eq_true h8]
         rw [hTe] at hr
         exact zq.runs hr (.inr rfl) (all1 (wV hb.okl.le)) rfl
        ·
         have c2 := fun S => zN.v b.parent hb.par S
         unfold XM at c2
         by_cases h9 : b.parent < 0
         ·
          rw [if_pos h9] at c2
          have hn : qE b.parent = false := by
           cases h : qE b.parent with
           | false => rfl
           | true => have := qZ.mp h; omega
          have e : jL b = false := by simp [jL, hh, h8, hn]
          rw [e]
          conv at hr =>
           rhs
           rw [hTe]
           simp only [zq.code, zq.rs, zSs, reduceIte, Nat.reduceEqDiff, Int.reduceEq, Int.reduceLT, Int.reduceLE, Zx, jq, jv, jr, jo, jl, l0, l1, l2, l3, l4, if_neg hb.ne, decide_eq_false h1, decide_eq_false h2, decide_eq_false h3, decide_eq_false h4, decide_eq_false h5, decide_eq_false h6, c1, decide_eq_false h8, c2]
          rw [hTe] at hr
          exact zq.runs hr (.inr rfl) (all1 (wV hb.okl.le)) rfl
         ·
          rw [if_neg h9] at c2
          cases hn : qE b.parent
          ·
           rw [hn] at c2
           have e : jL b = false := by simp [jL, hh, h8, hn]
           rw [e]
           conv at hr =>
            rhs
            rw [hTe]
            simp only [zq.code, zq.rs, zSs, reduceIte, Nat.reduceEqDiff, Int.reduceEq, Int.reduceLT, Int.reduceLE, Zx, jq, jv, jr, jo, jl, l0, l1, l2, l3, l4, if_neg hb.ne, decide_eq_false h1, decide_eq_false h2, decide_eq_false h3, decide_eq_false h4, decide_eq_false h5, decide_eq_false h6, c1, decide_eq_false h8, c2]
           rw [hTe] at hr
           exact zq.runs hr (.inr rfl) (all1 (wV hb.okl.le)) rfl
          ·
           rw [hn] at c2
           have e : jL b = decide (b.parent / 65536 < b.slot) := by simp [jL, hh, h8, hn, h7]
           rw [e]
           conv at hr =>
            rhs
            rw [hTe]
            simp only [zq.code, zq.rs, zSs, reduceIte, Nat.reduceEqDiff, Int.reduceEq, Int.reduceLT, Int.reduceLE, Zx, jq, jv, jr, jo, jl, l0, l1, l2, l3, l4, if_neg hb.ne, decide_eq_false h1, decide_eq_false h2, decide_eq_false h3, decide_eq_false h4, decide_eq_false h5, decide_eq_false h6, c1, decide_eq_false h8, c2]
           rw [hTe] at hr
           exact zq.runs hr (.inr rfl) (all1 (wV hb.okl.le)) rfl
       ·
        rw [if_neg h7] at c1
        have e : jL b = false := by simp [jL, h7]
        rw [e]
        conv at hr =>
         rhs
         rw [hTe]
         simp only [zq.code, zq.rs, zSs, reduceIte, Nat.reduceEqDiff, Int.reduceEq, Int.reduceLT, Int.reduceLE, Zx, jq, jv, jr, jo, jl, l0, l1, l2, l3, l4, if_neg hb.ne, decide_eq_false h1, decide_eq_false h2, decide_eq_false h3, decide_eq_false h4, decide_eq_false h5, decide_eq_false h6, c1]
        rw [hTe] at hr
        exact zq.runs hr (.inr rfl) (all1 (wV hb.okl.le)) rfl
end Go.Proofs.Ytbgcphbbchndkaa
namespace Go.Proofs.Ytbgcphbbchndkaa
open Go.Abs
def Z7 (a b : xW) : Bool := decide (a.slot = b.slot) && (decide (a.miner = b.miner) && (decide (a.variant = b.variant) && (decide (a.parent = b.parent) && decide (a.txs = b.txs))))
abbrev af5 (a b : xW) : zk := (adN a).push (.cells (fBk b) (.own []) 0)
theorem YN (a b : xW) : vV (bv b) (adN a) = some (.pointer (some ⟨1, 0, none⟩), af5 a b) := by kernel_rfl
theorem vS (a b : xW) : (af5 a b).get 0 = some (.cells (fBk a) (.own []) 0) := by kernel_rfl
theorem vI (a b : xW) : (af5 a b).get 1 = some (.cells (fBk b) (.own []) 0) := by kernel_rfl
theorem jO.v {a b : xW} (ha : a.Ok) (hb : b.Ok) (S : zk) : jf Try.prog O jO.id [bv a, bv b] S = some (.bool (Z7 a b), S) := by
 obtain ⟨T, hTe⟩ : ∃ T, T = (bv a :: bv b :: undef :: undef :: undef :: undef :: undef :: undef :: undef :: undef :: undef :: undef :: undef :: undef :: undef :: undef :: undef :: undef :: undef :: undef :: undef :: undef :: undef :: undef :: undef :: undef :: undef :: undef :: undef :: undef :: undef :: undef :: undef :: undef :: undef :: undef :: undef :: undef :: []) := ⟨_, rfl⟩
 have hr : zG Try.prog O false jO.code T zk.empty = zG Try.prog O false jO.code T zk.empty := rfl
 have l0 := XV (vS a b)
 have m0 := XV (vI a b)
 have l1 := Xq (vS a b)
 have m1 := Xq (vI a b)
 have l2 := Xp (vS a b)
 have m2 := Xp (vI a b)
 have l3 := Xd (vS a b)
 have m3 := Xd (vI a b)
 have l4 := KR (vS a b) ha.ne
 have m4 := KR (vI a b) hb.ne
 have c1 := fun S => slices_Equal.v ha.okl hb.okl ha.ne hb.ne (by have := ha.len; omega) S
 have cc : [bv a, bv b].all (jB 16) = true := all2 (wV ha.okl.le) (wV hb.okl.le)
 unfold Z7
 by_cases h1 : a.slot = b.slot
 ·
  have e1 := decide_eq_true h1
  by_cases h2 : a.miner = b.miner
  ·
   have e2 := decide_eq_true h2
   by_cases h3 : a.variant = b.variant
   ·
    have e3 := decide_eq_true h3
    by_cases h4 : a.parent = b.parent
    ·
     have e4 := decide_eq_true h4
     conv at hr =>
      rhs
      rw [hTe]
      simp only [jO.code, jO.rs, zSs, reduceIte, Nat.reduceEqDiff, Int.reduceEq, Int.reduceLT, Int.reduceLE, Zx, YN, jq, jv, jr, jo, jl, l0, l1, l2, l3, l4, m0, m1, m2, m3, m4, if_neg ha.ne, if_neg hb.ne, e1, e2, e3, e4, c1]
     rw [hTe] at hr
     rw [e1, Bool.true_and, e2, Bool.true_and, e3, Bool.true_and, e4, Bool.true_and]
     exact jO.runs hr (.inr rfl) cc rfl
    ·
     have e4 := decide_eq_false h4
     conv at hr =>
      rhs
      rw [hTe]
      simp only [jO.code, jO.rs, zSs, reduceIte, Nat.reduceEqDiff, Int.reduceEq, Int.reduceLT, Int.reduceLE, Zx, YN, jq, jv, jr, jo, jl, l0, l1, l2, l3, l4, m0, m1, m2, m3, m4, if_neg ha.ne, if_neg hb.ne, e1, e2, e3, e4]
     rw [hTe] at hr
     rw [e1, Bool.true_and, e2, Bool.true_and, e3, Bool.true_and, e4, Bool.false_and]
     exact jO.runs hr (.inr rfl) cc rfl
   ·
    have e3 := decide_eq_false h3
    conv at hr =>
     rhs
     rw [hTe]
     simp only [jO.code, jO.rs, zSs, reduceIte, Nat.reduceEqDiff, Int.reduceEq, Int.reduceLT, Int.reduceLE, Zx, YN, jq, jv, jr, jo, jl, l0, l1, l2, l3, l4, m0, m1, m2, m3, m4, if_neg ha.ne, if_neg hb.ne, e1, e2, e3]
    rw [hTe] at hr
    rw [e1, Bool.true_and, e2, Bool.true_and, e3, Bool.false_and]
    exact jO.runs hr (.inr rfl) cc rfl
  ·
   have e2 := decide_eq_false h2
   conv at hr =>
    rhs
    rw [hTe]
    simp only [jO.code, jO.rs, zSs, reduceIte, Nat.reduceEqDiff, Int.reduceEq, Int.reduceLT, Int.reduceLE, Zx, YN, jq, jv, jr, jo, jl, l0, l1, l2, l3, l4, m0, m1, m2, m3, m4, if_neg ha.ne, if_neg hb.ne, e1, e2]
   rw [hTe] at hr
   rw [e1, Bool.true_and, e2, Bool.false_and]
   exact jO.runs hr (.inr rfl) cc rfl
 ·
  have e1 := decide_eq_false h1
  conv at hr =>
   rhs
   rw [hTe]
   simp only [jO.code, jO.rs, zSs, reduceIte, Nat.reduceEqDiff, Int.reduceEq, Int.reduceLT, Int.reduceLE, Zx, YN, jq, jv, jr, jo, jl, l0, l1, l2, l3, l4, m0, m1, m2, m3, m4, if_neg ha.ne, if_neg hb.ne, e1]
  rw [hTe] at hr
  rw [e1, Bool.false_and]
  exact jO.runs hr (.inr rfl) cc rfl
theorem zW.v {a b : xW} (ha : a.Ok) (hb : b.Ok) (S : zk) : jf Try.prog O zW.id [bv a, bv b] S = some (.bool (Z7 a b), S) := by
 obtain ⟨T, hTe⟩ : ∃ T, T = (bv a :: bv b :: undef :: undef :: undef :: undef :: undef :: undef :: undef :: undef :: undef :: undef :: undef :: undef :: undef :: undef :: undef :: undef :: undef :: undef :: undef :: undef :: undef :: undef :: undef :: undef :: undef :: undef :: undef :: undef :: undef :: undef :: undef :: undef :: undef :: undef :: undef :: undef :: []) := ⟨_, rfl⟩
 have hr : zG Try.prog O false zW.code T zk.empty = zG Try.prog O false zW.code T zk.empty := rfl
 have l0 := XV (vS a b)
 have m0 := XV (vI a b)
 have l1 := Xq (vS a b)
 have m1 := Xq (vI a b)
 have l2 := Xp (vS a b)
 have m2 := Xp (vI a b)
 have l3 := Xd (vS a b)
 have m3 := Xd (vI a b)
 have l4 := KR (vS a b) ha.ne
 have m4 := KR (vI a b) hb.ne
 have c1 := fun S => zx.v ha.okl hb.okl ha.ne hb.ne (by have := ha.len; omega) S
 have cc : [bv a, bv b].all (jB 16) = true := all2 (wV ha.okl.le) (wV hb.okl.le)
 unfold Z7
 by_cases h1 : a.slot = b.slot
 ·
  have e1 := decide_eq_true h1
  by_cases h2 : a.miner = b.miner
  ·
   have e2 := decide_eq_true h2
   by_cases h3 : a.variant = b.variant
   ·
    have e3 := decide_eq_true h3
    by_cases h4 : a.parent = b.parent
    ·
     have e4 := decide_eq_true h4
     conv at hr =>
      rhs
      rw [hTe]
      simp only [zW.code, zW.rs, zSs, reduceIte, Nat.reduceEqDiff, Int.reduceEq, Int.reduceLT, Int.reduceLE, Zx, YN, jq, jv, jr, jo, jl, l0, l1, l2, l3, l4, m0, m1, m2, m3, m4, if_neg ha.ne, if_neg hb.ne, e1, e2, e3, e4, c1]
     rw [hTe] at hr
     rw [e1, Bool.true_and, e2, Bool.true_and, e3, Bool.true_and, e4, Bool.true_and]
     exact zW.runs hr (.inr rfl) cc rfl
    ·
     have e4 := decide_eq_false h4
     conv at hr =>
      rhs
      rw [hTe]
      simp only [zW.code, zW.rs, zSs, reduceIte, Nat.reduceEqDiff, Int.reduceEq, Int.reduceLT, Int.reduceLE, Zx, YN, jq, jv, jr, jo, jl, l0, l1, l2, l3, l4, m0, m1, m2, m3, m4, if_neg ha.ne, if_neg hb.ne, e1, e2, e3, e4]
     rw [hTe] at hr
     rw [e1, Bool.true_and, e2, Bool.true_and, e3, Bool.true_and, e4, Bool.false_and]
     exact zW.runs hr (.inr rfl) cc rfl
   ·
    have e3 := decide_eq_false h3
    conv at hr =>
     rhs
     rw [hTe]
     simp only [zW.code, zW.rs, zSs, reduceIte, Nat.reduceEqDiff, Int.reduceEq, Int.reduceLT, Int.reduceLE, Zx, YN, jq, jv, jr, jo, jl, l0, l1, l2, l3, l4, m0, m1, m2, m3, m4, if_neg ha.ne, if_neg hb.ne, e1, e2, e3]
    rw [hTe] at hr
    rw [e1, Bool.true_and, e2, Bool.true_and, e3, Bool.false_and]
    exact zW.runs hr (.inr rfl) cc rfl
  ·
   have e2 := decide_eq_false h2
   conv at hr =>
    rhs
    rw [hTe]
    simp only [zW.code, zW.rs, zSs, reduceIte, Nat.reduceEqDiff, Int.reduceEq, Int.reduceLT, Int.reduceLE, Zx, YN, jq, jv, jr, jo, jl, l0, l1, l2, l3, l4, m0, m1, m2, m3, m4, if_neg ha.ne, if_neg hb.ne, e1, e2]
   rw [hTe] at hr
   rw [e1, Bool.true_and, e2, Bool.false_and]
   exact zW.runs hr (.inr rfl) cc rfl
 ·
  have e1 := decide_eq_false h1
  conv at hr =>
   rhs
   rw [hTe]
   simp only [zW.code, zW.rs, zSs, reduceIte, Nat.reduceEqDiff, Int.reduceEq, Int.reduceLT, Int.reduceLE, Zx, YN, jq, jv, jr, jo, jl, l0, l1, l2, l3, l4, m0, m1, m2, m3, m4, if_neg ha.ne, if_neg hb.ne, e1]
  rw [hTe] at hr
  rw [e1, Bool.false_and]
  exact zW.runs hr (.inr rfl) cc rfl
def adP (b : xW) : List UInt8 := encs [b.slot, b.miner, b.variant, b.parent] ++ afy b.txs
def aay (b : xW) : Value := if jL b then .tuple #[by_ 2 (adP b), .int .i64 0] else .tuple #[.slice none 0 0, .int .i64 71]
theorem QZ {b : xW} (h : headB b = true) : ∀ n ∈ [b.slot, b.miner, b.variant, b.parent], 0 ≤ n ∧ n ≤ 268435455 := by
 obtain ⟨h1, h2, h3, h4⟩ := Zf.mp h
 have h5 : 0 ≤ b.parent ∧ b.parent ≤ 268435455 := by
  rcases h4 with h4 | ⟨h4, _⟩
  ·
   omega
  ·
   have := qZ.mp h4; omega
 intro n hn
 simp only [List.mem_cons, List.not_mem_nil, or_false] at hn
 rcases hn with rfl | rfl | rfl | rfl <;> omega
theorem bs4 (a b c d : Int) (S : zk) : jJ Try.prog 57 4 [(0, .int .i64 a), (1, .int .i64 b), (2, .int .i64 c), (3, .int .i64 d)] S = some (iz 2 [a, b, c, d], S) := by kernel_rfl
theorem KE {b : xW} (h : headB b = true) : (encs [b.slot, b.miner, b.variant, b.parent]).length ≤ 40 := by
 have h1 := QZ h
 have := vG (l := [b.slot, b.miner, b.variant, b.parent]) (fun n hn => by have := h1 n hn; omega)
 exact this
theorem jF.v {b : xW} (hb : b.Ok) (S : zk) : jf Try.prog O jF.id [bv b] S = some (aay b, S) := by
 obtain ⟨T, hTe⟩ : ∃ T, T = (bv b :: undef :: undef :: undef :: undef :: undef :: undef :: undef :: undef :: undef :: undef :: undef :: undef :: undef :: undef :: undef :: undef :: undef :: undef :: undef :: undef :: undef :: undef :: undef :: undef :: undef :: undef :: undef :: undef :: undef :: undef :: undef :: undef :: []) := ⟨_, rfl⟩
 have hr : zG Try.prog O false jF.code T zk.empty = zG Try.prog O false jF.code T zk.empty := rfl
 have l0 := XV (yx b)
 have l1 := Xq (yx b)
 have l2 := Xp (yx b)
 have l3 := Xd (yx b)
 have l4 := KR (yx b) hb.ne
 have lb := ahs (yx b) hb.ne
 have c1 := fun S => jc.v hb S
 unfold aay
 cases hR : jL b
 ·
  rw [hR] at c1
  conv at hr =>
   rhs
   rw [hTe]
   simp only [jF.code, jF.rs, zSs, reduceIte, Nat.reduceEqDiff, Int.reduceEq, Int.reduceLT, Int.reduceLE, Zx, lb, c1]
  rw [hTe] at hr
  exact jF.runs hr (.inr rfl) rfl rfl (all1 (wV hb.okl.le)) rfl
 ·
  rw [hR] at c1
  have hh : headB b = true ∧ WM b.txs = true := by simpa [jL] using hR
  have few := QZ hh.1
  have c2 := fun S => zZ.v (l := [b.slot, b.miner, b.variant, b.parent]) Okl.read (by decide) (fun n hn => by have := few n hn; omega) S
  have n2 := vg (k := 0) (l := [b.slot, b.miner, b.variant, b.parent]) (by simp) (fun n hn => by have := few n hn; omega) (by simp)
  have c3 := fun S => jy.v hb.okl hb.ne (by have := hb.len; omega) S
  have t3 : afg b.txs = .tuple #[by_ 2 (afy b.txs), .int .i64 0] := if_pos hh.2
  have ap : ∀ S, wU Try.prog 23 23 (by_ 2 (encs [b.slot, b.miner, b.variant, b.parent])) (by_ 1 (afy b.txs)) S = some (by_ 2 (adP b), S) := fun S => by
   rw [qw Okl.own (by decide) Okl.read (by have := KE hh.1; have := QL hh.2; omega)]; rfl
  conv at hr =>
   rhs
   rw [hTe]
   simp only [jF.code, jF.rs, zSs, reduceIte, Nat.reduceEqDiff, Int.reduceEq, Int.reduceLT, Int.reduceLE, Zx, lb, c1, jq, jv, jr, jo, jl, l0, l1, l2, l3, l4, if_neg hb.ne, bs4, c2, n2, c3, t3, ap]
  rw [hTe] at hr
  exact jF.runs hr (.inr rfl) (by simp only [List.getD_cons_succ, List.getD_cons_zero, wP, wE, jQ, jY, wC]) rfl (all1 (wV hb.okl.le)) (qL (all2 (xY (k := 2) (Nat.le_refl 2)) rfl))
theorem zT.v {b : xW} (hb : b.Ok) (S : zk) : jf Try.prog O zT.id [bv b] S = some (aay b, S) := by
 obtain ⟨T, hTe⟩ : ∃ T, T = (bv b :: undef :: undef :: undef :: undef :: undef :: undef :: undef :: undef :: undef :: undef :: undef :: undef :: undef :: undef :: undef :: undef :: undef :: undef :: undef :: undef :: undef :: undef :: undef :: undef :: undef :: undef :: undef :: undef :: undef :: undef :: undef :: undef :: []) := ⟨_, rfl⟩
 have hr : zG Try.prog O false zT.code T zk.empty = zG Try.prog O false zT.code T zk.empty := rfl
 have l0 := XV (yx b)
 have l1 := Xq (yx b)
 have l2 := Xp (yx b)
 have l3 := Xd (yx b)
 have l4 := KR (yx b) hb.ne
 have lb := ahs (yx b) hb.ne
 have c1 := fun S => zq.v hb S
 unfold aay
 cases hR : jL b
 ·
  rw [hR] at c1
  conv at hr =>
   rhs
   rw [hTe]
   simp only [zT.code, zT.rs, zSs, reduceIte, Nat.reduceEqDiff, Int.reduceEq, Int.reduceLT, Int.reduceLE, Zx, lb, c1]
  rw [hTe] at hr
  exact zT.runs hr (.inr rfl) rfl rfl (all1 (wV hb.okl.le)) rfl
 ·
  rw [hR] at c1
  have hh : headB b = true ∧ WM b.txs = true := by simpa [jL] using hR
  have few := QZ hh.1
  have c2 := fun S => zu.v (l := [b.slot, b.miner, b.variant, b.parent]) Okl.read (by decide) (fun n hn => by have := few n hn; omega) S
  have n2 := vg (k := 2) (l := [b.slot, b.miner, b.variant, b.parent]) (by simp) (fun n hn => by have := few n hn; omega) (by simp)
  have c3 := fun S => zn.v hb.okl hb.ne (by have := hb.len; omega) S
  have t3 : afg b.txs = .tuple #[by_ 2 (afy b.txs), .int .i64 0] := if_pos hh.2
  have ap : ∀ S, wU Try.prog 23 23 (by_ 2 (encs [b.slot, b.miner, b.variant, b.parent])) (by_ 1 (afy b.txs)) S = some (by_ 2 (adP b), S) := fun S => by
   rw [qw Okl.own (by decide) Okl.read (by have := KE hh.1; have := QL hh.2; omega)]; rfl
  conv at hr =>
   rhs
   rw [hTe]
   simp only [zT.code, zT.rs, zSs, reduceIte, Nat.reduceEqDiff, Int.reduceEq, Int.reduceLT, Int.reduceLE, Zx, lb, c1, jq, jv, jr, jo, jl, l0, l1, l2, l3, l4, if_neg hb.ne, bs4, c2, n2, c3, t3, ap]
  rw [hTe] at hr
  exact zT.runs hr (.inr rfl) (by simp only [List.getD_cons_succ, List.getD_cons_zero, wP, wE, jQ, jY, wC]) rfl (all1 (wV hb.okl.le)) (qL (all2 (xY (k := 2) (Nat.le_refl 2)) rfl))
end Go.Proofs.Ytbgcphbbchndkaa
namespace Go.Proofs.Ytbgcphbbchndkaa
open Go.Abs
theorem ahC {α : Type} {f : α → List Value} {e k : Nat} {l : List α} {d : Nat} : okq d (vs f e k l) = true := by unfold vs sv; cases d <;> split <;> rfl
theorem ahP (x : tBk.Val) (hg : tBk.Good x) : ∃ b : xW, tBk.J3 x = fBk b ∧ b.Ok := by
 obtain ⟨s, m, v, p, ts, u⟩ := x
 obtain ⟨h1, h2, h3, h4, h5, _⟩ := hg
 obtain ⟨k, l, p1, p2, p3, p4, p5⟩ := ahn ts h5
 refine ⟨⟨s, m, v, p, k, l⟩, ?_, ⟨p1, p2, p4, (JF h4).2⟩⟩
 show [Value.int .i64 s] ++ ([Value.int .i64 m] ++ ([Value.int .i64 v] ++ ([Value.int .i64 p] ++ ((Ty.slc 16 tTx).J3 ts ++ [])))) = _
 rw [p3]; rfl
end Go.Proofs.Ytbgcphbbchndkaa
namespace Go.Proofs.Ytbgcphbbchndkaa
open Go.Abs
abbrev bk0 : xW := ⟨0, 0, 0, 0, 0, []⟩
theorem ahH (S : zk) : yM Try.prog 28 S = some (.pointer (some ⟨S.next, 0, none⟩), S.push (.cells (fBk bk0) (.own []) 0)) := by kernel_rfl
theorem ae5 (b : xW) : (fBk b).all (·.oneCell') = true := by
 simp only [fBk, List.all_cons, List.all_nil, acS, acT, Bool.and_true]
theorem ok0 : bk0.Ok := ⟨Okl.none, by decide, by simp, by decide⟩
end Go.Proofs.Ytbgcphbbchndkaa
namespace Go.Proofs.Ytbgcphbbchndkaa
open Go.Abs
structure wz where
 kind : Int
 frm : Int
 index : Int
 view : Int
 value : Int
 prep : Int
 tx : TxV
 b : xW
def fM (m : wz) : List Value := [.int .i64 m.kind, .int .i64 m.frm, .int .i64 m.index, .int .i64 m.view, .int .i64 m.value, .int .i64 m.prep, .int .i64 m.tx.id, .int .i64 m.tx.fee, .int .i64 m.b.slot, .int .i64 m.b.miner, .int .i64 m.b.variant, .int .i64 m.b.parent, tl m.b.k m.b.txs]
abbrev mv (m : wz) : Value := .agg [Value.int .i64 m.kind, .int .i64 m.frm, .int .i64 m.index, .int .i64 m.view, .int .i64 m.value, .int .i64 m.prep, .int .i64 m.tx.id, .int .i64 m.tx.fee, .int .i64 m.b.slot, .int .i64 m.b.miner, .int .i64 m.b.variant, .int .i64 m.b.parent, tl m.b.k m.b.txs].toArray
def Big (n : Int) : Prop := -9223372036854775808 ≤ n ∧ n < 9223372036854775808
structure wz.Ok (m : wz) : Prop where
 b : m.b.Ok
 tx : m.tx.Ok
 kind : Big m.kind
 frm : Big m.frm
 index : Big m.index
 view : Big m.view
 value : Big m.value
 prep : Big m.prep
abbrev m0 : wz := ⟨0, 0, 0, 0, 0, 0, ⟨0, 0⟩, bk0⟩
theorem wR {m : wz} {d : Nat} (h : m.b.k ≤ 2) : jB (d + 6) (mv m) = true := by
 have h1 : jB (d + 5) (tl m.b.k m.b.txs) = true := Zh (d := d + 1) h fun _ _ => rfl
 refine XQ ?_
 simp only [List.all_cons, List.all_nil, h1, Bool.and_true]
 rfl
theorem ahN (m : wz) : (fM m).all (·.oneCell') = true := by
 simp only [fM, List.all_cons, List.all_nil, acS, acT, Bool.and_true]
section
variable {S : zk} {q e : Nat} {m : wz} {own : Own}
theorem jI (h : S.get q = some (.cells (fM m) own e)) : zV Try.prog false 3 (.pointer (some ⟨q, 0 + 0, none⟩)) S = some (.int .i64 m.kind, S) := yO (t := 3) (o := 0 + 0) h vO rfl
theorem jW (h : S.get q = some (.cells (fM m) own e)) : zV Try.prog false 3 (.pointer (some ⟨q, 0 + 1, none⟩)) S = some (.int .i64 m.frm, S) := yO (t := 3) (o := 0 + 1) h vO rfl
theorem jZ (h : S.get q = some (.cells (fM m) own e)) : zV Try.prog false 3 (.pointer (some ⟨q, 0 + 2, none⟩)) S = some (.int .i64 m.index, S) := yO (t := 3) (o := 0 + 2) h vO rfl
theorem wB (h : S.get q = some (.cells (fM m) own e)) : zV Try.prog false 3 (.pointer (some ⟨q, 0 + 3, none⟩)) S = some (.int .i64 m.view, S) := yO (t := 3) (o := 0 + 3) h vO rfl
theorem jR (h : S.get q = some (.cells (fM m) own e)) : zV Try.prog false 3 (.pointer (some ⟨q, 0 + 4, none⟩)) S = some (.int .i64 m.value, S) := yO (t := 3) (o := 0 + 4) h vO rfl
theorem wM (h : S.get q = some (.cells (fM m) own e)) : zV Try.prog false 3 (.pointer (some ⟨q, 0 + 5, none⟩)) S = some (.int .i64 m.prep, S) := yO (t := 3) (o := 0 + 5) h vO rfl
theorem wS (h : S.get q = some (.cells (fM m) own e)) : zV Try.prog false 25 (.pointer (some ⟨q, 0 + 6, none⟩)) S = some (tv m.tx, S) := (Jy (o := 0 + 6) h Qw xZ (by simp [fM])).trans (by simp [fM, kQ])
theorem wX (h : S.get q = some (.cells (fM m) own e)) (hk : m.b.k ≠ 2) : zV Try.prog false 28 (.pointer (some ⟨q, 0 + 8, none⟩)) S = some (bv m.b, S) := by
 rw [Jy (o := 0 + 8) h Yi Za (by simp [fM])]
 simp [fM, kQ, VA, hk]
theorem xC (h : S.get q = some (.cells (fM m) own e)) (hk : m.b.k ≠ 2) : zV Try.prog false 30 (.pointer (some ⟨q, 0, none⟩)) S = some (mv m, S) := by
 rw [abh h]
 simp only [kQ, VA, if_neg hk]
end
abbrev Y3 (m : wz) : zk := zk.empty.push (.cells (fM m) (.own []) 0)
theorem qC (m : wz) : vV (mv m) zk.empty = some (.pointer (some ⟨0, 0, none⟩), Y3 m) := rfl
theorem ku (m : wz) : (Y3 m).get 0 = some (.cells (fM m) (.own []) 0) := rfl
abbrev Qp (a b : wz) : zk := (Y3 a).push (.cells (fM b) (.own []) 0)
theorem Z8 (a b : wz) : vV (mv b) (Y3 a) = some (.pointer (some ⟨1, 0, none⟩), Qp a b) := by kernel_rfl
theorem QI (a b : wz) : (Qp a b).get 0 = some (.cells (fM a) (.own []) 0) := by kernel_rfl
theorem VD (a b : wz) : (Qp a b).get 1 = some (.cells (fM b) (.own []) 0) := by kernel_rfl
theorem X4 (S : zk) : yM Try.prog 30 S = some (.pointer (some ⟨S.next, 0, none⟩), S.push (.cells (fM m0) (.own []) 0)) := by kernel_rfl
def kE (a b : wz) : Bool := decide (a.kind = b.kind) && (decide (a.frm = b.frm) && (decide (a.index = b.index) && (decide (a.view = b.view) && (decide (a.value = b.value) && (decide (a.prep = b.prep) && (decide (a.tx = b.tx) && Z7 a.b b.b))))))
theorem jM.v {a b : wz} (ha : a.Ok) (hb : b.Ok) (S : zk) : jf Try.prog O jM.id [mv a, mv b] S = some (.bool (kE a b), S) := by
 obtain ⟨T, hTe⟩ : ∃ T, T = (mv a :: mv b :: undef :: undef :: undef :: undef :: undef :: undef :: undef :: undef :: undef :: undef :: undef :: undef :: undef :: undef :: undef :: undef :: undef :: undef :: undef :: undef :: undef :: undef :: undef :: undef :: undef :: undef :: undef :: undef :: undef :: undef :: undef :: undef :: undef :: undef :: undef :: undef :: undef :: undef :: undef :: undef :: undef :: undef :: undef :: undef :: undef :: undef :: undef :: undef :: undef :: undef :: undef :: undef :: undef :: undef :: undef :: undef :: undef :: undef :: undef :: []) := ⟨_, rfl⟩
 have hr : zG Try.prog O false jM.code T zk.empty = zG Try.prog O false jM.code T zk.empty := rfl
 have g0 := QI a b
 have g1 := VD a b
 have c1 := fun S => jO.v ha.b hb.b S
 have e1 := fun S => (adB a.tx b.tx S).1
 have hc : [mv a, mv b].all (jB 16) = true := all2 (wR ha.b.okl.le) (wR hb.b.okl.le)
 unfold kE
 by_cases h1 : a.kind = b.kind
 ·
  by_cases h2 : a.frm = b.frm
  ·
   by_cases h3 : a.index = b.index
   ·
    by_cases h4 : a.view = b.view
    ·
     by_cases h5 : a.value = b.value
     ·
      by_cases h6 : a.prep = b.prep
      ·
       by_cases h7 : a.tx = b.tx
       ·
        rw [decide_eq_true h1, decide_eq_true h2, decide_eq_true h3, decide_eq_true h4, decide_eq_true h5, decide_eq_true h6, decide_eq_true h7]
        simp only [Bool.true_and]
        conv at hr =>
         rhs
         rw [hTe]
         simp only [jM.code, jM.rs, zSs, reduceIte, Nat.reduceEqDiff, Int.reduceEq, Int.reduceLT, Int.reduceLE, qC, Z8, zy, zC, zF, zH, zB, zJ, zK, zL, jI g0, jI g1, jW g0, jW g1, jZ g0, jZ g1, wB g0, wB g1, jR g0, jR g1, wM g0, wM g1, wS g0, wS g1, wX g0 ha.b.ne, wX g1 hb.b.ne, decide_eq_true h1, decide_eq_true h2, decide_eq_true h3, decide_eq_true h4, decide_eq_true h5, decide_eq_true h6, decide_eq_true h7, e1, c1]
        rw [hTe] at hr
        exact jM.runs hr (.inr rfl) hc rfl
       ·
        rw [decide_eq_false h7]
        simp only [Bool.false_and, Bool.and_false]
        conv at hr =>
         rhs
         rw [hTe]
         simp only [jM.code, jM.rs, zSs, reduceIte, Nat.reduceEqDiff, Int.reduceEq, Int.reduceLT, Int.reduceLE, qC, Z8, zy, zC, zF, zH, zB, zJ, zK, jI g0, jI g1, jW g0, jW g1, jZ g0, jZ g1, wB g0, wB g1, jR g0, jR g1, wM g0, wM g1, wS g0, wS g1, decide_eq_true h1, decide_eq_true h2, decide_eq_true h3, decide_eq_true h4, decide_eq_true h5, decide_eq_true h6, decide_eq_false h7, e1]
        rw [hTe] at hr
        exact jM.runs hr (.inr rfl) hc rfl
      ·
       rw [decide_eq_false h6]
       simp only [Bool.false_and, Bool.and_false]
       conv at hr =>
        rhs
        rw [hTe]
        simp only [jM.code, jM.rs, zSs, reduceIte, Nat.reduceEqDiff, Int.reduceEq, Int.reduceLT, Int.reduceLE, qC, Z8, zy, zC, zF, zH, zB, zJ, jI g0, jI g1, jW g0, jW g1, jZ g0, jZ g1, wB g0, wB g1, jR g0, jR g1, wM g0, wM g1, decide_eq_true h1, decide_eq_true h2, decide_eq_true h3, decide_eq_true h4, decide_eq_true h5, decide_eq_false h6]
       rw [hTe] at hr
       exact jM.runs hr (.inr rfl) hc rfl
     ·
      rw [decide_eq_false h5]
      simp only [Bool.false_and, Bool.and_false]
      conv at hr =>
       rhs
       rw [hTe]
       simp only [jM.code, jM.rs, zSs, reduceIte, Nat.reduceEqDiff, Int.reduceEq, Int.reduceLT, Int.reduceLE, qC, Z8, zy, zC, zF, zH, zB, jI g0, jI g1, jW g0, jW g1, jZ g0, jZ g1, wB g0, wB g1, jR g0, jR g1, decide_eq_true h1, decide_eq_true h2, decide_eq_true h3, decide_eq_true h4, decide_eq_false h5]
      rw [hTe] at hr
      exact jM.runs hr (.inr rfl) hc rfl
    ·
     rw [decide_eq_false h4]
     simp only [Bool.false_and, Bool.and_false]
     conv at hr =>
      rhs
      rw [hTe]
      simp only [jM.code, jM.rs, zSs, reduceIte, Nat.reduceEqDiff, Int.reduceEq, Int.reduceLT, Int.reduceLE, qC, Z8, zy, zC, zF, zH, jI g0, jI g1, jW g0, jW g1, jZ g0, jZ g1, wB g0, wB g1, decide_eq_true h1, decide_eq_true h2, decide_eq_true h3, decide_eq_false h4]
     rw [hTe] at hr
     exact jM.runs hr (.inr rfl) hc rfl
   ·
    rw [decide_eq_false h3]
    simp only [Bool.false_and, Bool.and_false]
    conv at hr =>
     rhs
     rw [hTe]
     simp only [jM.code, jM.rs, zSs, reduceIte, Nat.reduceEqDiff, Int.reduceEq, Int.reduceLT, Int.reduceLE, qC, Z8, zy, zC, zF, jI g0, jI g1, jW g0, jW g1, jZ g0, jZ g1, decide_eq_true h1, decide_eq_true h2, decide_eq_false h3]
    rw [hTe] at hr
    exact jM.runs hr (.inr rfl) hc rfl
  ·
   rw [decide_eq_false h2]
   simp only [Bool.false_and, Bool.and_false]
   conv at hr =>
    rhs
    rw [hTe]
    simp only [jM.code, jM.rs, zSs, reduceIte, Nat.reduceEqDiff, Int.reduceEq, Int.reduceLT, Int.reduceLE, qC, Z8, zy, zC, jI g0, jI g1, jW g0, jW g1, decide_eq_true h1, decide_eq_false h2]
   rw [hTe] at hr
   exact jM.runs hr (.inr rfl) hc rfl
 ·
  rw [decide_eq_false h1]
  simp only [Bool.false_and]
  conv at hr =>
   rhs
   rw [hTe]
   simp only [jM.code, jM.rs, zSs, reduceIte, Nat.reduceEqDiff, Int.reduceEq, Int.reduceLT, Int.reduceLE, qC, Z8, zy, jI g0, jI g1, decide_eq_false h1]
  rw [hTe] at hr
  exact jM.runs hr (.inr rfl) hc rfl
theorem zI.v {a b : wz} (ha : a.Ok) (hb : b.Ok) (S : zk) : jf Try.prog O zI.id [mv a, mv b] S = some (.bool (kE a b), S) := by
 obtain ⟨T, hTe⟩ : ∃ T, T = (mv a :: mv b :: undef :: undef :: undef :: undef :: undef :: undef :: undef :: undef :: undef :: undef :: undef :: undef :: undef :: undef :: undef :: undef :: undef :: undef :: undef :: undef :: undef :: undef :: undef :: undef :: undef :: undef :: undef :: undef :: undef :: undef :: undef :: undef :: undef :: undef :: undef :: undef :: undef :: undef :: undef :: undef :: undef :: undef :: undef :: undef :: undef :: undef :: undef :: undef :: undef :: undef :: undef :: undef :: undef :: undef :: undef :: []) := ⟨_, rfl⟩
 have hr : zG Try.prog O false zI.code T zk.empty = zG Try.prog O false zI.code T zk.empty := rfl
 have g0 := QI a b
 have g1 := VD a b
 have c1 := fun S => zW.v ha.b hb.b S
 have e1 := fun S => (adB a.tx b.tx S).1
 have hc : [mv a, mv b].all (jB 16) = true := all2 (wR ha.b.okl.le) (wR hb.b.okl.le)
 by_cases h1 : a.kind = b.kind
 rotate_left
 ·
  rw [show kE a b = false from by simp [kE, h1]]
  conv at hr =>
   rhs
   rw [hTe]
   simp only [zI.code, zI.rs, zSs, reduceIte, Nat.reduceEqDiff, Int.reduceEq, Int.reduceLT, Int.reduceLE, qC, Z8, zy, jI g0, jI g1, decide_eq_false h1]
  rw [hTe] at hr
  exact zI.runs hr (.inr rfl) hc rfl
 by_cases h2 : a.frm = b.frm
 rotate_left
 ·
  rw [show kE a b = false from by simp [kE, h1, h2]]
  conv at hr =>
   rhs
   rw [hTe]
   simp only [zI.code, zI.rs, zSs, reduceIte, Nat.reduceEqDiff, Int.reduceEq, Int.reduceLT, Int.reduceLE, qC, Z8, zy, jI g0, jI g1, decide_eq_true h1, zC, jW g0, jW g1, decide_eq_false h2]
  rw [hTe] at hr
  exact zI.runs hr (.inr rfl) hc rfl
 by_cases h3 : a.index = b.index
 rotate_left
 ·
  rw [show kE a b = false from by simp [kE, h1, h2, h3]]
  conv at hr =>
   rhs
   rw [hTe]
   simp only [zI.code, zI.rs, zSs, reduceIte, Nat.reduceEqDiff, Int.reduceEq, Int.reduceLT, Int.reduceLE, qC, Z8, zy, jI g0, jI g1, decide_eq_true h1, zC, jW g0, jW g1, decide_eq_true h2, zF, jZ g0, jZ g1, decide_eq_false h3]
  rw [hTe] at hr
  exact zI.runs hr (.inr rfl) hc rfl
 by_cases h4 : a.view = b.view
 rotate_left
 ·
  rw [show kE a b = false from by simp [kE, h1, h2, h3, h4]]
  conv at hr =>
   rhs
   rw [hTe]
   simp only [zI.code, zI.rs, zSs, reduceIte, Nat.reduceEqDiff, Int.reduceEq, Int.reduceLT, Int.reduceLE, qC, Z8, zy, jI g0, jI g1, decide_eq_true h1, zC, jW g0, jW g1, decide_eq_true h2, zF, jZ g0, jZ g1, decide_eq_true h3, zH, wB g0, wB g1, decide_eq_false h4]
  rw [hTe] at hr
  exact zI.runs hr (.inr rfl) hc rfl
 by_cases h5 : a.value = b.value
 rotate_left
 ·
  rw [show kE a b = false from by simp [kE, h1, h2, h3, h4, h5]]
  conv at hr =>
   rhs
   rw [hTe]
   simp only [zI.code, zI.rs, zSs, reduceIte, Nat.reduceEqDiff, Int.reduceEq, Int.reduceLT, Int.reduceLE, qC, Z8, zy, jI g0, jI g1, decide_eq_true h1, zC, jW g0, jW g1, decide_eq_true h2, zF, jZ g0, jZ g1, decide_eq_true h3, zH, wB g0, wB g1, decide_eq_true h4, zB, jR g0, jR g1, decide_eq_false h5]
  rw [hTe] at hr
  exact zI.runs hr (.inr rfl) hc rfl
 by_cases h6 : a.prep = b.prep
 rotate_left
 ·
  rw [show kE a b = false from by simp [kE, h1, h2, h3, h4, h5, h6]]
  conv at hr =>
   rhs
   rw [hTe]
   simp only [zI.code, zI.rs, zSs, reduceIte, Nat.reduceEqDiff, Int.reduceEq, Int.reduceLT, Int.reduceLE, qC, Z8, zy, jI g0, jI g1, decide_eq_true h1, zC, jW g0, jW g1, decide_eq_true h2, zF, jZ g0, jZ g1, decide_eq_true h3, zH, wB g0, wB g1, decide_eq_true h4, zB, jR g0, jR g1, decide_eq_true h5, zJ, wM g0, wM g1, decide_eq_false h6]
  rw [hTe] at hr
  exact zI.runs hr (.inr rfl) hc rfl
 by_cases h7 : a.tx = b.tx
 rotate_left
 ·
  rw [show kE a b = false from by simp [kE, h7]]
  conv at hr =>
   rhs
   rw [hTe]
   simp only [zI.code, zI.rs, zSs, reduceIte, Nat.reduceEqDiff, Int.reduceEq, Int.reduceLT, Int.reduceLE, qC, Z8, zy, jI g0, jI g1, decide_eq_true h1, zC, jW g0, jW g1, decide_eq_true h2, zF, jZ g0, jZ g1, decide_eq_true h3, zH, wB g0, wB g1, decide_eq_true h4, zB, jR g0, jR g1, decide_eq_true h5, zJ, wM g0, wM g1, decide_eq_true h6, zK, zL, wS g0, wS g1, e1, decide_eq_false h7]
  rw [hTe] at hr
  exact zI.runs hr (.inr rfl) hc rfl
 rw [show kE a b = Z7 a.b b.b from by simp [kE, h1, h2, h3, h4, h5, h6, h7]]
 conv at hr =>
  rhs
  rw [hTe]
  simp only [zI.code, zI.rs, zSs, reduceIte, Nat.reduceEqDiff, Int.reduceEq, Int.reduceLT, Int.reduceLE, qC, Z8, zy, jI g0, jI g1, decide_eq_true h1, zC, jW g0, jW g1, decide_eq_true h2, zF, jZ g0, jZ g1, decide_eq_true h3, zH, wB g0, wB g1, decide_eq_true h4, zB, jR g0, jR g1, decide_eq_true h5, zJ, wM g0, wM g1, decide_eq_true h6, zK, zL, wS g0, wS g1, wX g0 ha.b.ne, wX g1 hb.b.ne, e1, decide_eq_true h7, c1]
 rw [hTe] at hr
 exact zI.runs hr (.inr rfl) hc rfl
end Go.Proofs.Ytbgcphbbchndkaa
namespace Go.Proofs.Ytbgcphbbchndkaa
open Go.Abs
def JO (m : wz) : Bool := decide (m.kind = 4) || decide (m.kind = 5)
def yS (m : wz) : Bool := decide (m.value = 0) || decide (0 < Jr m.value) || (JO m && decide (m.value = -1))
theorem jA.v {m : wz} (hm : m.Ok) (S : zk) : jf Try.prog O jA.id [mv m] S = some (.bool (yS m), S) := by
 obtain ⟨T, hTe⟩ : ∃ T, T = (mv m :: undef :: undef :: undef :: undef :: undef :: undef :: undef :: undef :: undef :: undef :: undef :: undef :: undef :: undef :: undef :: undef :: undef :: undef :: undef :: undef :: undef :: undef :: undef :: undef :: undef :: undef :: undef :: undef :: []) := ⟨_, rfl⟩
 have hr : zG Try.prog O false jA.code T zk.empty = zG Try.prog O false jA.code T zk.empty := rfl
 have g0 := ku m
 have c1 := fun S => jV.v m.value S
 have hc : [mv m].all (jB 16) = true := all1 (wR hm.b.okl.le)
 by_cases k4 : m.kind = 4
 ·
  have hvote : JO m = true := by simp [JO, k4]
  by_cases v0 : m.value = 0
  ·
   rw [show yS m = true from by simp [yS, v0]]
   conv at hr =>
    rhs
    rw [hTe]
    simp only [jA.code, jA.rs, zSs, reduceIte, Nat.reduceEqDiff, Int.reduceEq, Int.reduceLT, Int.reduceLE, qC, zy, zB, jI g0, jR g0, decide_eq_true k4, decide_eq_true v0]
   rw [hTe] at hr
   exact jA.runs hr (.inr rfl) hc rfl
  by_cases v1 : 0 < Jr m.value
  ·
   rw [show yS m = true from by simp [yS, v1]]
   conv at hr =>
    rhs
    rw [hTe]
    simp only [jA.code, jA.rs, zSs, reduceIte, Nat.reduceEqDiff, Int.reduceEq, Int.reduceLT, Int.reduceLE, qC, zy, zB, jI g0, jR g0, decide_eq_true k4, decide_eq_false v0, c1, decide_eq_true v1]
   rw [hTe] at hr
   exact jA.runs hr (.inr rfl) hc rfl
  by_cases v2 : m.value = -1
  ·
   rw [show yS m = true from by simp [yS, v2, hvote]]
   conv at hr =>
    rhs
    rw [hTe]
    simp only [jA.code, jA.rs, zSs, reduceIte, Nat.reduceEqDiff, Int.reduceEq, Int.reduceLT, Int.reduceLE, qC, zy, zB, jI g0, jR g0, decide_eq_true k4, decide_eq_false v0, c1, decide_eq_false v1, decide_eq_true v2]
   rw [hTe] at hr
   exact jA.runs hr (.inr rfl) hc rfl
  rw [show yS m = false from by simp [yS, v0, v1, v2]]
  conv at hr =>
   rhs
   rw [hTe]
   simp only [jA.code, jA.rs, zSs, reduceIte, Nat.reduceEqDiff, Int.reduceEq, Int.reduceLT, Int.reduceLE, qC, zy, zB, jI g0, jR g0, decide_eq_true k4, decide_eq_false v0, c1, decide_eq_false v1, decide_eq_false v2]
  rw [hTe] at hr
  exact jA.runs hr (.inr rfl) hc rfl
 by_cases k5 : m.kind = 5
 ·
  have hvote : JO m = true := by simp [JO, k5]
  by_cases v0 : m.value = 0
  ·
   rw [show yS m = true from by simp [yS, v0]]
   conv at hr =>
    rhs
    rw [hTe]
    simp only [jA.code, jA.rs, zSs, reduceIte, Nat.reduceEqDiff, Int.reduceEq, Int.reduceLT, Int.reduceLE, qC, zy, zB, jI g0, jR g0, decide_eq_false k4, decide_eq_true k5, decide_eq_true v0]
   rw [hTe] at hr
   exact jA.runs hr (.inr rfl) hc rfl
  by_cases v1 : 0 < Jr m.value
  ·
   rw [show yS m = true from by simp [yS, v1]]
   conv at hr =>
    rhs
    rw [hTe]
    simp only [jA.code, jA.rs, zSs, reduceIte, Nat.reduceEqDiff, Int.reduceEq, Int.reduceLT, Int.reduceLE, qC, zy, zB, jI g0, jR g0, decide_eq_false k4, decide_eq_true k5, decide_eq_false v0, c1, decide_eq_true v1]
   rw [hTe] at hr
   exact jA.runs hr (.inr rfl) hc rfl
  by_cases v2 : m.value = -1
  ·
   rw [show yS m = true from by simp [yS, v2, hvote]]
   conv at hr =>
    rhs
    rw [hTe]
    simp only [jA.code, jA.rs, zSs, reduceIte, Nat.reduceEqDiff, Int.reduceEq, Int.reduceLT, Int.reduceLE, qC, zy, zB, jI g0, jR g0, decide_eq_false k4, decide_eq_true k5, decide_eq_false v0, c1, decide_eq_false v1, decide_eq_true v2]
   rw [hTe] at hr
   exact jA.runs hr (.inr rfl) hc rfl
  rw [show yS m = false from by simp [yS, v0, v1, v2]]
  conv at hr =>
   rhs
   rw [hTe]
   simp only [jA.code, jA.rs, zSs, reduceIte, Nat.reduceEqDiff, Int.reduceEq, Int.reduceLT, Int.reduceLE, qC, zy, zB, jI g0, jR g0, decide_eq_false k4, decide_eq_true k5, decide_eq_false v0, c1, decide_eq_false v1, decide_eq_false v2]
  rw [hTe] at hr
  exact jA.runs hr (.inr rfl) hc rfl
 have hvote : JO m = false := by simp [JO, k4, k5]
 by_cases v0 : m.value = 0
 ·
  rw [show yS m = true from by simp [yS, v0]]
  conv at hr =>
   rhs
   rw [hTe]
   simp only [jA.code, jA.rs, zSs, reduceIte, Nat.reduceEqDiff, Int.reduceEq, Int.reduceLT, Int.reduceLE, qC, zy, zB, jI g0, jR g0, decide_eq_false k4, decide_eq_false k5, decide_eq_true v0]
  rw [hTe] at hr
  exact jA.runs hr (.inr rfl) hc rfl
 by_cases v1 : 0 < Jr m.value
 ·
  rw [show yS m = true from by simp [yS, v1]]
  conv at hr =>
   rhs
   rw [hTe]
   simp only [jA.code, jA.rs, zSs, reduceIte, Nat.reduceEqDiff, Int.reduceEq, Int.reduceLT, Int.reduceLE, qC, zy, zB, jI g0, jR g0, decide_eq_false k4, decide_eq_false k5, decide_eq_false v0, c1, decide_eq_true v1]
  rw [hTe] at hr
  exact jA.runs hr (.inr rfl) hc rfl
 rw [show yS m = false from by simp [yS, v0, v1, hvote]]
 conv at hr =>
  rhs
  rw [hTe]
  simp only [jA.code, jA.rs, zSs, reduceIte, Nat.reduceEqDiff, Int.reduceEq, Int.reduceLT, Int.reduceLE, qC, zy, zB, jI g0, jR g0, decide_eq_false k4, decide_eq_false k5, decide_eq_false v0, c1, decide_eq_false v1]
 rw [hTe] at hr
 exact jA.runs hr (.inr rfl) hc rfl
def wZ (m : wz) : wz :=
 if m.kind = 0 then ⟨m.kind, m.frm, 0, 0, 0, 0, m.tx, bk0⟩
 else if m.kind = 1 then ⟨m.kind, m.frm, 0, 0, 0, 0, ⟨0, 0⟩, m.b⟩
 else if m.kind = 2 then ⟨m.kind, m.frm, 0, 0, m.value, 0, ⟨0, 0⟩, bk0⟩
 else if m.kind = 3 then ⟨m.kind, m.frm, m.index, m.view, m.value, m.prep, ⟨0, 0⟩, bk0⟩
 else if m.kind = 4 then ⟨m.kind, m.frm, m.index, m.view, m.value, 0, ⟨0, 0⟩, bk0⟩
 else if m.kind = 5 then ⟨m.kind, m.frm, m.index, m.view, m.value, 0, ⟨0, 0⟩, bk0⟩
 else ⟨m.kind, m.frm, m.index, 0, m.value, 0, ⟨0, 0⟩, bk0⟩
abbrev y9 (S : zk) (q : Nat) (x : wz) : zk := (S.kills []).set q (.cells (fM x) (.own []) 0)
theorem wW (S : zk) (q : Nat) (x : wz) : (y9 S q x).get q = some (.cells (fM x) (.own []) 0) := by rw [zk.yj, if_pos rfl]
theorem wG {S : zk} {q k : Nat} {x : wz} (h : k ≠ q) : (y9 S q x).get k = S.get k := by rw [zk.yj, if_neg h]; rfl
theorem ZQ {S : zk} {q k o : Nat} {x y : wz} (h : S.get k = some (.cells (fM y) (.own []) 0)) (hk : k ≠ q) : kP (.pointer (some ⟨k, o, none⟩)) S (y9 S q x) = true := by
 have hl : (y9 S q x).log = q :: S.log := rfl
 simp only [kP, h, hl, List.length_cons, Nat.add_sub_cancel_left, List.take_succ_cons, List.take_zero]
 simp [hk]
section
variable {S : zk} {q : Nat} {x : wz}
theorem Vk (h : S.get q = some (.cells (fM x) (.own []) 0)) (y : wz) : yC Try.prog 30 (.pointer (some ⟨q, 0, none⟩)) (mv y) S = some (undef, y9 S q y) := by
 rw [qX (x := mv y) (n := 13) h Xo (by rw [qJ]; rfl) (by rw [qJ, List.toList_toArray]; exact ahN y) (by simp [fM]), qJ, List.toList_toArray]; rfl
theorem aeP (h : S.get q = some (.cells (fM x) (.own []) 0)) (v : Int) : yC Try.prog 3 (.pointer (some ⟨q, 0 + 2, none⟩)) (.int .i64 v) S = some (undef, y9 S q { x with index := v }) := by
 rw [qX (n := 1) h aaB rfl rfl (by simp [fM])]; rfl
theorem afI (h : S.get q = some (.cells (fM x) (.own []) 0)) (v : Int) : yC Try.prog 3 (.pointer (some ⟨q, 0 + 3, none⟩)) (.int .i64 v) S = some (undef, y9 S q { x with view := v }) := by
 rw [qX (n := 1) h aaB rfl rfl (by simp [fM])]; rfl
theorem abz (h : S.get q = some (.cells (fM x) (.own []) 0)) (v : Int) : yC Try.prog 3 (.pointer (some ⟨q, 0 + 4, none⟩)) (.int .i64 v) S = some (undef, y9 S q { x with value := v }) := by
 rw [qX (n := 1) h aaB rfl rfl (by simp [fM])]; rfl
theorem ahG (h : S.get q = some (.cells (fM x) (.own []) 0)) (v : Int) : yC Try.prog 3 (.pointer (some ⟨q, 0 + 5, none⟩)) (.int .i64 v) S = some (undef, y9 S q { x with prep := v }) := by
 rw [qX (n := 1) h aaB rfl rfl (by simp [fM])]; rfl
theorem ahJ (h : S.get q = some (.cells (fM x) (.own []) 0)) (t : TxV) : yC Try.prog 25 (.pointer (some ⟨q, 0 + 6, none⟩)) (tv t) S = some (undef, y9 S q { x with tx := t }) := by
 rw [qX (n := 2) h xZ rfl rfl (by simp [fM])]; rfl
theorem agT (h : S.get q = some (.cells (fM x) (.own []) 0)) (b : xW) : yC Try.prog 28 (.pointer (some ⟨q, 0 + 8, none⟩)) (bv b) S = some (undef, y9 S q { x with b := b }) := by
 rw [qX (x := bv b) (n := 5) h Za (by rw [qJ]; rfl) (by rw [qJ, List.toList_toArray]; exact ae5 b) (by simp [fM]), qJ, List.toList_toArray]; rfl
end
theorem zQ.v0 {m : wz} (hm : m.Ok) (hk : m.kind = 0) (S : zk) : jf Try.prog O zQ.id [mv m] S = some (mv (wZ m), S) := by
 obtain ⟨T, hTe⟩ : ∃ T, T = (mv m :: undef :: undef :: undef :: undef :: undef :: undef :: undef :: undef :: undef :: undef :: undef :: undef :: undef :: undef :: undef :: undef :: undef :: undef :: undef :: undef :: undef :: undef :: undef :: undef :: undef :: undef :: undef :: undef :: undef :: undef :: undef :: undef :: undef :: undef :: undef :: undef :: undef :: undef :: undef :: undef :: undef :: undef :: undef :: undef :: undef :: []) := ⟨_, rfl⟩
 have hr : zG Try.prog O false zQ.code T zk.empty = zG Try.prog O false zQ.code T zk.empty := rfl
 obtain ⟨A1, hA1⟩ : ∃ A, A = (Y3 m).push (.cells (fM m0) (.own []) 0) := ⟨_, rfl⟩
 have a1 : yM Try.prog 30 (Y3 m) = some (.pointer (some ⟨1, 0, none⟩), A1) := by rw [hA1]; exact X4 _
 have p0 : A1.get 0 = some (.cells (fM m) (.own []) 0) := by rw [hA1]; kernel_rfl
 obtain ⟨A2, hA2⟩ : ∃ A, A = A1.push (.cells (fM m0) (.own []) 0) := ⟨_, rfl⟩
 have a2 : yM Try.prog 30 A1 = some (.pointer (some ⟨2, 0, none⟩), A2) := by rw [hA2, hA1]; exact X4 _
 have q0 : A2.get 0 = some (.cells (fM m) (.own []) 0) := by rw [hA2, hA1]; kernel_rfl
 have q1 : A2.get 1 = some (.cells (fM m0) (.own []) 0) := by rw [hA2, hA1]; kernel_rfl
 have q2 : A2.get 2 = some (.cells (fM m0) (.own []) 0) := by rw [hA2, hA1]; kernel_rfl
 have s0 : yC Try.prog 30 (.pointer (some ⟨2, 0, none⟩)) (.agg [Value.int .i64 m.kind, .int .i64 m.frm, .int .i64 0, .int .i64 0, .int .i64 0, .int .i64 0, .int .i64 0, .int .i64 0, .int .i64 0, .int .i64 0, .int .i64 0, .int .i64 0, .slice none 0 0].toArray) A2 = some (undef, y9 A2 2 (⟨m.kind, m.frm, 0, 0, 0, 0, ⟨0, 0⟩, bk0⟩ : wz)) := Vk q2 (⟨m.kind, m.frm, 0, 0, 0, 0, ⟨0, 0⟩, bk0⟩ : wz)
 have b0 : (y9 A2 2 (⟨m.kind, m.frm, 0, 0, 0, 0, ⟨0, 0⟩, bk0⟩ : wz)).get 0 = some (.cells (fM m) (.own []) 0) := (wG (by decide)).trans q0
 have b1 : (y9 A2 2 (⟨m.kind, m.frm, 0, 0, 0, 0, ⟨0, 0⟩, bk0⟩ : wz)).get 1 = some (.cells (fM m0) (.own []) 0) := (wG (by decide)).trans q1
 have b2 := wW A2 2 (⟨m.kind, m.frm, 0, 0, 0, 0, ⟨0, 0⟩, bk0⟩ : wz)
 generalize hB0 : y9 A2 2 (⟨m.kind, m.frm, 0, 0, 0, 0, ⟨0, 0⟩, bk0⟩ : wz) = B0 at s0 b0 b1 b2
 have s1 := ahJ b2 m.tx
 have c1_0 : (y9 B0 2 (⟨m.kind, m.frm, 0, 0, 0, 0, m.tx, bk0⟩ : wz)).get 0 = some (.cells (fM m) (.own []) 0) := (wG (by decide)).trans b0
 have c1_1 : (y9 B0 2 (⟨m.kind, m.frm, 0, 0, 0, 0, m.tx, bk0⟩ : wz)).get 1 = some (.cells (fM m0) (.own []) 0) := (wG (by decide)).trans b1
 have c1_2 := wW B0 2 (⟨m.kind, m.frm, 0, 0, 0, 0, m.tx, bk0⟩ : wz)
 dsimp only at s1
 generalize hB1 : y9 B0 2 (⟨m.kind, m.frm, 0, 0, 0, 0, m.tx, bk0⟩ : wz) = B1 at s1  c1_0 c1_1 c1_2
 have eb : (⟨m.kind, m.frm, 0, 0, 0, 0, m.tx, bk0⟩ : wz) = wZ m := by simp [wZ, hk]
 rw [eb] at c1_2
 have hbk : (wZ m).b.k ≠ 2 := by simp [wZ, hk]
 have ld := xC c1_2 hbk
 have sl := Vk c1_1 (wZ m)
 have fin := xC (wW B1 1 (wZ m)) hbk
 have hcb : (wZ m).b.k ≤ 2 := by simp [wZ, hk]
 conv at hr =>
  rhs
  rw [hTe]
  simp only [zQ.code, zQ.rs, zSs, reduceIte, Nat.reduceEqDiff, Int.reduceEq, Int.reduceLT, Int.reduceLE, qC, a1, a2, zy, zC, jI p0, jW p0, qg (y0 := .int .i64 m.kind) (y1 := .int .i64 m.frm) rfl rfl, s0, jI b0, zK, s1, wS b0, decide_eq_true hk, Zd, ld, sl]
 rw [hTe] at hr
 exact zQ.runs hr (.inr rfl) fin (all1 (wR hm.b.okl.le)) (wR hcb)
theorem zQ.v1 {m : wz} (hm : m.Ok) (hk : m.kind = 1) (S : zk) : jf Try.prog O zQ.id [mv m] S = some (mv (wZ m), S) := by
 obtain ⟨T, hTe⟩ : ∃ T, T = (mv m :: undef :: undef :: undef :: undef :: undef :: undef :: undef :: undef :: undef :: undef :: undef :: undef :: undef :: undef :: undef :: undef :: undef :: undef :: undef :: undef :: undef :: undef :: undef :: undef :: undef :: undef :: undef :: undef :: undef :: undef :: undef :: undef :: undef :: undef :: undef :: undef :: undef :: undef :: undef :: undef :: undef :: undef :: undef :: undef :: undef :: []) := ⟨_, rfl⟩
 have hr : zG Try.prog O false zQ.code T zk.empty = zG Try.prog O false zQ.code T zk.empty := rfl
 obtain ⟨A1, hA1⟩ : ∃ A, A = (Y3 m).push (.cells (fM m0) (.own []) 0) := ⟨_, rfl⟩
 have a1 : yM Try.prog 30 (Y3 m) = some (.pointer (some ⟨1, 0, none⟩), A1) := by rw [hA1]; exact X4 _
 have p0 : A1.get 0 = some (.cells (fM m) (.own []) 0) := by rw [hA1]; kernel_rfl
 obtain ⟨A2, hA2⟩ : ∃ A, A = A1.push (.cells (fM m0) (.own []) 0) := ⟨_, rfl⟩
 have a2 : yM Try.prog 30 A1 = some (.pointer (some ⟨2, 0, none⟩), A2) := by rw [hA2, hA1]; exact X4 _
 have q0 : A2.get 0 = some (.cells (fM m) (.own []) 0) := by rw [hA2, hA1]; kernel_rfl
 have q1 : A2.get 1 = some (.cells (fM m0) (.own []) 0) := by rw [hA2, hA1]; kernel_rfl
 have q2 : A2.get 2 = some (.cells (fM m0) (.own []) 0) := by rw [hA2, hA1]; kernel_rfl
 have s0 : yC Try.prog 30 (.pointer (some ⟨2, 0, none⟩)) (.agg [Value.int .i64 m.kind, .int .i64 m.frm, .int .i64 0, .int .i64 0, .int .i64 0, .int .i64 0, .int .i64 0, .int .i64 0, .int .i64 0, .int .i64 0, .int .i64 0, .int .i64 0, .slice none 0 0].toArray) A2 = some (undef, y9 A2 2 (⟨m.kind, m.frm, 0, 0, 0, 0, ⟨0, 0⟩, bk0⟩ : wz)) := Vk q2 (⟨m.kind, m.frm, 0, 0, 0, 0, ⟨0, 0⟩, bk0⟩ : wz)
 have b0 : (y9 A2 2 (⟨m.kind, m.frm, 0, 0, 0, 0, ⟨0, 0⟩, bk0⟩ : wz)).get 0 = some (.cells (fM m) (.own []) 0) := (wG (by decide)).trans q0
 have b1 : (y9 A2 2 (⟨m.kind, m.frm, 0, 0, 0, 0, ⟨0, 0⟩, bk0⟩ : wz)).get 1 = some (.cells (fM m0) (.own []) 0) := (wG (by decide)).trans q1
 have b2 := wW A2 2 (⟨m.kind, m.frm, 0, 0, 0, 0, ⟨0, 0⟩, bk0⟩ : wz)
 generalize hB0 : y9 A2 2 (⟨m.kind, m.frm, 0, 0, 0, 0, ⟨0, 0⟩, bk0⟩ : wz) = B0 at s0 b0 b1 b2
 have s1 := agT b2 m.b
 have c1_0 : (y9 B0 2 (⟨m.kind, m.frm, 0, 0, 0, 0, ⟨0, 0⟩, m.b⟩ : wz)).get 0 = some (.cells (fM m) (.own []) 0) := (wG (by decide)).trans b0
 have c1_1 : (y9 B0 2 (⟨m.kind, m.frm, 0, 0, 0, 0, ⟨0, 0⟩, m.b⟩ : wz)).get 1 = some (.cells (fM m0) (.own []) 0) := (wG (by decide)).trans b1
 have c1_2 := wW B0 2 (⟨m.kind, m.frm, 0, 0, 0, 0, ⟨0, 0⟩, m.b⟩ : wz)
 dsimp only at s1
 generalize hB1 : y9 B0 2 (⟨m.kind, m.frm, 0, 0, 0, 0, ⟨0, 0⟩, m.b⟩ : wz) = B1 at s1  c1_0 c1_1 c1_2
 have eb : (⟨m.kind, m.frm, 0, 0, 0, 0, ⟨0, 0⟩, m.b⟩ : wz) = wZ m := by simp [wZ, hk]
 rw [eb] at c1_2
 have hbk : (wZ m).b.k ≠ 2 := by simp [wZ, hk, hm.b.ne]
 have ld := xC c1_2 hbk
 have sl := Vk c1_1 (wZ m)
 have fin := xC (wW B1 1 (wZ m)) hbk
 have hcb : (wZ m).b.k ≤ 2 := by simp [wZ, hk, hm.b.okl.le]
 conv at hr =>
  rhs
  rw [hTe]
  simp only [zQ.code, zQ.rs, zSs, reduceIte, Nat.reduceEqDiff, Int.reduceEq, Int.reduceLT, Int.reduceLE, qC, a1, a2, zy, zC, jI p0, jW p0, qg (y0 := .int .i64 m.kind) (y1 := .int .i64 m.frm) rfl rfl, s0, jI b0, zL, s1, wX b0 hm.b.ne, decide_eq_false (show ¬ m.kind = 0 by omega), decide_eq_true hk, Zd, ld, sl]
 rw [hTe] at hr
 exact zQ.runs hr (.inr rfl) fin (all1 (wR hm.b.okl.le)) (wR hcb)
theorem zQ.v2 {m : wz} (hm : m.Ok) (hk : m.kind = 2) (S : zk) : jf Try.prog O zQ.id [mv m] S = some (mv (wZ m), S) := by
 obtain ⟨T, hTe⟩ : ∃ T, T = (mv m :: undef :: undef :: undef :: undef :: undef :: undef :: undef :: undef :: undef :: undef :: undef :: undef :: undef :: undef :: undef :: undef :: undef :: undef :: undef :: undef :: undef :: undef :: undef :: undef :: undef :: undef :: undef :: undef :: undef :: undef :: undef :: undef :: undef :: undef :: undef :: undef :: undef :: undef :: undef :: undef :: undef :: undef :: undef :: undef :: undef :: []) := ⟨_, rfl⟩
 have hr : zG Try.prog O false zQ.code T zk.empty = zG Try.prog O false zQ.code T zk.empty := rfl
 obtain ⟨A1, hA1⟩ : ∃ A, A = (Y3 m).push (.cells (fM m0) (.own []) 0) := ⟨_, rfl⟩
 have a1 : yM Try.prog 30 (Y3 m) = some (.pointer (some ⟨1, 0, none⟩), A1) := by rw [hA1]; exact X4 _
 have p0 : A1.get 0 = some (.cells (fM m) (.own []) 0) := by rw [hA1]; kernel_rfl
 obtain ⟨A2, hA2⟩ : ∃ A, A = A1.push (.cells (fM m0) (.own []) 0) := ⟨_, rfl⟩
 have a2 : yM Try.prog 30 A1 = some (.pointer (some ⟨2, 0, none⟩), A2) := by rw [hA2, hA1]; exact X4 _
 have q0 : A2.get 0 = some (.cells (fM m) (.own []) 0) := by rw [hA2, hA1]; kernel_rfl
 have q1 : A2.get 1 = some (.cells (fM m0) (.own []) 0) := by rw [hA2, hA1]; kernel_rfl
 have q2 : A2.get 2 = some (.cells (fM m0) (.own []) 0) := by rw [hA2, hA1]; kernel_rfl
 have s0 : yC Try.prog 30 (.pointer (some ⟨2, 0, none⟩)) (.agg [Value.int .i64 m.kind, .int .i64 m.frm, .int .i64 0, .int .i64 0, .int .i64 0, .int .i64 0, .int .i64 0, .int .i64 0, .int .i64 0, .int .i64 0, .int .i64 0, .int .i64 0, .slice none 0 0].toArray) A2 = some (undef, y9 A2 2 (⟨m.kind, m.frm, 0, 0, 0, 0, ⟨0, 0⟩, bk0⟩ : wz)) := Vk q2 (⟨m.kind, m.frm, 0, 0, 0, 0, ⟨0, 0⟩, bk0⟩ : wz)
 have b0 : (y9 A2 2 (⟨m.kind, m.frm, 0, 0, 0, 0, ⟨0, 0⟩, bk0⟩ : wz)).get 0 = some (.cells (fM m) (.own []) 0) := (wG (by decide)).trans q0
 have b1 : (y9 A2 2 (⟨m.kind, m.frm, 0, 0, 0, 0, ⟨0, 0⟩, bk0⟩ : wz)).get 1 = some (.cells (fM m0) (.own []) 0) := (wG (by decide)).trans q1
 have b2 := wW A2 2 (⟨m.kind, m.frm, 0, 0, 0, 0, ⟨0, 0⟩, bk0⟩ : wz)
 generalize hB0 : y9 A2 2 (⟨m.kind, m.frm, 0, 0, 0, 0, ⟨0, 0⟩, bk0⟩ : wz) = B0 at s0 b0 b1 b2
 have s1 := abz b2 m.value
 have c1_0 : (y9 B0 2 (⟨m.kind, m.frm, 0, 0, m.value, 0, ⟨0, 0⟩, bk0⟩ : wz)).get 0 = some (.cells (fM m) (.own []) 0) := (wG (by decide)).trans b0
 have c1_1 : (y9 B0 2 (⟨m.kind, m.frm, 0, 0, m.value, 0, ⟨0, 0⟩, bk0⟩ : wz)).get 1 = some (.cells (fM m0) (.own []) 0) := (wG (by decide)).trans b1
 have c1_2 := wW B0 2 (⟨m.kind, m.frm, 0, 0, m.value, 0, ⟨0, 0⟩, bk0⟩ : wz)
 dsimp only at s1
 generalize hB1 : y9 B0 2 (⟨m.kind, m.frm, 0, 0, m.value, 0, ⟨0, 0⟩, bk0⟩ : wz) = B1 at s1  c1_0 c1_1 c1_2
 have eb : (⟨m.kind, m.frm, 0, 0, m.value, 0, ⟨0, 0⟩, bk0⟩ : wz) = wZ m := by simp [wZ, hk]
 rw [eb] at c1_2
 have hbk : (wZ m).b.k ≠ 2 := by simp [wZ, hk]
 have ld := xC c1_2 hbk
 have sl := Vk c1_1 (wZ m)
 have fin := xC (wW B1 1 (wZ m)) hbk
 have hcb : (wZ m).b.k ≤ 2 := by simp [wZ, hk]
 conv at hr =>
  rhs
  rw [hTe]
  simp only [zQ.code, zQ.rs, zSs, reduceIte, Nat.reduceEqDiff, Int.reduceEq, Int.reduceLT, Int.reduceLE, qC, a1, a2, zy, zC, jI p0, jW p0, qg (y0 := .int .i64 m.kind) (y1 := .int .i64 m.frm) rfl rfl, s0, jI b0, zB, s1, jR b0, decide_eq_false (show ¬ m.kind = 0 by omega), decide_eq_false (show ¬ m.kind = 1 by omega), decide_eq_true hk, Zd, ld, sl]
 rw [hTe] at hr
 exact zQ.runs hr (.inr rfl) fin (all1 (wR hm.b.okl.le)) (wR hcb)
theorem zQ.v3 {m : wz} (hm : m.Ok) (hk : m.kind = 3) (S : zk) : jf Try.prog O zQ.id [mv m] S = some (mv (wZ m), S) := by
 obtain ⟨T, hTe⟩ : ∃ T, T = (mv m :: undef :: undef :: undef :: undef :: undef :: undef :: undef :: undef :: undef :: undef :: undef :: undef :: undef :: undef :: undef :: undef :: undef :: undef :: undef :: undef :: undef :: undef :: undef :: undef :: undef :: undef :: undef :: undef :: undef :: undef :: undef :: undef :: undef :: undef :: undef :: undef :: undef :: undef :: undef :: undef :: undef :: undef :: undef :: undef :: undef :: []) := ⟨_, rfl⟩
 have hr : zG Try.prog O false zQ.code T zk.empty = zG Try.prog O false zQ.code T zk.empty := rfl
 obtain ⟨A1, hA1⟩ : ∃ A, A = (Y3 m).push (.cells (fM m0) (.own []) 0) := ⟨_, rfl⟩
 have a1 : yM Try.prog 30 (Y3 m) = some (.pointer (some ⟨1, 0, none⟩), A1) := by rw [hA1]; exact X4 _
 have p0 : A1.get 0 = some (.cells (fM m) (.own []) 0) := by rw [hA1]; kernel_rfl
 obtain ⟨A2, hA2⟩ : ∃ A, A = A1.push (.cells (fM m0) (.own []) 0) := ⟨_, rfl⟩
 have a2 : yM Try.prog 30 A1 = some (.pointer (some ⟨2, 0, none⟩), A2) := by rw [hA2, hA1]; exact X4 _
 have q0 : A2.get 0 = some (.cells (fM m) (.own []) 0) := by rw [hA2, hA1]; kernel_rfl
 have q1 : A2.get 1 = some (.cells (fM m0) (.own []) 0) := by rw [hA2, hA1]; kernel_rfl
 have q2 : A2.get 2 = some (.cells (fM m0) (.own []) 0) := by rw [hA2, hA1]; kernel_rfl
 have s0 : yC Try.prog 30 (.pointer (some ⟨2, 0, none⟩)) (.agg [Value.int .i64 m.kind, .int .i64 m.frm, .int .i64 0, .int .i64 0, .int .i64 0, .int .i64 0, .int .i64 0, .int .i64 0, .int .i64 0, .int .i64 0, .int .i64 0, .int .i64 0, .slice none 0 0].toArray) A2 = some (undef, y9 A2 2 (⟨m.kind, m.frm, 0, 0, 0, 0, ⟨0, 0⟩, bk0⟩ : wz)) := Vk q2 (⟨m.kind, m.frm, 0, 0, 0, 0, ⟨0, 0⟩, bk0⟩ : wz)
 have b0 : (y9 A2 2 (⟨m.kind, m.frm, 0, 0, 0, 0, ⟨0, 0⟩, bk0⟩ : wz)).get 0 = some (.cells (fM m) (.own []) 0) := (wG (by decide)).trans q0
 have b1 : (y9 A2 2 (⟨m.kind, m.frm, 0, 0, 0, 0, ⟨0, 0⟩, bk0⟩ : wz)).get 1 = some (.cells (fM m0) (.own []) 0) := (wG (by decide)).trans q1
 have b2 := wW A2 2 (⟨m.kind, m.frm, 0, 0, 0, 0, ⟨0, 0⟩, bk0⟩ : wz)
 generalize hB0 : y9 A2 2 (⟨m.kind, m.frm, 0, 0, 0, 0, ⟨0, 0⟩, bk0⟩ : wz) = B0 at s0 b0 b1 b2
 have s1 := ahG b2 m.prep
 have c1_0 : (y9 B0 2 (⟨m.kind, m.frm, 0, 0, 0, m.prep, ⟨0, 0⟩, bk0⟩ : wz)).get 0 = some (.cells (fM m) (.own []) 0) := (wG (by decide)).trans b0
 have c1_1 : (y9 B0 2 (⟨m.kind, m.frm, 0, 0, 0, m.prep, ⟨0, 0⟩, bk0⟩ : wz)).get 1 = some (.cells (fM m0) (.own []) 0) := (wG (by decide)).trans b1
 have c1_2 := wW B0 2 (⟨m.kind, m.frm, 0, 0, 0, m.prep, ⟨0, 0⟩, bk0⟩ : wz)
 dsimp only at s1
 generalize hB1 : y9 B0 2 (⟨m.kind, m.frm, 0, 0, 0, m.prep, ⟨0, 0⟩, bk0⟩ : wz) = B1 at s1  c1_0 c1_1 c1_2
 have s2 := afI c1_2 m.view
 have c2_0 : (y9 B1 2 (⟨m.kind, m.frm, 0, m.view, 0, m.prep, ⟨0, 0⟩, bk0⟩ : wz)).get 0 = some (.cells (fM m) (.own []) 0) := (wG (by decide)).trans c1_0
 have c2_1 : (y9 B1 2 (⟨m.kind, m.frm, 0, m.view, 0, m.prep, ⟨0, 0⟩, bk0⟩ : wz)).get 1 = some (.cells (fM m0) (.own []) 0) := (wG (by decide)).trans c1_1
 have c2_2 := wW B1 2 (⟨m.kind, m.frm, 0, m.view, 0, m.prep, ⟨0, 0⟩, bk0⟩ : wz)
 dsimp only at s2
 generalize hB2 : y9 B1 2 (⟨m.kind, m.frm, 0, m.view, 0, m.prep, ⟨0, 0⟩, bk0⟩ : wz) = B2 at s2  c2_0 c2_1 c2_2
 have s3 := aeP c2_2 m.index
 have sq := ZQ (o := 0 + 4) (x := (⟨m.kind, m.frm, m.index, m.view, 0, m.prep, ⟨0, 0⟩, bk0⟩ : wz)) c2_0 (show (0 : Nat) ≠ 2 by decide)
 have c3_0 : (y9 B2 2 (⟨m.kind, m.frm, m.index, m.view, 0, m.prep, ⟨0, 0⟩, bk0⟩ : wz)).get 0 = some (.cells (fM m) (.own []) 0) := (wG (by decide)).trans c2_0
 have c3_1 : (y9 B2 2 (⟨m.kind, m.frm, m.index, m.view, 0, m.prep, ⟨0, 0⟩, bk0⟩ : wz)).get 1 = some (.cells (fM m0) (.own []) 0) := (wG (by decide)).trans c2_1
 have c3_2 := wW B2 2 (⟨m.kind, m.frm, m.index, m.view, 0, m.prep, ⟨0, 0⟩, bk0⟩ : wz)
 dsimp only at s3
 generalize hB3 : y9 B2 2 (⟨m.kind, m.frm, m.index, m.view, 0, m.prep, ⟨0, 0⟩, bk0⟩ : wz) = B3 at s3 sq c3_0 c3_1 c3_2
 have s4 := abz c3_2 m.value
 have c4_0 : (y9 B3 2 (⟨m.kind, m.frm, m.index, m.view, m.value, m.prep, ⟨0, 0⟩, bk0⟩ : wz)).get 0 = some (.cells (fM m) (.own []) 0) := (wG (by decide)).trans c3_0
 have c4_1 : (y9 B3 2 (⟨m.kind, m.frm, m.index, m.view, m.value, m.prep, ⟨0, 0⟩, bk0⟩ : wz)).get 1 = some (.cells (fM m0) (.own []) 0) := (wG (by decide)).trans c3_1
 have c4_2 := wW B3 2 (⟨m.kind, m.frm, m.index, m.view, m.value, m.prep, ⟨0, 0⟩, bk0⟩ : wz)
 dsimp only at s4
 generalize hB4 : y9 B3 2 (⟨m.kind, m.frm, m.index, m.view, m.value, m.prep, ⟨0, 0⟩, bk0⟩ : wz) = B4 at s4  c4_0 c4_1 c4_2
 have eb : (⟨m.kind, m.frm, m.index, m.view, m.value, m.prep, ⟨0, 0⟩, bk0⟩ : wz) = wZ m := by simp [wZ, hk]
 rw [eb] at c4_2
 have hbk : (wZ m).b.k ≠ 2 := by simp [wZ, hk]
 have ld := xC c4_2 hbk
 have sl := Vk c4_1 (wZ m)
 have fin := xC (wW B4 1 (wZ m)) hbk
 have hcb : (wZ m).b.k ≤ 2 := by simp [wZ, hk]
 conv at hr =>
  rhs
  rw [hTe]
  simp only [zQ.code, zQ.rs, zSs, reduceIte, Nat.reduceEqDiff, Int.reduceEq, Int.reduceLT, Int.reduceLE, qC, a1, a2, zy, zC, jI p0, jW p0, qg (y0 := .int .i64 m.kind) (y1 := .int .i64 m.frm) rfl rfl, s0, jI b0, zJ, s1, wM b0, zH, s2, wB b0, wB c1_0, zF, s3, sq, jZ c1_0, jZ c2_0, jR c2_0, zB, zB, s4, jR c2_0, jR c3_0, decide_eq_false (show ¬ m.kind = 0 by omega), decide_eq_false (show ¬ m.kind = 1 by omega), decide_eq_false (show ¬ m.kind = 2 by omega), decide_eq_true hk, Zd, ld, sl]
 rw [hTe] at hr
 exact zQ.runs hr (.inr rfl) fin (all1 (wR hm.b.okl.le)) (wR hcb)
theorem zQ.v4 {m : wz} (hm : m.Ok) (hk : m.kind = 4) (S : zk) : jf Try.prog O zQ.id [mv m] S = some (mv (wZ m), S) := by
 obtain ⟨T, hTe⟩ : ∃ T, T = (mv m :: undef :: undef :: undef :: undef :: undef :: undef :: undef :: undef :: undef :: undef :: undef :: undef :: undef :: undef :: undef :: undef :: undef :: undef :: undef :: undef :: undef :: undef :: undef :: undef :: undef :: undef :: undef :: undef :: undef :: undef :: undef :: undef :: undef :: undef :: undef :: undef :: undef :: undef :: undef :: undef :: undef :: undef :: undef :: undef :: undef :: []) := ⟨_, rfl⟩
 have hr : zG Try.prog O false zQ.code T zk.empty = zG Try.prog O false zQ.code T zk.empty := rfl
 obtain ⟨A1, hA1⟩ : ∃ A, A = (Y3 m).push (.cells (fM m0) (.own []) 0) := ⟨_, rfl⟩
 have a1 : yM Try.prog 30 (Y3 m) = some (.pointer (some ⟨1, 0, none⟩), A1) := by rw [hA1]; exact X4 _
 have p0 : A1.get 0 = some (.cells (fM m) (.own []) 0) := by rw [hA1]; kernel_rfl
 obtain ⟨A2, hA2⟩ : ∃ A, A = A1.push (.cells (fM m0) (.own []) 0) := ⟨_, rfl⟩
 have a2 : yM Try.prog 30 A1 = some (.pointer (some ⟨2, 0, none⟩), A2) := by rw [hA2, hA1]; exact X4 _
 have q0 : A2.get 0 = some (.cells (fM m) (.own []) 0) := by rw [hA2, hA1]; kernel_rfl
 have q1 : A2.get 1 = some (.cells (fM m0) (.own []) 0) := by rw [hA2, hA1]; kernel_rfl
 have q2 : A2.get 2 = some (.cells (fM m0) (.own []) 0) := by rw [hA2, hA1]; kernel_rfl
 have s0 : yC Try.prog 30 (.pointer (some ⟨2, 0, none⟩)) (.agg [Value.int .i64 m.kind, .int .i64 m.frm, .int .i64 0, .int .i64 0, .int .i64 0, .int .i64 0, .int .i64 0, .int .i64 0, .int .i64 0, .int .i64 0, .int .i64 0, .int .i64 0, .slice none 0 0].toArray) A2 = some (undef, y9 A2 2 (⟨m.kind, m.frm, 0, 0, 0, 0, ⟨0, 0⟩, bk0⟩ : wz)) := Vk q2 (⟨m.kind, m.frm, 0, 0, 0, 0, ⟨0, 0⟩, bk0⟩ : wz)
 have b0 : (y9 A2 2 (⟨m.kind, m.frm, 0, 0, 0, 0, ⟨0, 0⟩, bk0⟩ : wz)).get 0 = some (.cells (fM m) (.own []) 0) := (wG (by decide)).trans q0
 have b1 : (y9 A2 2 (⟨m.kind, m.frm, 0, 0, 0, 0, ⟨0, 0⟩, bk0⟩ : wz)).get 1 = some (.cells (fM m0) (.own []) 0) := (wG (by decide)).trans q1
 have b2 := wW A2 2 (⟨m.kind, m.frm, 0, 0, 0, 0, ⟨0, 0⟩, bk0⟩ : wz)
 generalize hB0 : y9 A2 2 (⟨m.kind, m.frm, 0, 0, 0, 0, ⟨0, 0⟩, bk0⟩ : wz) = B0 at s0 b0 b1 b2
 have s1 := afI b2 m.view
 have c1_0 : (y9 B0 2 (⟨m.kind, m.frm, 0, m.view, 0, 0, ⟨0, 0⟩, bk0⟩ : wz)).get 0 = some (.cells (fM m) (.own []) 0) := (wG (by decide)).trans b0
 have c1_1 : (y9 B0 2 (⟨m.kind, m.frm, 0, m.view, 0, 0, ⟨0, 0⟩, bk0⟩ : wz)).get 1 = some (.cells (fM m0) (.own []) 0) := (wG (by decide)).trans b1
 have c1_2 := wW B0 2 (⟨m.kind, m.frm, 0, m.view, 0, 0, ⟨0, 0⟩, bk0⟩ : wz)
 dsimp only at s1
 generalize hB1 : y9 B0 2 (⟨m.kind, m.frm, 0, m.view, 0, 0, ⟨0, 0⟩, bk0⟩ : wz) = B1 at s1  c1_0 c1_1 c1_2
 have s2 := aeP c1_2 m.index
 have sq := ZQ (o := 0 + 4) (x := (⟨m.kind, m.frm, m.index, m.view, 0, 0, ⟨0, 0⟩, bk0⟩ : wz)) c1_0 (show (0 : Nat) ≠ 2 by decide)
 have c2_0 : (y9 B1 2 (⟨m.kind, m.frm, m.index, m.view, 0, 0, ⟨0, 0⟩, bk0⟩ : wz)).get 0 = some (.cells (fM m) (.own []) 0) := (wG (by decide)).trans c1_0
 have c2_1 : (y9 B1 2 (⟨m.kind, m.frm, m.index, m.view, 0, 0, ⟨0, 0⟩, bk0⟩ : wz)).get 1 = some (.cells (fM m0) (.own []) 0) := (wG (by decide)).trans c1_1
 have c2_2 := wW B1 2 (⟨m.kind, m.frm, m.index, m.view, 0, 0, ⟨0, 0⟩, bk0⟩ : wz)
 dsimp only at s2
 generalize hB2 : y9 B1 2 (⟨m.kind, m.frm, m.index, m.view, 0, 0, ⟨0, 0⟩, bk0⟩ : wz) = B2 at s2 sq c2_0 c2_1 c2_2
 have s3 := abz c2_2 m.value
 have c3_0 : (y9 B2 2 (⟨m.kind, m.frm, m.index, m.view, m.value, 0, ⟨0, 0⟩, bk0⟩ : wz)).get 0 = some (.cells (fM m) (.own []) 0) := (wG (by decide)).trans c2_0
 have c3_1 : (y9 B2 2 (⟨m.kind, m.frm, m.index, m.view, m.value, 0, ⟨0, 0⟩, bk0⟩ : wz)).get 1 = some (.cells (fM m0) (.own []) 0) := (wG (by decide)).trans c2_1
 have c3_2 := wW B2 2 (⟨m.kind, m.frm, m.index, m.view, m.value, 0, ⟨0, 0⟩, bk0⟩ : wz)
 dsimp only at s3
 generalize hB3 : y9 B2 2 (⟨m.kind, m.frm, m.index, m.view, m.value, 0, ⟨0, 0⟩, bk0⟩ : wz) = B3 at s3  c3_0 c3_1 c3_2
 have eb : (⟨m.kind, m.frm, m.index, m.view, m.value, 0, ⟨0, 0⟩, bk0⟩ : wz) = wZ m := by simp [wZ, hk]
 rw [eb] at c3_2
 have hbk : (wZ m).b.k ≠ 2 := by simp [wZ, hk]
 have ld := xC c3_2 hbk
 have sl := Vk c3_1 (wZ m)
 have fin := xC (wW B3 1 (wZ m)) hbk
 have hcb : (wZ m).b.k ≤ 2 := by simp [wZ, hk]
 conv at hr =>
  rhs
  rw [hTe]
  simp only [zQ.code, zQ.rs, zSs, reduceIte, Nat.reduceEqDiff, Int.reduceEq, Int.reduceLT, Int.reduceLE, qC, a1, a2, zy, zC, jI p0, jW p0, qg (y0 := .int .i64 m.kind) (y1 := .int .i64 m.frm) rfl rfl, s0, jI b0, zH, s1, wB b0, zF, s2, sq, jZ b0, jZ c1_0, jR c1_0, zB, zB, s3, jR c1_0, jR c2_0, decide_eq_false (show ¬ m.kind = 0 by omega), decide_eq_false (show ¬ m.kind = 1 by omega), decide_eq_false (show ¬ m.kind = 2 by omega), decide_eq_false (show ¬ m.kind = 3 by omega), decide_eq_true hk, decide_eq_false (show ¬ m.kind = 5 by omega), decide_eq_false (show ¬ m.kind = 6 by omega), Zd, ld, sl]
 rw [hTe] at hr
 exact zQ.runs hr (.inr rfl) fin (all1 (wR hm.b.okl.le)) (wR hcb)
theorem zQ.v5 {m : wz} (hm : m.Ok) (hk : m.kind = 5) (S : zk) : jf Try.prog O zQ.id [mv m] S = some (mv (wZ m), S) := by
 obtain ⟨T, hTe⟩ : ∃ T, T = (mv m :: undef :: undef :: undef :: undef :: undef :: undef :: undef :: undef :: undef :: undef :: undef :: undef :: undef :: undef :: undef :: undef :: undef :: undef :: undef :: undef :: undef :: undef :: undef :: undef :: undef :: undef :: undef :: undef :: undef :: undef :: undef :: undef :: undef :: undef :: undef :: undef :: undef :: undef :: undef :: undef :: undef :: undef :: undef :: undef :: undef :: []) := ⟨_, rfl⟩
 have hr : zG Try.prog O false zQ.code T zk.empty = zG Try.prog O false zQ.code T zk.empty := rfl
 obtain ⟨A1, hA1⟩ : ∃ A, A = (Y3 m).push (.cells (fM m0) (.own []) 0) := ⟨_, rfl⟩
 have a1 : yM Try.prog 30 (Y3 m) = some (.pointer (some ⟨1, 0, none⟩), A1) := by rw [hA1]; exact X4 _
 have p0 : A1.get 0 = some (.cells (fM m) (.own []) 0) := by rw [hA1]; kernel_rfl
 obtain ⟨A2, hA2⟩ : ∃ A, A = A1.push (.cells (fM m0) (.own []) 0) := ⟨_, rfl⟩
 have a2 : yM Try.prog 30 A1 = some (.pointer (some ⟨2, 0, none⟩), A2) := by rw [hA2, hA1]; exact X4 _
 have q0 : A2.get 0 = some (.cells (fM m) (.own []) 0) := by rw [hA2, hA1]; kernel_rfl
 have q1 : A2.get 1 = some (.cells (fM m0) (.own []) 0) := by rw [hA2, hA1]; kernel_rfl
 have q2 : A2.get 2 = some (.cells (fM m0) (.own []) 0) := by rw [hA2, hA1]; kernel_rfl
 have s0 : yC Try.prog 30 (.pointer (some ⟨2, 0, none⟩)) (.agg [Value.int .i64 m.kind, .int .i64 m.frm, .int .i64 0, .int .i64 0, .int .i64 0, .int .i64 0, .int .i64 0, .int .i64 0, .int .i64 0, .int .i64 0, .int .i64 0, .int .i64 0, .slice none 0 0].toArray) A2 = some (undef, y9 A2 2 (⟨m.kind, m.frm, 0, 0, 0, 0, ⟨0, 0⟩, bk0⟩ : wz)) := Vk q2 (⟨m.kind, m.frm, 0, 0, 0, 0, ⟨0, 0⟩, bk0⟩ : wz)
 have b0 : (y9 A2 2 (⟨m.kind, m.frm, 0, 0, 0, 0, ⟨0, 0⟩, bk0⟩ : wz)).get 0 = some (.cells (fM m) (.own []) 0) := (wG (by decide)).trans q0
 have b1 : (y9 A2 2 (⟨m.kind, m.frm, 0, 0, 0, 0, ⟨0, 0⟩, bk0⟩ : wz)).get 1 = some (.cells (fM m0) (.own []) 0) := (wG (by decide)).trans q1
 have b2 := wW A2 2 (⟨m.kind, m.frm, 0, 0, 0, 0, ⟨0, 0⟩, bk0⟩ : wz)
 generalize hB0 : y9 A2 2 (⟨m.kind, m.frm, 0, 0, 0, 0, ⟨0, 0⟩, bk0⟩ : wz) = B0 at s0 b0 b1 b2
 have s1 := afI b2 m.view
 have c1_0 : (y9 B0 2 (⟨m.kind, m.frm, 0, m.view, 0, 0, ⟨0, 0⟩, bk0⟩ : wz)).get 0 = some (.cells (fM m) (.own []) 0) := (wG (by decide)).trans b0
 have c1_1 : (y9 B0 2 (⟨m.kind, m.frm, 0, m.view, 0, 0, ⟨0, 0⟩, bk0⟩ : wz)).get 1 = some (.cells (fM m0) (.own []) 0) := (wG (by decide)).trans b1
 have c1_2 := wW B0 2 (⟨m.kind, m.frm, 0, m.view, 0, 0, ⟨0, 0⟩, bk0⟩ : wz)
 dsimp only at s1
 generalize hB1 : y9 B0 2 (⟨m.kind, m.frm, 0, m.view, 0, 0, ⟨0, 0⟩, bk0⟩ : wz) = B1 at s1  c1_0 c1_1 c1_2
 have s2 := aeP c1_2 m.index
 have sq := ZQ (o := 0 + 4) (x := (⟨m.kind, m.frm, m.index, m.view, 0, 0, ⟨0, 0⟩, bk0⟩ : wz)) c1_0 (show (0 : Nat) ≠ 2 by decide)
 have c2_0 : (y9 B1 2 (⟨m.kind, m.frm, m.index, m.view, 0, 0, ⟨0, 0⟩, bk0⟩ : wz)).get 0 = some (.cells (fM m) (.own []) 0) := (wG (by decide)).trans c1_0
 have c2_1 : (y9 B1 2 (⟨m.kind, m.frm, m.index, m.view, 0, 0, ⟨0, 0⟩, bk0⟩ : wz)).get 1 = some (.cells (fM m0) (.own []) 0) := (wG (by decide)).trans c1_1
 have c2_2 := wW B1 2 (⟨m.kind, m.frm, m.index, m.view, 0, 0, ⟨0, 0⟩, bk0⟩ : wz)
 dsimp only at s2
 generalize hB2 : y9 B1 2 (⟨m.kind, m.frm, m.index, m.view, 0, 0, ⟨0, 0⟩, bk0⟩ : wz) = B2 at s2 sq c2_0 c2_1 c2_2
 have s3 := abz c2_2 m.value
 have c3_0 : (y9 B2 2 (⟨m.kind, m.frm, m.index, m.view, m.value, 0, ⟨0, 0⟩, bk0⟩ : wz)).get 0 = some (.cells (fM m) (.own []) 0) := (wG (by decide)).trans c2_0
 have c3_1 : (y9 B2 2 (⟨m.kind, m.frm, m.index, m.view, m.value, 0, ⟨0, 0⟩, bk0⟩ : wz)).get 1 = some (.cells (fM m0) (.own []) 0) := (wG (by decide)).trans c2_1
 have c3_2 := wW B2 2 (⟨m.kind, m.frm, m.index, m.view, m.value, 0, ⟨0, 0⟩, bk0⟩ : wz)
 dsimp only at s3
 generalize hB3 : y9 B2 2 (⟨m.kind, m.frm, m.index, m.view, m.value, 0, ⟨0, 0⟩, bk0⟩ : wz) = B3 at s3  c3_0 c3_1 c3_2
 have eb : (⟨m.kind, m.frm, m.index, m.view, m.value, 0, ⟨0, 0⟩, bk0⟩ : wz) = wZ m := by simp [wZ, hk]
 rw [eb] at c3_2
 have hbk : (wZ m).b.k ≠ 2 := by simp [wZ, hk]
 have ld := xC c3_2 hbk
 have sl := Vk c3_1 (wZ m)
 have fin := xC (wW B3 1 (wZ m)) hbk
 have hcb : (wZ m).b.k ≤ 2 := by simp [wZ, hk]
 conv at hr =>
  rhs
  rw [hTe]
  simp only [zQ.code, zQ.rs, zSs, reduceIte, Nat.reduceEqDiff, Int.reduceEq, Int.reduceLT, Int.reduceLE, qC, a1, a2, zy, zC, jI p0, jW p0, qg (y0 := .int .i64 m.kind) (y1 := .int .i64 m.frm) rfl rfl, s0, jI b0, zH, s1, wB b0, zF, s2, sq, jZ b0, jZ c1_0, jR c1_0, zB, zB, s3, jR c1_0, jR c2_0, decide_eq_false (show ¬ m.kind = 0 by omega), decide_eq_false (show ¬ m.kind = 1 by omega), decide_eq_false (show ¬ m.kind = 2 by omega), decide_eq_false (show ¬ m.kind = 3 by omega), decide_eq_false (show ¬ m.kind = 4 by omega), decide_eq_true hk, Zd, ld, sl]
 rw [hTe] at hr
 exact zQ.runs hr (.inr rfl) fin (all1 (wR hm.b.okl.le)) (wR hcb)
theorem zQ.v6 {m : wz} (hm : m.Ok) (hk : m.kind = 6) (S : zk) : jf Try.prog O zQ.id [mv m] S = some (mv (wZ m), S) := by
 obtain ⟨T, hTe⟩ : ∃ T, T = (mv m :: undef :: undef :: undef :: undef :: undef :: undef :: undef :: undef :: undef :: undef :: undef :: undef :: undef :: undef :: undef :: undef :: undef :: undef :: undef :: undef :: undef :: undef :: undef :: undef :: undef :: undef :: undef :: undef :: undef :: undef :: undef :: undef :: undef :: undef :: undef :: undef :: undef :: undef :: undef :: undef :: undef :: undef :: undef :: undef :: undef :: []) := ⟨_, rfl⟩
 have hr : zG Try.prog O false zQ.code T zk.empty = zG Try.prog O false zQ.code T zk.empty := rfl
 obtain ⟨A1, hA1⟩ : ∃ A, A = (Y3 m).push (.cells (fM m0) (.own []) 0) := ⟨_, rfl⟩
 have a1 : yM Try.prog 30 (Y3 m) = some (.pointer (some ⟨1, 0, none⟩), A1) := by rw [hA1]; exact X4 _
 have p0 : A1.get 0 = some (.cells (fM m) (.own []) 0) := by rw [hA1]; kernel_rfl
 obtain ⟨A2, hA2⟩ : ∃ A, A = A1.push (.cells (fM m0) (.own []) 0) := ⟨_, rfl⟩
 have a2 : yM Try.prog 30 A1 = some (.pointer (some ⟨2, 0, none⟩), A2) := by rw [hA2, hA1]; exact X4 _
 have q0 : A2.get 0 = some (.cells (fM m) (.own []) 0) := by rw [hA2, hA1]; kernel_rfl
 have q1 : A2.get 1 = some (.cells (fM m0) (.own []) 0) := by rw [hA2, hA1]; kernel_rfl
 have q2 : A2.get 2 = some (.cells (fM m0) (.own []) 0) := by rw [hA2, hA1]; kernel_rfl
 have s0 : yC Try.prog 30 (.pointer (some ⟨2, 0, none⟩)) (.agg [Value.int .i64 m.kind, .int .i64 m.frm, .int .i64 0, .int .i64 0, .int .i64 0, .int .i64 0, .int .i64 0, .int .i64 0, .int .i64 0, .int .i64 0, .int .i64 0, .int .i64 0, .slice none 0 0].toArray) A2 = some (undef, y9 A2 2 (⟨m.kind, m.frm, 0, 0, 0, 0, ⟨0, 0⟩, bk0⟩ : wz)) := Vk q2 (⟨m.kind, m.frm, 0, 0, 0, 0, ⟨0, 0⟩, bk0⟩ : wz)
 have b0 : (y9 A2 2 (⟨m.kind, m.frm, 0, 0, 0, 0, ⟨0, 0⟩, bk0⟩ : wz)).get 0 = some (.cells (fM m) (.own []) 0) := (wG (by decide)).trans q0
 have b1 : (y9 A2 2 (⟨m.kind, m.frm, 0, 0, 0, 0, ⟨0, 0⟩, bk0⟩ : wz)).get 1 = some (.cells (fM m0) (.own []) 0) := (wG (by decide)).trans q1
 have b2 := wW A2 2 (⟨m.kind, m.frm, 0, 0, 0, 0, ⟨0, 0⟩, bk0⟩ : wz)
 generalize hB0 : y9 A2 2 (⟨m.kind, m.frm, 0, 0, 0, 0, ⟨0, 0⟩, bk0⟩ : wz) = B0 at s0 b0 b1 b2
 have s1 := aeP b2 m.index
 have sq := ZQ (o := 0 + 4) (x := (⟨m.kind, m.frm, m.index, 0, 0, 0, ⟨0, 0⟩, bk0⟩ : wz)) b0 (show (0 : Nat) ≠ 2 by decide)
 have c1_0 : (y9 B0 2 (⟨m.kind, m.frm, m.index, 0, 0, 0, ⟨0, 0⟩, bk0⟩ : wz)).get 0 = some (.cells (fM m) (.own []) 0) := (wG (by decide)).trans b0
 have c1_1 : (y9 B0 2 (⟨m.kind, m.frm, m.index, 0, 0, 0, ⟨0, 0⟩, bk0⟩ : wz)).get 1 = some (.cells (fM m0) (.own []) 0) := (wG (by decide)).trans b1
 have c1_2 := wW B0 2 (⟨m.kind, m.frm, m.index, 0, 0, 0, ⟨0, 0⟩, bk0⟩ : wz)
 dsimp only at s1
 generalize hB1 : y9 B0 2 (⟨m.kind, m.frm, m.index, 0, 0, 0, ⟨0, 0⟩, bk0⟩ : wz) = B1 at s1 sq c1_0 c1_1 c1_2
 have s2 := abz c1_2 m.value
 have c2_0 : (y9 B1 2 (⟨m.kind, m.frm, m.index, 0, m.value, 0, ⟨0, 0⟩, bk0⟩ : wz)).get 0 = some (.cells (fM m) (.own []) 0) := (wG (by decide)).trans c1_0
 have c2_1 : (y9 B1 2 (⟨m.kind, m.frm, m.index, 0, m.value, 0, ⟨0, 0⟩, bk0⟩ : wz)).get 1 = some (.cells (fM m0) (.own []) 0) := (wG (by decide)).trans c1_1
 have c2_2 := wW B1 2 (⟨m.kind, m.frm, m.index, 0, m.value, 0, ⟨0, 0⟩, bk0⟩ : wz)
 dsimp only at s2
 generalize hB2 : y9 B1 2 (⟨m.kind, m.frm, m.index, 0, m.value, 0, ⟨0, 0⟩, bk0⟩ : wz) = B2 at s2  c2_0 c2_1 c2_2
 have eb : (⟨m.kind, m.frm, m.index, 0, m.value, 0, ⟨0, 0⟩, bk0⟩ : wz) = wZ m := by simp [wZ, hk]
 rw [eb] at c2_2
 have hbk : (wZ m).b.k ≠ 2 := by simp [wZ, hk]
 have ld := xC c2_2 hbk
 have sl := Vk c2_1 (wZ m)
 have fin := xC (wW B2 1 (wZ m)) hbk
 have hcb : (wZ m).b.k ≤ 2 := by simp [wZ, hk]
 conv at hr =>
  rhs
  rw [hTe]
  simp only [zQ.code, zQ.rs, zSs, reduceIte, Nat.reduceEqDiff, Int.reduceEq, Int.reduceLT, Int.reduceLE, qC, a1, a2, zy, zC, jI p0, jW p0, qg (y0 := .int .i64 m.kind) (y1 := .int .i64 m.frm) rfl rfl, s0, jI b0, zF, s1, sq, jZ b0, jR b0, zB, zB, s2, jR b0, jR c1_0, decide_eq_false (show ¬ m.kind = 0 by omega), decide_eq_false (show ¬ m.kind = 1 by omega), decide_eq_false (show ¬ m.kind = 2 by omega), decide_eq_false (show ¬ m.kind = 3 by omega), decide_eq_false (show ¬ m.kind = 4 by omega), decide_eq_false (show ¬ m.kind = 5 by omega), decide_eq_true hk, Zd, ld, sl]
 rw [hTe] at hr
 exact zQ.runs hr (.inr rfl) fin (all1 (wR hm.b.okl.le)) (wR hcb)
theorem zQ.v {m : wz} (hm : m.Ok) (h0 : 0 ≤ m.kind) (h6 : m.kind ≤ 6) (S : zk) : jf Try.prog O zQ.id [mv m] S = some (mv (wZ m), S) := by
 have : m.kind = 0 ∨ m.kind = 1 ∨ m.kind = 2 ∨ m.kind = 3 ∨ m.kind = 4 ∨ m.kind = 5 ∨ m.kind = 6 := by omega
 rcases this with h | h | h | h | h | h | h
 ·
  exact zQ.v0 hm h S
 ·
  exact zQ.v1 hm h S
 ·
  exact zQ.v2 hm h S
 ·
  exact zQ.v3 hm h S
 ·
  exact zQ.v4 hm h S
 ·
  exact zQ.v5 hm h S
 ·
  exact zQ.v6 hm h S
end Go.Proofs.Ytbgcphbbchndkaa
namespace Go.Abs
open Go.RowKit
def gv (x b : Bool) (v : Value) : Value := if x = b then v else undef
theorem afw (x b : Bool) (v : Value) : dem (gv x b v) = gv x b (dem v) := by
 unfold gv; split
 ·
  rfl
 ·
  exact Yf
theorem YI {R : Type} {K : Value → zk → Option R} {p : JL K} {m : M Value} {S : zk} (x b : Bool) : gdK (.bool x) b m S K p = if x = b then zM (m S) K p else K undef S := by
 cases x <;> cases b <;> rfl
section
variable {R : Type} {K : Value → zk → Option R} {p : JL K} {S : zk} {x b c y z : Bool} {m m' : M Value} {P : Program} {O : Ora} {t : TypeId} {v w u : Value}
theorem yJ (h : x = b → m S = m' S) : gdK (.bool x) b m S K p = gdK (.bool x) b m' S K p := by
 rw [YI, YI]
 split
 ·
  rename_i hx; rw [h hx]
 ·
  rfl
theorem zi (h : m S = some (v, S)) : gdK (.bool x) b m S K p = K (gv x b v) S := by
 rw [YI]
 unfold gv
 split
 ·
  rw [h]; rfl
 ·
  rfl
theorem ZM (h : m S = some (v, S)) (hq : okq 3 v = true) : abf (.bool x) b m S K p = K (gv x b v) S := by
 unfold gv
 cases x <;> cases b <;> first | rfl | (simp only [Vd, Vf, h, W9, adv hq, if_true])
theorem ZI (h : x = b) : gv x b v = v := if_pos h
theorem adE {fx : Bool} : gdK (.bool x) b (zV P fx t (gv x b v)) S K p = gdK (.bool x) b (zV P fx t v) S K p := yJ fun h => by rw [ZI h]
theorem WA {f : Nat} : gdK (.bool x) b (zo P t (gv x b v) f) S K p = gdK (.bool x) b (zo P t v f) S K p := yJ fun h => by rw [ZI h]
theorem Yt : gdK (.bool x) b (Zy (gv x b v)) S K p = gdK (.bool x) b (Zy v) S K p := yJ fun h => by rw [ZI h]
theorem ae2 : gdK (.bool x) b (Zw P t (gv x b v)) S K p = gdK (.bool x) b (Zw P t v) S K p := yJ fun h => by rw [ZI h]
theorem Jw : gdK (.bool x) b (jP P t (gv x b v) w) S K p = gdK (.bool x) b (jP P t v w) S K p := yJ fun h => by rw [ZI h]
theorem JC : gdK (.bool x) b (jP P t v (gv x b w)) S K p = gdK (.bool x) b (jP P t v w) S K p := yJ fun h => by rw [ZI h]
theorem ahp {op : UnOp} : gdK (.bool x) b (aUn P op (gv x b v)) S K p = gdK (.bool x) b (aUn P op v) S K p := yJ fun h => by rw [ZI h]
theorem acR {hp dr : Bool} {t2 : TypeId} : gdK (.bool x) b (qx P hp dr t t2 (gv x b v)) S K p = gdK (.bool x) b (qx P hp dr t t2 v) S K p := yJ fun h => by rw [ZI h]
theorem abJ {op : BinOp} : gdK (.bool x) b (jS P op t (gv x b v) w) S K p = gdK (.bool x) b (jS P op t v w) S K p := yJ fun h => by rw [ZI h]
theorem abX {op : BinOp} : gdK (.bool x) b (jS P op t v (gv x b w)) S K p = gdK (.bool x) b (jS P op t v w) S K p := yJ fun h => by rw [ZI h]
theorem aam {g : FuncId} {l : List Value} : gdK (.bool x) b (jf P O g (gv x b v :: l)) S K p = gdK (.bool x) b (jf P O g (v :: l)) S K p := yJ fun h => by rw [ZI h]
theorem V7 {g : FuncId} {l : List Value} : gdK (.bool x) b (jf P O g (u :: gv x b v :: l)) S K p = gdK (.bool x) b (jf P O g (u :: v :: l)) S K p := yJ fun h => by rw [ZI h]
theorem Xi {g : FuncId} {l : List Value} : gdK (.bool x) b (aex (jf P O) g (gv x b v :: l)) S K p = gdK (.bool x) b (aex (jf P O) g (v :: l)) S K p := yJ fun h => by rw [ZI h]
theorem XB {g : FuncId} {l : List Value} : gdK (.bool x) b (aex (jf P O) g (u :: gv x b v :: l)) S K p = gdK (.bool x) b (aex (jf P O) g (u :: v :: l)) S K p := yJ fun h => by rw [ZI h]
theorem afD : gdK (.bool x) b (ret v) S K p = K (gv x b v) S := zi rfl
theorem ag2 : gv x b (gv x b v) = gv x b v := by unfold gv; split <;> rfl
theorem V8 : gdK (gv x c (.bool y)) b m S K p = gdK (.bool ((x == c) && (y == b))) true m S K p := by
 unfold gv
 cases x <;> cases c <;> cases y <;> cases b <;> rfl
theorem ace {fx : Bool} : gdK (.bool ((x == c) && (y == b))) true (zV P fx t (gv x c v)) S K p = gdK (.bool ((x == c) && (y == b))) true (zV P fx t v) S K p := yJ fun h => by rw [ZI (by simp at h; exact h.1)]
theorem acu {op : BinOp} : gdK (.bool ((x == c) && (y == b))) true (jS P op t (gv x c v) w) S K p = gdK (.bool ((x == c) && (y == b))) true (jS P op t v w) S K p := yJ fun h => by rw [ZI (by simp at h; exact h.1)]
theorem acU {op : BinOp} : gdK (.bool ((x == c) && (y == b))) true (jS P op t v (gv x c w)) S K p = gdK (.bool ((x == c) && (y == b))) true (jS P op t v w) S K p := yJ fun h => by rw [ZI (by simp at h; exact h.1)]
theorem afs : gdK (.bool x) c (wH (gv x c (.bool y)) (.bool true) (gv ((x == c) && (y == false)) true (.bool z))) S K p = K (gv x c (.bool (y || z))) S := by
 unfold gv
 cases x <;> cases c <;> cases y <;> cases z <;> rfl
theorem ach : gdK (.bool x) c (wH (gv x c (.bool y)) (gv ((x == c) && (y == true)) true (.bool z)) (.bool false)) S K p = K (gv x c (.bool (y && z))) S := by
 unfold gv
 cases x <;> cases c <;> cases y <;> cases z <;> rfl
theorem ag0 : (if x = true then Value.bool true else gv x false (.bool y)) = .bool (x || y) := by cases x <;> rfl
theorem ae4 : (if x = true then gv x true (.bool y) else Value.bool false) = .bool (x && y) := by cases x <;> rfl
theorem ahg : gv true true v = v := rfl
theorem ag5 : gv false false v = v := rfl
theorem ahD : gv true false v = undef := rfl
theorem ag6 : gv false true v = undef := rfl
theorem ae6 {k : IntKind} {a d : Int} : gdK (.bool x) b (jS P .lss t (.int k a) (.int k d)) S K p = K (gv x b (.bool (decide (a < d)))) S := zi (Q7 k a d)
theorem afA {k : IntKind} {a d : Int} : gdK (.bool x) b (jS P .leq t (.int k a) (.int k d)) S K p = K (gv x b (.bool (decide (a ≤ d)))) S := zi (QM k a d)
theorem ae3 {k : IntKind} {a d : Int} : gdK (.bool x) b (jS P .gtr t (.int k a) (.int k d)) S K p = K (gv x b (.bool (decide (d < a)))) S := zi (KN k a d)
theorem afj {k : IntKind} {a d : Int} : gdK (.bool x) b (jS P .geq t (.int k a) (.int k d)) S K p = K (gv x b (.bool (decide (d ≤ a)))) S := zi (QO k a d)
theorem afv {k : IntKind} {a d : Int} : gdK (.bool x) b (jS P .eql t (.int k a) (.int k d)) S K p = K (gv x b (.bool (decide (a = d)))) S := zi (KI k a d)
theorem afp {k : IntKind} {a d : Int} : gdK (.bool x) b (jS P .neq t (.int k a) (.int k d)) S K p = K (gv x b (.bool (!decide (a = d)))) S := zi (KP k a d)
theorem afu {k : IntKind} {a d : Int} : gdK (.bool x) b (jS P .add t (.int k a) (.int k d)) S K p = K (gv x b (.int k (k.wrap (a + d)))) S := zi (Kw k a d)
theorem aft {k : IntKind} {a d : Int} : gdK (.bool x) b (jS P .sub t (.int k a) (.int k d)) S K p = K (gv x b (.int k (k.wrap (a - d)))) S := zi (QE k a d)
theorem afC : gdK (.bool x) b (aUn P .not (.bool y)) S K p = K (gv x b (.bool (!y))) S := zi (by cases y <;> rfl)
end
theorem gvw : type_of% (And.intro @afw (And.intro @adE (And.intro @WA (And.intro @Yt (And.intro @ae2 (And.intro @Jw (And.intro @JC (And.intro @ahp (And.intro @acR (And.intro @abJ (And.intro @abX (And.intro @aam (And.intro @V7 (And.intro @Xi (And.intro @XB (And.intro @afD (And.intro @ag2 (And.intro @V8 (And.intro @ace (And.intro @acu (And.intro @acU (And.intro @afs (And.intro @ach (And.intro @ag0 (And.intro @ae4 (And.intro @ahg (And.intro @ag5 (And.intro @ahD (And.intro @ag6 (And.intro @ae6 (And.intro @afA (And.intro @ae3 (And.intro @afj (And.intro @afv (And.intro @afp (And.intro @afu (And.intro @aft @afC))))))))))))))))))))))))))))))))))))) :=
 And.intro @afw (And.intro @adE (And.intro @WA (And.intro @Yt (And.intro @ae2 (And.intro @Jw (And.intro @JC (And.intro @ahp (And.intro @acR (And.intro @abJ (And.intro @abX (And.intro @aam (And.intro @V7 (And.intro @Xi (And.intro @XB (And.intro @afD (And.intro @ag2 (And.intro @V8 (And.intro @ace (And.intro @acu (And.intro @acU (And.intro @afs (And.intro @ach (And.intro @ag0 (And.intro @ae4 (And.intro @ahg (And.intro @ag5 (And.intro @ahD (And.intro @ag6 (And.intro @ae6 (And.intro @afA (And.intro @ae3 (And.intro @afj (And.intro @afv (And.intro @afp (And.intro @afu (And.intro @aft @afC))))))))))))))))))))))))))))))))))))
end Go.Abs
namespace Go.Proofs.Ytbgcphbbchndkaa
open Go.Abs
def nameB (n : Int) : Bool := decide (n = 0) || qE n
theorem adi {n : Int} (h : n < 0) : qE n = false := by
 rw [Bool.eq_false_iff]; intro h2; have := qZ.1 h2; omega
theorem aeL (n : Int) : decide (0 < Jr n) = qE n := by
 rw [Bool.eq_iff_iff, decide_eq_true_eq]
 unfold Jr
 constructor
 ·
  intro h; split at h
  ·
   assumption
  ·
   omega
 ·
  intro h
  have := qZ.1 h
  rw [if_pos h]; omega
theorem jg.v {n : Int} (hn : n < 9223372036854775808) (S : zk) : jf Try.prog O jg.id [.int .i64 n] S = some (.bool (nameB n), S) := by
 obtain ⟨T, hTe⟩ : ∃ T, T = (.int .i64 n :: undef :: undef :: undef :: undef :: undef :: undef :: undef :: undef :: undef :: undef :: undef :: undef :: undef :: undef :: undef :: undef :: undef :: undef :: []) := ⟨_, rfl⟩
 have hr : zG Try.prog O false jg.code T S = zG Try.prog O false jg.code T S := rfl
 have c1 := fun S => zN.v n hn S
 obtain ⟨a, b, c, e⟩ : ∃ a b c, XM n = .tuple #[.int .i64 a, .int .i64 b, .int .i64 c, .bool (qE n)] := by
  unfold XM
  by_cases h : n < 0
  ·
   exact ⟨0, 0, 0, by rw [if_pos h, adi h]⟩
  ·
   exact ⟨_, _, _, by rw [if_neg h]⟩
 rw [e] at c1
 unfold nameB
 conv at hr =>
  rhs
  rw [hTe]
  simp only [jg.code, jg.rs, zSs, reduceIte, Nat.reduceEqDiff, Int.reduceEq, Int.reduceLT, Int.reduceLE, c1, gvw]
 rw [hTe] at hr
 exact jg.runs hr (.inr rfl)
theorem jh.v {b : xW} (hb : b.Ok) (S : zk) : jf Try.prog O jh.id [bv b] S = some (.bool (Z7 b bk0), S) := by
 obtain ⟨T, hTe⟩ : ∃ T, T = (bv b :: undef :: undef :: undef :: undef :: undef :: []) := ⟨_, rfl⟩
 have hr : zG Try.prog O false jh.code T zk.empty = zG Try.prog O false jh.code T zk.empty := rfl
 have c1 : ∀ S, jf Try.prog O 31 [bv b, .agg [Value.int .i64 0, .int .i64 0, .int .i64 0, .int .i64 0, .slice none 0 0].toArray] S = some (.bool (Z7 b bk0), S) := fun S => zW.v hb ok0 S
 conv at hr =>
  rhs
  rw [hTe]
  simp only [jh.code, jh.rs, zSs, reduceIte, Nat.reduceEqDiff, Int.reduceEq, Int.reduceLT, Int.reduceLE, Zx, ahs (yx b) hb.ne, KZ, c1]
 rw [hTe] at hr
 exact jh.runs hr (.inr rfl) (all1 (wV hb.okl.le)) rfl
def kM (m : wz) : Bool := ((!decide (m.kind = 0) && !decide (m.tx = ⟨0, 0⟩)) || (!decide (m.kind = 1) && !Z7 m.b bk0)) || (!decide (m.kind = 3) && !decide (m.prep = 0))
def KT (m : wz) : Bool := decide (0 ≤ m.index) && decide (m.index ≤ 1000)
def vwB (m : wz) : Bool := decide (0 ≤ m.view) && decide (m.view ≤ 1000)
def kU (m : wz) : Bool :=
 if m.kind = 0 then ((decide (m.index = 0) && decide (m.view = 0)) && decide (m.value = 0)) && qG m.tx
 else if m.kind = 1 then ((decide (m.index = 0) && decide (m.view = 0)) && decide (m.value = 0)) && jL m.b
 else if m.kind = 2 then (decide (m.index = 0) && decide (m.view = 0)) && nameB m.value
 else if m.kind = 3 then ((((KT m) && (vwB m)) && nameB m.value) && decide (-1 ≤ m.prep)) && decide (m.prep < m.view)
 else if m.kind = 4 ∨ m.kind = 5 then ((KT m) && (vwB m)) && (decide (m.value = -1) || nameB m.value)
 else if m.kind = 6 then ((KT m) && decide (m.view = 0)) && nameB m.value
 else false
def kH (m : wz) : Bool := if decide (m.frm < 0) || decide (6 < m.frm) then false else if kM m then false else kU m
theorem ZE (t u : TxV) (S : zk) : jS Try.prog .neq 25 (tv t) (tv u) S = some (.bool (!decide (t = u)), S) := (adB t u S).2
theorem zh.v0 {m : wz} (hm : m.Ok) (hk : m.kind = 0) (S : zk) : jf Try.prog O zh.id [mv m] S = some (.bool (kH m), S) := by
 obtain ⟨T, hTe⟩ : ∃ T, T = (mv m :: undef :: undef :: undef :: undef :: undef :: undef :: undef :: undef :: undef :: undef :: undef :: undef :: undef :: undef :: undef :: undef :: undef :: undef :: undef :: undef :: undef :: undef :: undef :: undef :: undef :: undef :: undef :: undef :: undef :: undef :: undef :: undef :: undef :: undef :: undef :: undef :: undef :: undef :: undef :: undef :: undef :: undef :: undef :: undef :: undef :: undef :: undef :: undef :: undef :: undef :: undef :: undef :: undef :: undef :: undef :: undef :: undef :: undef :: undef :: undef :: undef :: undef :: undef :: undef :: undef :: undef :: undef :: undef :: undef :: undef :: undef :: undef :: undef :: undef :: undef :: undef :: undef :: undef :: undef :: undef :: undef :: undef :: undef :: undef :: undef :: undef :: undef :: undef :: undef :: undef :: undef :: undef :: undef :: undef :: undef :: undef :: undef :: undef :: undef :: undef :: undef :: undef :: undef :: undef :: undef :: undef :: undef :: undef :: undef :: undef :: undef :: undef :: undef :: undef :: undef :: undef :: undef :: undef :: undef :: undef :: undef :: undef :: undef :: undef :: undef :: undef :: undef :: undef :: undef :: undef :: undef :: undef :: undef :: undef :: undef :: undef :: undef :: undef :: undef :: undef :: undef :: undef :: undef :: undef :: undef :: undef :: undef :: undef :: undef :: undef :: undef :: undef :: undef :: undef :: undef :: undef :: undef :: undef :: undef :: undef :: undef :: undef :: undef :: undef :: undef :: undef :: undef :: undef :: []) := ⟨_, rfl⟩
 have hr : zG Try.prog O false zh.code T zk.empty = zG Try.prog O false zh.code T zk.empty := rfl
 have g0 := ku m
 have c1 := fun S => jh.v hm.b S
 have c2 := fun S => jg.v hm.value.2 S
 have c3 := fun S => zX.v m.tx S
 have c4 := fun S => zq.v hm.b S
 have hc : [mv m].all (jB 16) = true := all1 (wR hm.b.okl.le)
 have eT : ∀ S, jS Try.prog .neq 25 (tv m.tx) (.agg [Value.int .i64 0, .int .i64 0].toArray) S = some (.bool (!decide (m.tx = ⟨0, 0⟩)), S) := fun S => ZE m.tx ⟨0, 0⟩ S
 have k0 : decide (m.kind = 0) = true := decide_eq_true hk
 have k1 : decide (m.kind = 1) = false := decide_eq_false (by omega)
 have k2 : decide (m.kind = 2) = false := decide_eq_false (by omega)
 have k3 : decide (m.kind = 3) = false := decide_eq_false (by omega)
 have k4 : decide (m.kind = 4) = false := decide_eq_false (by omega)
 have k5 : decide (m.kind = 5) = false := decide_eq_false (by omega)
 have k6 : decide (m.kind = 6) = false := decide_eq_false (by omega)
 have ek : kU m = (((decide (m.index = 0) && decide (m.view = 0)) && decide (m.value = 0)) && qG m.tx) := by simp only [kU, hk, KT, vwB, Int.reduceEq, if_true, if_false, reduceIte, or_true, true_or, or_false, or_self]
 unfold kH
 rw [ek]
 obtain ⟨c, hc0⟩ : ∃ b, (decide (m.frm < 0) || decide (6 < m.frm)) = b := ⟨_, rfl⟩
 obtain ⟨d, hd⟩ : ∃ b, kM m = b := ⟨_, rfl⟩
 have hd2 := hd
 unfold kM at hd2
 simp only [k0, k1, k2, k3, k4, k5, k6, Bool.not_true, Bool.not_false, Bool.true_and, Bool.false_and, Bool.or_false, Bool.false_or] at hd2
 rw [hc0, hd]
 cases c
 ·
  cases d
  ·
   simp only [Bool.false_eq_true, if_false]
   conv at hr =>
    rhs
    rw [hTe]
    simp only [zh.code, zh.rs, zSs, reduceIte, Nat.reduceEqDiff, Int.reduceEq, Int.reduceLT, Int.reduceLE, qC, zy, zC, zF, zH, zB, zJ, zK, zL, jI g0, jW g0, jZ g0, wB g0, jR g0, wM g0, wS g0, wX g0 hm.b.ne, jG, eT, c1, c2, c3, c4, zi (zy _ _ _), zi (zC _ _ _), zi (zF _ _ _), zi (zH _ _ _), zi (zB _ _ _), zi (zJ _ _ _), zi (zK _ _ _), zi (zL _ _ _), zi (jI g0), zi (jW g0), zi (jZ g0), zi (wB g0), zi (jR g0), zi (wM g0), zi (wS g0), zi (wX g0 hm.b.ne), zi (jG _), zi (eT _), zi (c1 _), zi (c2 _), zi (c3 _), zi (c4 _), gvw, k0, k1, k2, k3, k4, k5, k6, hc0, hd2, Bool.not_true, Bool.not_false, Bool.true_and, Bool.false_and, Bool.or_false, Bool.false_or]
   rw [hTe] at hr
   exact zh.runs hr (.inr rfl) hc rfl
  ·
   simp only [Bool.false_eq_true, if_false, if_true]
   conv at hr =>
    rhs
    rw [hTe]
    simp only [zh.code, zh.rs, zSs, reduceIte, Nat.reduceEqDiff, Int.reduceEq, Int.reduceLT, Int.reduceLE, qC, zy, zC, zF, zH, zB, zJ, zK, zL, jI g0, jW g0, jZ g0, wB g0, jR g0, wM g0, wS g0, wX g0 hm.b.ne, jG, eT, c1, c2, c3, c4, zi (zy _ _ _), zi (zC _ _ _), zi (zF _ _ _), zi (zH _ _ _), zi (zB _ _ _), zi (zJ _ _ _), zi (zK _ _ _), zi (zL _ _ _), zi (jI g0), zi (jW g0), zi (jZ g0), zi (wB g0), zi (jR g0), zi (wM g0), zi (wS g0), zi (wX g0 hm.b.ne), zi (jG _), zi (eT _), zi (c1 _), zi (c2 _), zi (c3 _), zi (c4 _), gvw, k0, k1, k2, k3, k4, k5, k6, hc0, hd2, Bool.not_true, Bool.not_false, Bool.true_and, Bool.false_and, Bool.or_false, Bool.false_or]
   rw [hTe] at hr
   exact zh.runs hr (.inr rfl) hc rfl
 ·
  simp only [if_true]
  conv at hr =>
   rhs
   rw [hTe]
   simp only [zh.code, zh.rs, zSs, reduceIte, Nat.reduceEqDiff, Int.reduceEq, Int.reduceLT, Int.reduceLE, qC, zy, zC, zF, zH, zB, zJ, zK, zL, jI g0, jW g0, jZ g0, wB g0, jR g0, wM g0, wS g0, wX g0 hm.b.ne, jG, eT, c1, c2, c3, c4, zi (zy _ _ _), zi (zC _ _ _), zi (zF _ _ _), zi (zH _ _ _), zi (zB _ _ _), zi (zJ _ _ _), zi (zK _ _ _), zi (zL _ _ _), zi (jI g0), zi (jW g0), zi (jZ g0), zi (wB g0), zi (jR g0), zi (wM g0), zi (wS g0), zi (wX g0 hm.b.ne), zi (jG _), zi (eT _), zi (c1 _), zi (c2 _), zi (c3 _), zi (c4 _), gvw, k0, k1, k2, k3, k4, k5, k6, hc0]
  rw [hTe] at hr
  exact zh.runs hr (.inr rfl) hc rfl
theorem zh.v1 {m : wz} (hm : m.Ok) (hk : m.kind = 1) (S : zk) : jf Try.prog O zh.id [mv m] S = some (.bool (kH m), S) := by
 obtain ⟨T, hTe⟩ : ∃ T, T = (mv m :: undef :: undef :: undef :: undef :: undef :: undef :: undef :: undef :: undef :: undef :: undef :: undef :: undef :: undef :: undef :: undef :: undef :: undef :: undef :: undef :: undef :: undef :: undef :: undef :: undef :: undef :: undef :: undef :: undef :: undef :: undef :: undef :: undef :: undef :: undef :: undef :: undef :: undef :: undef :: undef :: undef :: undef :: undef :: undef :: undef :: undef :: undef :: undef :: undef :: undef :: undef :: undef :: undef :: undef :: undef :: undef :: undef :: undef :: undef :: undef :: undef :: undef :: undef :: undef :: undef :: undef :: undef :: undef :: undef :: undef :: undef :: undef :: undef :: undef :: undef :: undef :: undef :: undef :: undef :: undef :: undef :: undef :: undef :: undef :: undef :: undef :: undef :: undef :: undef :: undef :: undef :: undef :: undef :: undef :: undef :: undef :: undef :: undef :: undef :: undef :: undef :: undef :: undef :: undef :: undef :: undef :: undef :: undef :: undef :: undef :: undef :: undef :: undef :: undef :: undef :: undef :: undef :: undef :: undef :: undef :: undef :: undef :: undef :: undef :: undef :: undef :: undef :: undef :: undef :: undef :: undef :: undef :: undef :: undef :: undef :: undef :: undef :: undef :: undef :: undef :: undef :: undef :: undef :: undef :: undef :: undef :: undef :: undef :: undef :: undef :: undef :: undef :: undef :: undef :: undef :: undef :: undef :: undef :: undef :: undef :: undef :: undef :: undef :: undef :: undef :: undef :: undef :: undef :: []) := ⟨_, rfl⟩
 have hr : zG Try.prog O false zh.code T zk.empty = zG Try.prog O false zh.code T zk.empty := rfl
 have g0 := ku m
 have c1 := fun S => jh.v hm.b S
 have c2 := fun S => jg.v hm.value.2 S
 have c3 := fun S => zX.v m.tx S
 have c4 := fun S => zq.v hm.b S
 have hc : [mv m].all (jB 16) = true := all1 (wR hm.b.okl.le)
 have eT : ∀ S, jS Try.prog .neq 25 (tv m.tx) (.agg [Value.int .i64 0, .int .i64 0].toArray) S = some (.bool (!decide (m.tx = ⟨0, 0⟩)), S) := fun S => ZE m.tx ⟨0, 0⟩ S
 have k0 : decide (m.kind = 0) = false := decide_eq_false (by omega)
 have k1 : decide (m.kind = 1) = true := decide_eq_true hk
 have k2 : decide (m.kind = 2) = false := decide_eq_false (by omega)
 have k3 : decide (m.kind = 3) = false := decide_eq_false (by omega)
 have k4 : decide (m.kind = 4) = false := decide_eq_false (by omega)
 have k5 : decide (m.kind = 5) = false := decide_eq_false (by omega)
 have k6 : decide (m.kind = 6) = false := decide_eq_false (by omega)
 have ek : kU m = (((decide (m.index = 0) && decide (m.view = 0)) && decide (m.value = 0)) && jL m.b) := by simp only [kU, hk, KT, vwB, Int.reduceEq, if_true, if_false, reduceIte, or_true, true_or, or_false, or_self]
 unfold kH
 rw [ek]
 obtain ⟨c, hc0⟩ : ∃ b, (decide (m.frm < 0) || decide (6 < m.frm)) = b := ⟨_, rfl⟩
 obtain ⟨d, hd⟩ : ∃ b, kM m = b := ⟨_, rfl⟩
 have hd2 := hd
 unfold kM at hd2
 simp only [k0, k1, k2, k3, k4, k5, k6, Bool.not_true, Bool.not_false, Bool.true_and, Bool.false_and, Bool.or_false, Bool.false_or] at hd2
 rw [hc0, hd]
 cases c
 ·
  cases d
  ·
   simp only [Bool.false_eq_true, if_false]
   conv at hr =>
    rhs
    rw [hTe]
    simp only [zh.code, zh.rs, zSs, reduceIte, Nat.reduceEqDiff, Int.reduceEq, Int.reduceLT, Int.reduceLE, qC, zy, zC, zF, zH, zB, zJ, zK, zL, jI g0, jW g0, jZ g0, wB g0, jR g0, wM g0, wS g0, wX g0 hm.b.ne, jG, eT, c1, c2, c3, c4, zi (zy _ _ _), zi (zC _ _ _), zi (zF _ _ _), zi (zH _ _ _), zi (zB _ _ _), zi (zJ _ _ _), zi (zK _ _ _), zi (zL _ _ _), zi (jI g0), zi (jW g0), zi (jZ g0), zi (wB g0), zi (jR g0), zi (wM g0), zi (wS g0), zi (wX g0 hm.b.ne), zi (jG _), zi (eT _), zi (c1 _), zi (c2 _), zi (c3 _), zi (c4 _), gvw, k0, k1, k2, k3, k4, k5, k6, hc0, hd2, Bool.not_true, Bool.not_false, Bool.true_and, Bool.false_and, Bool.or_false, Bool.false_or]
   rw [hTe] at hr
   exact zh.runs hr (.inr rfl) hc rfl
  ·
   simp only [Bool.false_eq_true, if_false, if_true]
   conv at hr =>
    rhs
    rw [hTe]
    simp only [zh.code, zh.rs, zSs, reduceIte, Nat.reduceEqDiff, Int.reduceEq, Int.reduceLT, Int.reduceLE, qC, zy, zC, zF, zH, zB, zJ, zK, zL, jI g0, jW g0, jZ g0, wB g0, jR g0, wM g0, wS g0, wX g0 hm.b.ne, jG, eT, c1, c2, c3, c4, zi (zy _ _ _), zi (zC _ _ _), zi (zF _ _ _), zi (zH _ _ _), zi (zB _ _ _), zi (zJ _ _ _), zi (zK _ _ _), zi (zL _ _ _), zi (jI g0), zi (jW g0), zi (jZ g0), zi (wB g0), zi (jR g0), zi (wM g0), zi (wS g0), zi (wX g0 hm.b.ne), zi (jG _), zi (eT _), zi (c1 _), zi (c2 _), zi (c3 _), zi (c4 _), gvw, k0, k1, k2, k3, k4, k5, k6, hc0, hd2, Bool.not_true, Bool.not_false, Bool.true_and, Bool.false_and, Bool.or_false, Bool.false_or]
   rw [hTe] at hr
   exact zh.runs hr (.inr rfl) hc rfl
 ·
  simp only [if_true]
  conv at hr =>
   rhs
   rw [hTe]
   simp only [zh.code, zh.rs, zSs, reduceIte, Nat.reduceEqDiff, Int.reduceEq, Int.reduceLT, Int.reduceLE, qC, zy, zC, zF, zH, zB, zJ, zK, zL, jI g0, jW g0, jZ g0, wB g0, jR g0, wM g0, wS g0, wX g0 hm.b.ne, jG, eT, c1, c2, c3, c4, zi (zy _ _ _), zi (zC _ _ _), zi (zF _ _ _), zi (zH _ _ _), zi (zB _ _ _), zi (zJ _ _ _), zi (zK _ _ _), zi (zL _ _ _), zi (jI g0), zi (jW g0), zi (jZ g0), zi (wB g0), zi (jR g0), zi (wM g0), zi (wS g0), zi (wX g0 hm.b.ne), zi (jG _), zi (eT _), zi (c1 _), zi (c2 _), zi (c3 _), zi (c4 _), gvw, k0, k1, k2, k3, k4, k5, k6, hc0]
  rw [hTe] at hr
  exact zh.runs hr (.inr rfl) hc rfl
theorem zh.v2 {m : wz} (hm : m.Ok) (hk : m.kind = 2) (S : zk) : jf Try.prog O zh.id [mv m] S = some (.bool (kH m), S) := by
 obtain ⟨T, hTe⟩ : ∃ T, T = (mv m :: undef :: undef :: undef :: undef :: undef :: undef :: undef :: undef :: undef :: undef :: undef :: undef :: undef :: undef :: undef :: undef :: undef :: undef :: undef :: undef :: undef :: undef :: undef :: undef :: undef :: undef :: undef :: undef :: undef :: undef :: undef :: undef :: undef :: undef :: undef :: undef :: undef :: undef :: undef :: undef :: undef :: undef :: undef :: undef :: undef :: undef :: undef :: undef :: undef :: undef :: undef :: undef :: undef :: undef :: undef :: undef :: undef :: undef :: undef :: undef :: undef :: undef :: undef :: undef :: undef :: undef :: undef :: undef :: undef :: undef :: undef :: undef :: undef :: undef :: undef :: undef :: undef :: undef :: undef :: undef :: undef :: undef :: undef :: undef :: undef :: undef :: undef :: undef :: undef :: undef :: undef :: undef :: undef :: undef :: undef :: undef :: undef :: undef :: undef :: undef :: undef :: undef :: undef :: undef :: undef :: undef :: undef :: undef :: undef :: undef :: undef :: undef :: undef :: undef :: undef :: undef :: undef :: undef :: undef :: undef :: undef :: undef :: undef :: undef :: undef :: undef :: undef :: undef :: undef :: undef :: undef :: undef :: undef :: undef :: undef :: undef :: undef :: undef :: undef :: undef :: undef :: undef :: undef :: undef :: undef :: undef :: undef :: undef :: undef :: undef :: undef :: undef :: undef :: undef :: undef :: undef :: undef :: undef :: undef :: undef :: undef :: undef :: undef :: undef :: undef :: undef :: undef :: undef :: []) := ⟨_, rfl⟩
 have hr : zG Try.prog O false zh.code T zk.empty = zG Try.prog O false zh.code T zk.empty := rfl
 have g0 := ku m
 have c1 := fun S => jh.v hm.b S
 have c2 := fun S => jg.v hm.value.2 S
 have c3 := fun S => zX.v m.tx S
 have c4 := fun S => zq.v hm.b S
 have hc : [mv m].all (jB 16) = true := all1 (wR hm.b.okl.le)
 have eT : ∀ S, jS Try.prog .neq 25 (tv m.tx) (.agg [Value.int .i64 0, .int .i64 0].toArray) S = some (.bool (!decide (m.tx = ⟨0, 0⟩)), S) := fun S => ZE m.tx ⟨0, 0⟩ S
 have k0 : decide (m.kind = 0) = false := decide_eq_false (by omega)
 have k1 : decide (m.kind = 1) = false := decide_eq_false (by omega)
 have k2 : decide (m.kind = 2) = true := decide_eq_true hk
 have k3 : decide (m.kind = 3) = false := decide_eq_false (by omega)
 have k4 : decide (m.kind = 4) = false := decide_eq_false (by omega)
 have k5 : decide (m.kind = 5) = false := decide_eq_false (by omega)
 have k6 : decide (m.kind = 6) = false := decide_eq_false (by omega)
 have ek : kU m = ((decide (m.index = 0) && decide (m.view = 0)) && nameB m.value) := by simp only [kU, hk, KT, vwB, Int.reduceEq, if_true, if_false, reduceIte, or_true, true_or, or_false, or_self]
 unfold kH
 rw [ek]
 obtain ⟨c, hc0⟩ : ∃ b, (decide (m.frm < 0) || decide (6 < m.frm)) = b := ⟨_, rfl⟩
 obtain ⟨d, hd⟩ : ∃ b, kM m = b := ⟨_, rfl⟩
 have hd2 := hd
 unfold kM at hd2
 simp only [k0, k1, k2, k3, k4, k5, k6, Bool.not_true, Bool.not_false, Bool.true_and, Bool.false_and, Bool.or_false, Bool.false_or] at hd2
 rw [hc0, hd]
 cases c
 ·
  cases d
  ·
   simp only [Bool.false_eq_true, if_false]
   conv at hr =>
    rhs
    rw [hTe]
    simp only [zh.code, zh.rs, zSs, reduceIte, Nat.reduceEqDiff, Int.reduceEq, Int.reduceLT, Int.reduceLE, qC, zy, zC, zF, zH, zB, zJ, zK, zL, jI g0, jW g0, jZ g0, wB g0, jR g0, wM g0, wS g0, wX g0 hm.b.ne, jG, eT, c1, c2, c3, c4, zi (zy _ _ _), zi (zC _ _ _), zi (zF _ _ _), zi (zH _ _ _), zi (zB _ _ _), zi (zJ _ _ _), zi (zK _ _ _), zi (zL _ _ _), zi (jI g0), zi (jW g0), zi (jZ g0), zi (wB g0), zi (jR g0), zi (wM g0), zi (wS g0), zi (wX g0 hm.b.ne), zi (jG _), zi (eT _), zi (c1 _), zi (c2 _), zi (c3 _), zi (c4 _), gvw, k0, k1, k2, k3, k4, k5, k6, hc0, hd2, Bool.not_true, Bool.not_false, Bool.true_and, Bool.false_and, Bool.or_false, Bool.false_or]
   rw [hTe] at hr
   exact zh.runs hr (.inr rfl) hc rfl
  ·
   simp only [Bool.false_eq_true, if_false, if_true]
   conv at hr =>
    rhs
    rw [hTe]
    simp only [zh.code, zh.rs, zSs, reduceIte, Nat.reduceEqDiff, Int.reduceEq, Int.reduceLT, Int.reduceLE, qC, zy, zC, zF, zH, zB, zJ, zK, zL, jI g0, jW g0, jZ g0, wB g0, jR g0, wM g0, wS g0, wX g0 hm.b.ne, jG, eT, c1, c2, c3, c4, zi (zy _ _ _), zi (zC _ _ _), zi (zF _ _ _), zi (zH _ _ _), zi (zB _ _ _), zi (zJ _ _ _), zi (zK _ _ _), zi (zL _ _ _), zi (jI g0), zi (jW g0), zi (jZ g0), zi (wB g0), zi (jR g0), zi (wM g0), zi (wS g0), zi (wX g0 hm.b.ne), zi (jG _), zi (eT _), zi (c1 _), zi (c2 _), zi (c3 _), zi (c4 _), gvw, k0, k1, k2, k3, k4, k5, k6, hc0, hd2, Bool.not_true, Bool.not_false, Bool.true_and, Bool.false_and, Bool.or_false, Bool.false_or]
   rw [hTe] at hr
   exact zh.runs hr (.inr rfl) hc rfl
 ·
  simp only [if_true]
  conv at hr =>
   rhs
   rw [hTe]
   simp only [zh.code, zh.rs, zSs, reduceIte, Nat.reduceEqDiff, Int.reduceEq, Int.reduceLT, Int.reduceLE, qC, zy, zC, zF, zH, zB, zJ, zK, zL, jI g0, jW g0, jZ g0, wB g0, jR g0, wM g0, wS g0, wX g0 hm.b.ne, jG, eT, c1, c2, c3, c4, zi (zy _ _ _), zi (zC _ _ _), zi (zF _ _ _), zi (zH _ _ _), zi (zB _ _ _), zi (zJ _ _ _), zi (zK _ _ _), zi (zL _ _ _), zi (jI g0), zi (jW g0), zi (jZ g0), zi (wB g0), zi (jR g0), zi (wM g0), zi (wS g0), zi (wX g0 hm.b.ne), zi (jG _), zi (eT _), zi (c1 _), zi (c2 _), zi (c3 _), zi (c4 _), gvw, k0, k1, k2, k3, k4, k5, k6, hc0]
  rw [hTe] at hr
  exact zh.runs hr (.inr rfl) hc rfl
theorem zh.v3 {m : wz} (hm : m.Ok) (hk : m.kind = 3) (S : zk) : jf Try.prog O zh.id [mv m] S = some (.bool (kH m), S) := by
 obtain ⟨T, hTe⟩ : ∃ T, T = (mv m :: undef :: undef :: undef :: undef :: undef :: undef :: undef :: undef :: undef :: undef :: undef :: undef :: undef :: undef :: undef :: undef :: undef :: undef :: undef :: undef :: undef :: undef :: undef :: undef :: undef :: undef :: undef :: undef :: undef :: undef :: undef :: undef :: undef :: undef :: undef :: undef :: undef :: undef :: undef :: undef :: undef :: undef :: undef :: undef :: undef :: undef :: undef :: undef :: undef :: undef :: undef :: undef :: undef :: undef :: undef :: undef :: undef :: undef :: undef :: undef :: undef :: undef :: undef :: undef :: undef :: undef :: undef :: undef :: undef :: undef :: undef :: undef :: undef :: undef :: undef :: undef :: undef :: undef :: undef :: undef :: undef :: undef :: undef :: undef :: undef :: undef :: undef :: undef :: undef :: undef :: undef :: undef :: undef :: undef :: undef :: undef :: undef :: undef :: undef :: undef :: undef :: undef :: undef :: undef :: undef :: undef :: undef :: undef :: undef :: undef :: undef :: undef :: undef :: undef :: undef :: undef :: undef :: undef :: undef :: undef :: undef :: undef :: undef :: undef :: undef :: undef :: undef :: undef :: undef :: undef :: undef :: undef :: undef :: undef :: undef :: undef :: undef :: undef :: undef :: undef :: undef :: undef :: undef :: undef :: undef :: undef :: undef :: undef :: undef :: undef :: undef :: undef :: undef :: undef :: undef :: undef :: undef :: undef :: undef :: undef :: undef :: undef :: undef :: undef :: undef :: undef :: undef :: undef :: []) := ⟨_, rfl⟩
 have hr : zG Try.prog O false zh.code T zk.empty = zG Try.prog O false zh.code T zk.empty := rfl
 have g0 := ku m
 have c1 := fun S => jh.v hm.b S
 have c2 := fun S => jg.v hm.value.2 S
 have c3 := fun S => zX.v m.tx S
 have c4 := fun S => zq.v hm.b S
 have hc : [mv m].all (jB 16) = true := all1 (wR hm.b.okl.le)
 have eT : ∀ S, jS Try.prog .neq 25 (tv m.tx) (.agg [Value.int .i64 0, .int .i64 0].toArray) S = some (.bool (!decide (m.tx = ⟨0, 0⟩)), S) := fun S => ZE m.tx ⟨0, 0⟩ S
 have k0 : decide (m.kind = 0) = false := decide_eq_false (by omega)
 have k1 : decide (m.kind = 1) = false := decide_eq_false (by omega)
 have k2 : decide (m.kind = 2) = false := decide_eq_false (by omega)
 have k3 : decide (m.kind = 3) = true := decide_eq_true hk
 have k4 : decide (m.kind = 4) = false := decide_eq_false (by omega)
 have k5 : decide (m.kind = 5) = false := decide_eq_false (by omega)
 have k6 : decide (m.kind = 6) = false := decide_eq_false (by omega)
 have ek : kU m = (((((decide (0 ≤ m.index) && decide (m.index ≤ 1000)) && (decide (0 ≤ m.view) && decide (m.view ≤ 1000))) && nameB m.value) && decide (-1 ≤ m.prep)) && decide (m.prep < m.view)) := by simp only [kU, hk, KT, vwB, Int.reduceEq, if_true, if_false, reduceIte, or_true, true_or, or_false, or_self]
 unfold kH
 rw [ek]
 obtain ⟨c, hc0⟩ : ∃ b, (decide (m.frm < 0) || decide (6 < m.frm)) = b := ⟨_, rfl⟩
 obtain ⟨d, hd⟩ : ∃ b, kM m = b := ⟨_, rfl⟩
 have hd2 := hd
 unfold kM at hd2
 simp only [k0, k1, k2, k3, k4, k5, k6, Bool.not_true, Bool.not_false, Bool.true_and, Bool.false_and, Bool.or_false, Bool.false_or] at hd2
 rw [hc0, hd]
 cases c
 ·
  cases d
  ·
   simp only [Bool.false_eq_true, if_false]
   conv at hr =>
    rhs
    rw [hTe]
    simp only [zh.code, zh.rs, zSs, reduceIte, Nat.reduceEqDiff, Int.reduceEq, Int.reduceLT, Int.reduceLE, qC, zy, zC, zF, zH, zB, zJ, zK, zL, jI g0, jW g0, jZ g0, wB g0, jR g0, wM g0, wS g0, wX g0 hm.b.ne, jG, eT, c1, c2, c3, c4, zi (zy _ _ _), zi (zC _ _ _), zi (zF _ _ _), zi (zH _ _ _), zi (zB _ _ _), zi (zJ _ _ _), zi (zK _ _ _), zi (zL _ _ _), zi (jI g0), zi (jW g0), zi (jZ g0), zi (wB g0), zi (jR g0), zi (wM g0), zi (wS g0), zi (wX g0 hm.b.ne), zi (jG _), zi (eT _), zi (c1 _), zi (c2 _), zi (c3 _), zi (c4 _), gvw, k0, k1, k2, k3, k4, k5, k6, hc0, hd2, Bool.not_true, Bool.not_false, Bool.true_and, Bool.false_and, Bool.or_false, Bool.false_or]
   rw [hTe] at hr
   exact zh.runs hr (.inr rfl) hc rfl
  ·
   simp only [Bool.false_eq_true, if_false, if_true]
   conv at hr =>
    rhs
    rw [hTe]
    simp only [zh.code, zh.rs, zSs, reduceIte, Nat.reduceEqDiff, Int.reduceEq, Int.reduceLT, Int.reduceLE, qC, zy, zC, zF, zH, zB, zJ, zK, zL, jI g0, jW g0, jZ g0, wB g0, jR g0, wM g0, wS g0, wX g0 hm.b.ne, jG, eT, c1, c2, c3, c4, zi (zy _ _ _), zi (zC _ _ _), zi (zF _ _ _), zi (zH _ _ _), zi (zB _ _ _), zi (zJ _ _ _), zi (zK _ _ _), zi (zL _ _ _), zi (jI g0), zi (jW g0), zi (jZ g0), zi (wB g0), zi (jR g0), zi (wM g0), zi (wS g0), zi (wX g0 hm.b.ne), zi (jG _), zi (eT _), zi (c1 _), zi (c2 _), zi (c3 _), zi (c4 _), gvw, k0, k1, k2, k3, k4, k5, k6, hc0, hd2, Bool.not_true, Bool.not_false, Bool.true_and, Bool.false_and, Bool.or_false, Bool.false_or]
   rw [hTe] at hr
   exact zh.runs hr (.inr rfl) hc rfl
 ·
  simp only [if_true]
  conv at hr =>
   rhs
   rw [hTe]
   simp only [zh.code, zh.rs, zSs, reduceIte, Nat.reduceEqDiff, Int.reduceEq, Int.reduceLT, Int.reduceLE, qC, zy, zC, zF, zH, zB, zJ, zK, zL, jI g0, jW g0, jZ g0, wB g0, jR g0, wM g0, wS g0, wX g0 hm.b.ne, jG, eT, c1, c2, c3, c4, zi (zy _ _ _), zi (zC _ _ _), zi (zF _ _ _), zi (zH _ _ _), zi (zB _ _ _), zi (zJ _ _ _), zi (zK _ _ _), zi (zL _ _ _), zi (jI g0), zi (jW g0), zi (jZ g0), zi (wB g0), zi (jR g0), zi (wM g0), zi (wS g0), zi (wX g0 hm.b.ne), zi (jG _), zi (eT _), zi (c1 _), zi (c2 _), zi (c3 _), zi (c4 _), gvw, k0, k1, k2, k3, k4, k5, k6, hc0]
  rw [hTe] at hr
  exact zh.runs hr (.inr rfl) hc rfl
theorem zh.v4 {m : wz} (hm : m.Ok) (hk : m.kind = 4) (S : zk) : jf Try.prog O zh.id [mv m] S = some (.bool (kH m), S) := by
 obtain ⟨T, hTe⟩ : ∃ T, T = (mv m :: undef :: undef :: undef :: undef :: undef :: undef :: undef :: undef :: undef :: undef :: undef :: undef :: undef :: undef :: undef :: undef :: undef :: undef :: undef :: undef :: undef :: undef :: undef :: undef :: undef :: undef :: undef :: undef :: undef :: undef :: undef :: undef :: undef :: undef :: undef :: undef :: undef :: undef :: undef :: undef :: undef :: undef :: undef :: undef :: undef :: undef :: undef :: undef :: undef :: undef :: undef :: undef :: undef :: undef :: undef :: undef :: undef :: undef :: undef :: undef :: undef :: undef :: undef :: undef :: undef :: undef :: undef :: undef :: undef :: undef :: undef :: undef :: undef :: undef :: undef :: undef :: undef :: undef :: undef :: undef :: undef :: undef :: undef :: undef :: undef :: undef :: undef :: undef :: undef :: undef :: undef :: undef :: undef :: undef :: undef :: undef :: undef :: undef :: undef :: undef :: undef :: undef :: undef :: undef :: undef :: undef :: undef :: undef :: undef :: undef :: undef :: undef :: undef :: undef :: undef :: undef :: undef :: undef :: undef :: undef :: undef :: undef :: undef :: undef :: undef :: undef :: undef :: undef :: undef :: undef :: undef :: undef :: undef :: undef :: undef :: undef :: undef :: undef :: undef :: undef :: undef :: undef :: undef :: undef :: undef :: undef :: undef :: undef :: undef :: undef :: undef :: undef :: undef :: undef :: undef :: undef :: undef :: undef :: undef :: undef :: undef :: undef :: undef :: undef :: undef :: undef :: undef :: undef :: []) := ⟨_, rfl⟩
 have hr : zG Try.prog O false zh.code T zk.empty = zG Try.prog O false zh.code T zk.empty := rfl
 have g0 := ku m
 have c1 := fun S => jh.v hm.b S
 have c2 := fun S => jg.v hm.value.2 S
 have c3 := fun S => zX.v m.tx S
 have c4 := fun S => zq.v hm.b S
 have hc : [mv m].all (jB 16) = true := all1 (wR hm.b.okl.le)
 have eT : ∀ S, jS Try.prog .neq 25 (tv m.tx) (.agg [Value.int .i64 0, .int .i64 0].toArray) S = some (.bool (!decide (m.tx = ⟨0, 0⟩)), S) := fun S => ZE m.tx ⟨0, 0⟩ S
 have k0 : decide (m.kind = 0) = false := decide_eq_false (by omega)
 have k1 : decide (m.kind = 1) = false := decide_eq_false (by omega)
 have k2 : decide (m.kind = 2) = false := decide_eq_false (by omega)
 have k3 : decide (m.kind = 3) = false := decide_eq_false (by omega)
 have k4 : decide (m.kind = 4) = true := decide_eq_true hk
 have k5 : decide (m.kind = 5) = false := decide_eq_false (by omega)
 have k6 : decide (m.kind = 6) = false := decide_eq_false (by omega)
 have ek : kU m = (((decide (0 ≤ m.index) && decide (m.index ≤ 1000)) && (decide (0 ≤ m.view) && decide (m.view ≤ 1000))) && (decide (m.value = -1) || nameB m.value)) := by simp only [kU, hk, KT, vwB, Int.reduceEq, if_true, if_false, reduceIte, or_true, true_or, or_false, or_self]
 unfold kH
 rw [ek]
 obtain ⟨c, hc0⟩ : ∃ b, (decide (m.frm < 0) || decide (6 < m.frm)) = b := ⟨_, rfl⟩
 obtain ⟨d, hd⟩ : ∃ b, kM m = b := ⟨_, rfl⟩
 have hd2 := hd
 unfold kM at hd2
 simp only [k0, k1, k2, k3, k4, k5, k6, Bool.not_true, Bool.not_false, Bool.true_and, Bool.false_and, Bool.or_false, Bool.false_or] at hd2
 rw [hc0, hd]
 cases c
 ·
  cases d
  ·
   simp only [Bool.false_eq_true, if_false]
   conv at hr =>
    rhs
    rw [hTe]
    simp only [zh.code, zh.rs, zSs, reduceIte, Nat.reduceEqDiff, Int.reduceEq, Int.reduceLT, Int.reduceLE, qC, zy, zC, zF, zH, zB, zJ, zK, zL, jI g0, jW g0, jZ g0, wB g0, jR g0, wM g0, wS g0, wX g0 hm.b.ne, jG, eT, c1, c2, c3, c4, zi (zy _ _ _), zi (zC _ _ _), zi (zF _ _ _), zi (zH _ _ _), zi (zB _ _ _), zi (zJ _ _ _), zi (zK _ _ _), zi (zL _ _ _), zi (jI g0), zi (jW g0), zi (jZ g0), zi (wB g0), zi (jR g0), zi (wM g0), zi (wS g0), zi (wX g0 hm.b.ne), zi (jG _), zi (eT _), zi (c1 _), zi (c2 _), zi (c3 _), zi (c4 _), gvw, k0, k1, k2, k3, k4, k5, k6, hc0, hd2, Bool.not_true, Bool.not_false, Bool.true_and, Bool.false_and, Bool.or_false, Bool.false_or]
   rw [hTe] at hr
   exact zh.runs hr (.inr rfl) hc rfl
  ·
   simp only [Bool.false_eq_true, if_false, if_true]
   conv at hr =>
    rhs
    rw [hTe]
    simp only [zh.code, zh.rs, zSs, reduceIte, Nat.reduceEqDiff, Int.reduceEq, Int.reduceLT, Int.reduceLE, qC, zy, zC, zF, zH, zB, zJ, zK, zL, jI g0, jW g0, jZ g0, wB g0, jR g0, wM g0, wS g0, wX g0 hm.b.ne, jG, eT, c1, c2, c3, c4, zi (zy _ _ _), zi (zC _ _ _), zi (zF _ _ _), zi (zH _ _ _), zi (zB _ _ _), zi (zJ _ _ _), zi (zK _ _ _), zi (zL _ _ _), zi (jI g0), zi (jW g0), zi (jZ g0), zi (wB g0), zi (jR g0), zi (wM g0), zi (wS g0), zi (wX g0 hm.b.ne), zi (jG _), zi (eT _), zi (c1 _), zi (c2 _), zi (c3 _), zi (c4 _), gvw, k0, k1, k2, k3, k4, k5, k6, hc0, hd2, Bool.not_true, Bool.not_false, Bool.true_and, Bool.false_and, Bool.or_false, Bool.false_or]
   rw [hTe] at hr
   exact zh.runs hr (.inr rfl) hc rfl
 ·
  simp only [if_true]
  conv at hr =>
   rhs
   rw [hTe]
   simp only [zh.code, zh.rs, zSs, reduceIte, Nat.reduceEqDiff, Int.reduceEq, Int.reduceLT, Int.reduceLE, qC, zy, zC, zF, zH, zB, zJ, zK, zL, jI g0, jW g0, jZ g0, wB g0, jR g0, wM g0, wS g0, wX g0 hm.b.ne, jG, eT, c1, c2, c3, c4, zi (zy _ _ _), zi (zC _ _ _), zi (zF _ _ _), zi (zH _ _ _), zi (zB _ _ _), zi (zJ _ _ _), zi (zK _ _ _), zi (zL _ _ _), zi (jI g0), zi (jW g0), zi (jZ g0), zi (wB g0), zi (jR g0), zi (wM g0), zi (wS g0), zi (wX g0 hm.b.ne), zi (jG _), zi (eT _), zi (c1 _), zi (c2 _), zi (c3 _), zi (c4 _), gvw, k0, k1, k2, k3, k4, k5, k6, hc0]
  rw [hTe] at hr
  exact zh.runs hr (.inr rfl) hc rfl
theorem zh.v5 {m : wz} (hm : m.Ok) (hk : m.kind = 5) (S : zk) : jf Try.prog O zh.id [mv m] S = some (.bool (kH m), S) := by
 obtain ⟨T, hTe⟩ : ∃ T, T = (mv m :: undef :: undef :: undef :: undef :: undef :: undef :: undef :: undef :: undef :: undef :: undef :: undef :: undef :: undef :: undef :: undef :: undef :: undef :: undef :: undef :: undef :: undef :: undef :: undef :: undef :: undef :: undef :: undef :: undef :: undef :: undef :: undef :: undef :: undef :: undef :: undef :: undef :: undef :: undef :: undef :: undef :: undef :: undef :: undef :: undef :: undef :: undef :: undef :: undef :: undef :: undef :: undef :: undef :: undef :: undef :: undef :: undef :: undef :: undef :: undef :: undef :: undef :: undef :: undef :: undef :: undef :: undef :: undef :: undef :: undef :: undef :: undef :: undef :: undef :: undef :: undef :: undef :: undef :: undef :: undef :: undef :: undef :: undef :: undef :: undef :: undef :: undef :: undef :: undef :: undef :: undef :: undef :: undef :: undef :: undef :: undef :: undef :: undef :: undef :: undef :: undef :: undef :: undef :: undef :: undef :: undef :: undef :: undef :: undef :: undef :: undef :: undef :: undef :: undef :: undef :: undef :: undef :: undef :: undef :: undef :: undef :: undef :: undef :: undef :: undef :: undef :: undef :: undef :: undef :: undef :: undef :: undef :: undef :: undef :: undef :: undef :: undef :: undef :: undef :: undef :: undef :: undef :: undef :: undef :: undef :: undef :: undef :: undef :: undef :: undef :: undef :: undef :: undef :: undef :: undef :: undef :: undef :: undef :: undef :: undef :: undef :: undef :: undef :: undef :: undef :: undef :: undef :: undef :: []) := ⟨_, rfl⟩
 have hr : zG Try.prog O false zh.code T zk.empty = zG Try.prog O false zh.code T zk.empty := rfl
 have g0 := ku m
 have c1 := fun S => jh.v hm.b S
 have c2 := fun S => jg.v hm.value.2 S
 have c3 := fun S => zX.v m.tx S
 have c4 := fun S => zq.v hm.b S
 have hc : [mv m].all (jB 16) = true := all1 (wR hm.b.okl.le)
 have eT : ∀ S, jS Try.prog .neq 25 (tv m.tx) (.agg [Value.int .i64 0, .int .i64 0].toArray) S = some (.bool (!decide (m.tx = ⟨0, 0⟩)), S) := fun S => ZE m.tx ⟨0, 0⟩ S
 have k0 : decide (m.kind = 0) = false := decide_eq_false (by omega)
 have k1 : decide (m.kind = 1) = false := decide_eq_false (by omega)
 have k2 : decide (m.kind = 2) = false := decide_eq_false (by omega)
 have k3 : decide (m.kind = 3) = false := decide_eq_false (by omega)
 have k4 : decide (m.kind = 4) = false := decide_eq_false (by omega)
 have k5 : decide (m.kind = 5) = true := decide_eq_true hk
 have k6 : decide (m.kind = 6) = false := decide_eq_false (by omega)
 have ek : kU m = (((decide (0 ≤ m.index) && decide (m.index ≤ 1000)) && (decide (0 ≤ m.view) && decide (m.view ≤ 1000))) && (decide (m.value = -1) || nameB m.value)) := by simp only [kU, hk, KT, vwB, Int.reduceEq, if_true, if_false, reduceIte, or_true, true_or, or_false, or_self]
 unfold kH
 rw [ek]
 obtain ⟨c, hc0⟩ : ∃ b, (decide (m.frm < 0) || decide (6 < m.frm)) = b := ⟨_, rfl⟩
 obtain ⟨d, hd⟩ : ∃ b, kM m = b := ⟨_, rfl⟩
 have hd2 := hd
 unfold kM at hd2
 simp only [k0, k1, k2, k3, k4, k5, k6, Bool.not_true, Bool.not_false, Bool.true_and, Bool.false_and, Bool.or_false, Bool.false_or] at hd2
 rw [hc0, hd]
 cases c
 ·
  cases d
  ·
   simp only [Bool.false_eq_true, if_false]
   conv at hr =>
    rhs
    rw [hTe]
    simp only [zh.code, zh.rs, zSs, reduceIte, Nat.reduceEqDiff, Int.reduceEq, Int.reduceLT, Int.reduceLE, qC, zy, zC, zF, zH, zB, zJ, zK, zL, jI g0, jW g0, jZ g0, wB g0, jR g0, wM g0, wS g0, wX g0 hm.b.ne, jG, eT, c1, c2, c3, c4, zi (zy _ _ _), zi (zC _ _ _), zi (zF _ _ _), zi (zH _ _ _), zi (zB _ _ _), zi (zJ _ _ _), zi (zK _ _ _), zi (zL _ _ _), zi (jI g0), zi (jW g0), zi (jZ g0), zi (wB g0), zi (jR g0), zi (wM g0), zi (wS g0), zi (wX g0 hm.b.ne), zi (jG _), zi (eT _), zi (c1 _), zi (c2 _), zi (c3 _), zi (c4 _), gvw, k0, k1, k2, k3, k4, k5, k6, hc0, hd2, Bool.not_true, Bool.not_false, Bool.true_and, Bool.false_and, Bool.or_false, Bool.false_or]
   rw [hTe] at hr
   exact zh.runs hr (.inr rfl) hc rfl
  ·
   simp only [Bool.false_eq_true, if_false, if_true]
   conv at hr =>
    rhs
    rw [hTe]
    simp only [zh.code, zh.rs, zSs, reduceIte, Nat.reduceEqDiff, Int.reduceEq, Int.reduceLT, Int.reduceLE, qC, zy, zC, zF, zH, zB, zJ, zK, zL, jI g0, jW g0, jZ g0, wB g0, jR g0, wM g0, wS g0, wX g0 hm.b.ne, jG, eT, c1, c2, c3, c4, zi (zy _ _ _), zi (zC _ _ _), zi (zF _ _ _), zi (zH _ _ _), zi (zB _ _ _), zi (zJ _ _ _), zi (zK _ _ _), zi (zL _ _ _), zi (jI g0), zi (jW g0), zi (jZ g0), zi (wB g0), zi (jR g0), zi (wM g0), zi (wS g0), zi (wX g0 hm.b.ne), zi (jG _), zi (eT _), zi (c1 _), zi (c2 _), zi (c3 _), zi (c4 _), gvw, k0, k1, k2, k3, k4, k5, k6, hc0, hd2, Bool.not_true, Bool.not_false, Bool.true_and, Bool.false_and, Bool.or_false, Bool.false_or]
   rw [hTe] at hr
   exact zh.runs hr (.inr rfl) hc rfl
 ·
  simp only [if_true]
  conv at hr =>
   rhs
   rw [hTe]
   simp only [zh.code, zh.rs, zSs, reduceIte, Nat.reduceEqDiff, Int.reduceEq, Int.reduceLT, Int.reduceLE, qC, zy, zC, zF, zH, zB, zJ, zK, zL, jI g0, jW g0, jZ g0, wB g0, jR g0, wM g0, wS g0, wX g0 hm.b.ne, jG, eT, c1, c2, c3, c4, zi (zy _ _ _), zi (zC _ _ _), zi (zF _ _ _), zi (zH _ _ _), zi (zB _ _ _), zi (zJ _ _ _), zi (zK _ _ _), zi (zL _ _ _), zi (jI g0), zi (jW g0), zi (jZ g0), zi (wB g0), zi (jR g0), zi (wM g0), zi (wS g0), zi (wX g0 hm.b.ne), zi (jG _), zi (eT _), zi (c1 _), zi (c2 _), zi (c3 _), zi (c4 _), gvw, k0, k1, k2, k3, k4, k5, k6, hc0]
  rw [hTe] at hr
  exact zh.runs hr (.inr rfl) hc rfl
theorem zh.v6 {m : wz} (hm : m.Ok) (hk : m.kind = 6) (S : zk) : jf Try.prog O zh.id [mv m] S = some (.bool (kH m), S) := by
 obtain ⟨T, hTe⟩ : ∃ T, T = (mv m :: undef :: undef :: undef :: undef :: undef :: undef :: undef :: undef :: undef :: undef :: undef :: undef :: undef :: undef :: undef :: undef :: undef :: undef :: undef :: undef :: undef :: undef :: undef :: undef :: undef :: undef :: undef :: undef :: undef :: undef :: undef :: undef :: undef :: undef :: undef :: undef :: undef :: undef :: undef :: undef :: undef :: undef :: undef :: undef :: undef :: undef :: undef :: undef :: undef :: undef :: undef :: undef :: undef :: undef :: undef :: undef :: undef :: undef :: undef :: undef :: undef :: undef :: undef :: undef :: undef :: undef :: undef :: undef :: undef :: undef :: undef :: undef :: undef :: undef :: undef :: undef :: undef :: undef :: undef :: undef :: undef :: undef :: undef :: undef :: undef :: undef :: undef :: undef :: undef :: undef :: undef :: undef :: undef :: undef :: undef :: undef :: undef :: undef :: undef :: undef :: undef :: undef :: undef :: undef :: undef :: undef :: undef :: undef :: undef :: undef :: undef :: undef :: undef :: undef :: undef :: undef :: undef :: undef :: undef :: undef :: undef :: undef :: undef :: undef :: undef :: undef :: undef :: undef :: undef :: undef :: undef :: undef :: undef :: undef :: undef :: undef :: undef :: undef :: undef :: undef :: undef :: undef :: undef :: undef :: undef :: undef :: undef :: undef :: undef :: undef :: undef :: undef :: undef :: undef :: undef :: undef :: undef :: undef :: undef :: undef :: undef :: undef :: undef :: undef :: undef :: undef :: undef :: undef :: []) := ⟨_, rfl⟩
 have hr : zG Try.prog O false zh.code T zk.empty = zG Try.prog O false zh.code T zk.empty := rfl
 have g0 := ku m
 have c1 := fun S => jh.v hm.b S
 have c2 := fun S => jg.v hm.value.2 S
 have c3 := fun S => zX.v m.tx S
 have c4 := fun S => zq.v hm.b S
 have hc : [mv m].all (jB 16) = true := all1 (wR hm.b.okl.le)
 have eT : ∀ S, jS Try.prog .neq 25 (tv m.tx) (.agg [Value.int .i64 0, .int .i64 0].toArray) S = some (.bool (!decide (m.tx = ⟨0, 0⟩)), S) := fun S => ZE m.tx ⟨0, 0⟩ S
 have k0 : decide (m.kind = 0) = false := decide_eq_false (by omega)
 have k1 : decide (m.kind = 1) = false := decide_eq_false (by omega)
 have k2 : decide (m.kind = 2) = false := decide_eq_false (by omega)
 have k3 : decide (m.kind = 3) = false := decide_eq_false (by omega)
 have k4 : decide (m.kind = 4) = false := decide_eq_false (by omega)
 have k5 : decide (m.kind = 5) = false := decide_eq_false (by omega)
 have k6 : decide (m.kind = 6) = true := decide_eq_true hk
 have ek : kU m = (((decide (0 ≤ m.index) && decide (m.index ≤ 1000)) && decide (m.view = 0)) && nameB m.value) := by simp only [kU, hk, KT, vwB, Int.reduceEq, if_true, if_false, reduceIte, or_true, true_or, or_false, or_self]
 unfold kH
 rw [ek]
 obtain ⟨c, hc0⟩ : ∃ b, (decide (m.frm < 0) || decide (6 < m.frm)) = b := ⟨_, rfl⟩
 obtain ⟨d, hd⟩ : ∃ b, kM m = b := ⟨_, rfl⟩
 have hd2 := hd
 unfold kM at hd2
 simp only [k0, k1, k2, k3, k4, k5, k6, Bool.not_true, Bool.not_false, Bool.true_and, Bool.false_and, Bool.or_false, Bool.false_or] at hd2
 rw [hc0, hd]
 cases c
 ·
  cases d
  ·
   simp only [Bool.false_eq_true, if_false]
   conv at hr =>
    rhs
    rw [hTe]
    simp only [zh.code, zh.rs, zSs, reduceIte, Nat.reduceEqDiff, Int.reduceEq, Int.reduceLT, Int.reduceLE, qC, zy, zC, zF, zH, zB, zJ, zK, zL, jI g0, jW g0, jZ g0, wB g0, jR g0, wM g0, wS g0, wX g0 hm.b.ne, jG, eT, c1, c2, c3, c4, zi (zy _ _ _), zi (zC _ _ _), zi (zF _ _ _), zi (zH _ _ _), zi (zB _ _ _), zi (zJ _ _ _), zi (zK _ _ _), zi (zL _ _ _), zi (jI g0), zi (jW g0), zi (jZ g0), zi (wB g0), zi (jR g0), zi (wM g0), zi (wS g0), zi (wX g0 hm.b.ne), zi (jG _), zi (eT _), zi (c1 _), zi (c2 _), zi (c3 _), zi (c4 _), gvw, k0, k1, k2, k3, k4, k5, k6, hc0, hd2, Bool.not_true, Bool.not_false, Bool.true_and, Bool.false_and, Bool.or_false, Bool.false_or]
   rw [hTe] at hr
   exact zh.runs hr (.inr rfl) hc rfl
  ·
   simp only [Bool.false_eq_true, if_false, if_true]
   conv at hr =>
    rhs
    rw [hTe]
    simp only [zh.code, zh.rs, zSs, reduceIte, Nat.reduceEqDiff, Int.reduceEq, Int.reduceLT, Int.reduceLE, qC, zy, zC, zF, zH, zB, zJ, zK, zL, jI g0, jW g0, jZ g0, wB g0, jR g0, wM g0, wS g0, wX g0 hm.b.ne, jG, eT, c1, c2, c3, c4, zi (zy _ _ _), zi (zC _ _ _), zi (zF _ _ _), zi (zH _ _ _), zi (zB _ _ _), zi (zJ _ _ _), zi (zK _ _ _), zi (zL _ _ _), zi (jI g0), zi (jW g0), zi (jZ g0), zi (wB g0), zi (jR g0), zi (wM g0), zi (wS g0), zi (wX g0 hm.b.ne), zi (jG _), zi (eT _), zi (c1 _), zi (c2 _), zi (c3 _), zi (c4 _), gvw, k0, k1, k2, k3, k4, k5, k6, hc0, hd2, Bool.not_true, Bool.not_false, Bool.true_and, Bool.false_and, Bool.or_false, Bool.false_or]
   rw [hTe] at hr
   exact zh.runs hr (.inr rfl) hc rfl
 ·
  simp only [if_true]
  conv at hr =>
   rhs
   rw [hTe]
   simp only [zh.code, zh.rs, zSs, reduceIte, Nat.reduceEqDiff, Int.reduceEq, Int.reduceLT, Int.reduceLE, qC, zy, zC, zF, zH, zB, zJ, zK, zL, jI g0, jW g0, jZ g0, wB g0, jR g0, wM g0, wS g0, wX g0 hm.b.ne, jG, eT, c1, c2, c3, c4, zi (zy _ _ _), zi (zC _ _ _), zi (zF _ _ _), zi (zH _ _ _), zi (zB _ _ _), zi (zJ _ _ _), zi (zK _ _ _), zi (zL _ _ _), zi (jI g0), zi (jW g0), zi (jZ g0), zi (wB g0), zi (jR g0), zi (wM g0), zi (wS g0), zi (wX g0 hm.b.ne), zi (jG _), zi (eT _), zi (c1 _), zi (c2 _), zi (c3 _), zi (c4 _), gvw, k0, k1, k2, k3, k4, k5, k6, hc0]
  rw [hTe] at hr
  exact zh.runs hr (.inr rfl) hc rfl
theorem zh.v7 {m : wz} (hm : m.Ok) (hk : m.kind < 0 ∨ 6 < m.kind) (S : zk) : jf Try.prog O zh.id [mv m] S = some (.bool (kH m), S) := by
 obtain ⟨T, hTe⟩ : ∃ T, T = (mv m :: undef :: undef :: undef :: undef :: undef :: undef :: undef :: undef :: undef :: undef :: undef :: undef :: undef :: undef :: undef :: undef :: undef :: undef :: undef :: undef :: undef :: undef :: undef :: undef :: undef :: undef :: undef :: undef :: undef :: undef :: undef :: undef :: undef :: undef :: undef :: undef :: undef :: undef :: undef :: undef :: undef :: undef :: undef :: undef :: undef :: undef :: undef :: undef :: undef :: undef :: undef :: undef :: undef :: undef :: undef :: undef :: undef :: undef :: undef :: undef :: undef :: undef :: undef :: undef :: undef :: undef :: undef :: undef :: undef :: undef :: undef :: undef :: undef :: undef :: undef :: undef :: undef :: undef :: undef :: undef :: undef :: undef :: undef :: undef :: undef :: undef :: undef :: undef :: undef :: undef :: undef :: undef :: undef :: undef :: undef :: undef :: undef :: undef :: undef :: undef :: undef :: undef :: undef :: undef :: undef :: undef :: undef :: undef :: undef :: undef :: undef :: undef :: undef :: undef :: undef :: undef :: undef :: undef :: undef :: undef :: undef :: undef :: undef :: undef :: undef :: undef :: undef :: undef :: undef :: undef :: undef :: undef :: undef :: undef :: undef :: undef :: undef :: undef :: undef :: undef :: undef :: undef :: undef :: undef :: undef :: undef :: undef :: undef :: undef :: undef :: undef :: undef :: undef :: undef :: undef :: undef :: undef :: undef :: undef :: undef :: undef :: undef :: undef :: undef :: undef :: undef :: undef :: undef :: []) := ⟨_, rfl⟩
 have hr : zG Try.prog O false zh.code T zk.empty = zG Try.prog O false zh.code T zk.empty := rfl
 have g0 := ku m
 have c1 := fun S => jh.v hm.b S
 have c2 := fun S => jg.v hm.value.2 S
 have c3 := fun S => zX.v m.tx S
 have c4 := fun S => zq.v hm.b S
 have hc : [mv m].all (jB 16) = true := all1 (wR hm.b.okl.le)
 have eT : ∀ S, jS Try.prog .neq 25 (tv m.tx) (.agg [Value.int .i64 0, .int .i64 0].toArray) S = some (.bool (!decide (m.tx = ⟨0, 0⟩)), S) := fun S => ZE m.tx ⟨0, 0⟩ S
 have k0 : decide (m.kind = 0) = false := decide_eq_false (by omega)
 have k1 : decide (m.kind = 1) = false := decide_eq_false (by omega)
 have k2 : decide (m.kind = 2) = false := decide_eq_false (by omega)
 have k3 : decide (m.kind = 3) = false := decide_eq_false (by omega)
 have k4 : decide (m.kind = 4) = false := decide_eq_false (by omega)
 have k5 : decide (m.kind = 5) = false := decide_eq_false (by omega)
 have k6 : decide (m.kind = 6) = false := decide_eq_false (by omega)
 have ek : kU m = false := by simp only [kU, if_neg (show ¬ m.kind = 0 by omega), if_neg (show ¬ m.kind = 1 by omega), if_neg (show ¬ m.kind = 2 by omega), if_neg (show ¬ m.kind = 3 by omega), if_neg (show ¬ (m.kind = 4 ∨ m.kind = 5) by omega), if_neg (show ¬ m.kind = 6 by omega)]
 unfold kH
 rw [ek]
 obtain ⟨c, hc0⟩ : ∃ b, (decide (m.frm < 0) || decide (6 < m.frm)) = b := ⟨_, rfl⟩
 obtain ⟨d, hd⟩ : ∃ b, kM m = b := ⟨_, rfl⟩
 have hd2 := hd
 unfold kM at hd2
 simp only [k0, k1, k2, k3, k4, k5, k6, Bool.not_true, Bool.not_false, Bool.true_and, Bool.false_and, Bool.or_false, Bool.false_or] at hd2
 rw [hc0, hd]
 cases c
 ·
  cases d
  ·
   simp only [Bool.false_eq_true, if_false]
   conv at hr =>
    rhs
    rw [hTe]
    simp only [zh.code, zh.rs, zSs, reduceIte, Nat.reduceEqDiff, Int.reduceEq, Int.reduceLT, Int.reduceLE, qC, zy, zC, zF, zH, zB, zJ, zK, zL, jI g0, jW g0, jZ g0, wB g0, jR g0, wM g0, wS g0, wX g0 hm.b.ne, jG, eT, c1, c2, c3, c4, zi (zy _ _ _), zi (zC _ _ _), zi (zF _ _ _), zi (zH _ _ _), zi (zB _ _ _), zi (zJ _ _ _), zi (zK _ _ _), zi (zL _ _ _), zi (jI g0), zi (jW g0), zi (jZ g0), zi (wB g0), zi (jR g0), zi (wM g0), zi (wS g0), zi (wX g0 hm.b.ne), zi (jG _), zi (eT _), zi (c1 _), zi (c2 _), zi (c3 _), zi (c4 _), gvw, k0, k1, k2, k3, k4, k5, k6, hc0, hd2, Bool.not_true, Bool.not_false, Bool.true_and, Bool.false_and, Bool.or_false, Bool.false_or]
   rw [hTe] at hr
   exact zh.runs hr (.inr rfl) hc rfl
  ·
   simp only [Bool.false_eq_true, if_false, if_true]
   conv at hr =>
    rhs
    rw [hTe]
    simp only [zh.code, zh.rs, zSs, reduceIte, Nat.reduceEqDiff, Int.reduceEq, Int.reduceLT, Int.reduceLE, qC, zy, zC, zF, zH, zB, zJ, zK, zL, jI g0, jW g0, jZ g0, wB g0, jR g0, wM g0, wS g0, wX g0 hm.b.ne, jG, eT, c1, c2, c3, c4, zi (zy _ _ _), zi (zC _ _ _), zi (zF _ _ _), zi (zH _ _ _), zi (zB _ _ _), zi (zJ _ _ _), zi (zK _ _ _), zi (zL _ _ _), zi (jI g0), zi (jW g0), zi (jZ g0), zi (wB g0), zi (jR g0), zi (wM g0), zi (wS g0), zi (wX g0 hm.b.ne), zi (jG _), zi (eT _), zi (c1 _), zi (c2 _), zi (c3 _), zi (c4 _), gvw, k0, k1, k2, k3, k4, k5, k6, hc0, hd2, Bool.not_true, Bool.not_false, Bool.true_and, Bool.false_and, Bool.or_false, Bool.false_or]
   rw [hTe] at hr
   exact zh.runs hr (.inr rfl) hc rfl
 ·
  simp only [if_true]
  conv at hr =>
   rhs
   rw [hTe]
   simp only [zh.code, zh.rs, zSs, reduceIte, Nat.reduceEqDiff, Int.reduceEq, Int.reduceLT, Int.reduceLE, qC, zy, zC, zF, zH, zB, zJ, zK, zL, jI g0, jW g0, jZ g0, wB g0, jR g0, wM g0, wS g0, wX g0 hm.b.ne, jG, eT, c1, c2, c3, c4, zi (zy _ _ _), zi (zC _ _ _), zi (zF _ _ _), zi (zH _ _ _), zi (zB _ _ _), zi (zJ _ _ _), zi (zK _ _ _), zi (zL _ _ _), zi (jI g0), zi (jW g0), zi (jZ g0), zi (wB g0), zi (jR g0), zi (wM g0), zi (wS g0), zi (wX g0 hm.b.ne), zi (jG _), zi (eT _), zi (c1 _), zi (c2 _), zi (c3 _), zi (c4 _), gvw, k0, k1, k2, k3, k4, k5, k6, hc0]
  rw [hTe] at hr
  exact zh.runs hr (.inr rfl) hc rfl
theorem zh.v {m : wz} (hm : m.Ok) (S : zk) : jf Try.prog O zh.id [mv m] S = some (.bool (kH m), S) := by
 have : m.kind = 0 ∨ m.kind = 1 ∨ m.kind = 2 ∨ m.kind = 3 ∨ m.kind = 4 ∨ m.kind = 5 ∨ m.kind = 6 ∨ (m.kind < 0 ∨ 6 < m.kind) := by omega
 rcases this with h | h | h | h | h | h | h | h
 ·
  exact zh.v0 hm h S
 ·
  exact zh.v1 hm h S
 ·
  exact zh.v2 hm h S
 ·
  exact zh.v3 hm h S
 ·
  exact zh.v4 hm h S
 ·
  exact zh.v5 hm h S
 ·
  exact zh.v6 hm h S
 ·
  exact zh.v7 hm h S
theorem Jb (m : wz) : okq 3 (mv m) = true := by
 have h := ahC (f := fT) (e := 2) (k := m.b.k) (l := m.b.txs) (d := 2)
 simp only [okq, List.toList_toArray, List.all_cons, List.all_nil, h, Bool.and_true]
def vF (m : wz) : Bool :=
 if m.kind < 0 ∨ 6 < m.kind then false
 else if (decide (m.frm < 0) || decide (7 ≤ m.frm)) || !kE m (wZ m) then false
 else if m.kind = 0 then qG m.tx
 else if m.kind = 1 then jL m.b
 else if m.kind = 3 ∧ (decide (m.prep < -1) || decide (m.view ≤ m.prep)) = true then false
 else (((decide (0 ≤ m.index) && decide (m.index ≤ 1000)) && decide (0 ≤ m.view)) && decide (m.view ≤ 1000)) && yS m
theorem agD {m : wz} (hm : m.Ok) : (wZ m).Ok := by
 have z : Big 0 := ⟨by omega, by omega⟩
 have zt : TxV.Ok ⟨0, 0⟩ := ⟨z, z⟩
 unfold wZ
 split
 ·
  exact ⟨ok0, hm.tx, hm.kind, hm.frm, z, z, z, z⟩
 split
 ·
  exact ⟨hm.b, zt, hm.kind, hm.frm, z, z, z, z⟩
 split
 ·
  exact ⟨ok0, zt, hm.kind, hm.frm, z, z, hm.value, z⟩
 split
 ·
  exact ⟨ok0, zt, hm.kind, hm.frm, hm.index, hm.view, hm.value, hm.prep⟩
 split
 ·
  exact ⟨ok0, zt, hm.kind, hm.frm, hm.index, hm.view, hm.value, z⟩
 split
 ·
  exact ⟨ok0, zt, hm.kind, hm.frm, hm.index, hm.view, hm.value, z⟩
 ·
  exact ⟨ok0, zt, hm.kind, hm.frm, hm.index, z, hm.value, z⟩
theorem je.v {m : wz} (hm : m.Ok) (S : zk) : jf Try.prog O je.id [mv m] S = some (.bool (vF m), S) := by
 obtain ⟨T, hTe⟩ : ∃ T, T = (mv m :: undef :: undef :: undef :: undef :: undef :: undef :: undef :: undef :: undef :: undef :: undef :: undef :: undef :: undef :: undef :: undef :: undef :: undef :: undef :: undef :: undef :: undef :: undef :: undef :: undef :: undef :: undef :: undef :: undef :: undef :: undef :: undef :: undef :: undef :: undef :: undef :: undef :: undef :: undef :: undef :: undef :: undef :: undef :: undef :: undef :: undef :: undef :: undef :: undef :: undef :: undef :: undef :: undef :: undef :: undef :: undef :: undef :: undef :: undef :: undef :: undef :: undef :: undef :: undef :: undef :: undef :: undef :: undef :: undef :: undef :: undef :: undef :: undef :: []) := ⟨_, rfl⟩
 have hr : zG Try.prog O false je.code T zk.empty = zG Try.prog O false je.code T zk.empty := rfl
 have g0 := ku m
 have c3 := fun S => yw.v m.tx S
 have c4 := fun S => jc.v hm.b S
 have c5 := fun S => jA.v hm S
 have hc : [mv m].all (jB 16) = true := all1 (wR hm.b.okl.le)
 unfold vF
 by_cases k0 : m.kind < 0
 ·
  rw [if_pos (.inl k0)]
  have e0 := decide_eq_true k0
  conv at hr =>
   rhs
   rw [hTe]
   simp only [je.code, je.rs, zSs, reduceIte, Nat.reduceEqDiff, Int.reduceEq, Int.reduceLT, Int.reduceLE, qC, zy, zC, zF, zH, zB, zJ, zK, zL, jI g0, jW g0, jZ g0, wB g0, jR g0, wM g0, wS g0, wX g0 hm.b.ne, xC g0 hm.b.ne, zi (zy _ _ _), zi (zC _ _ _), zi (zF _ _ _), zi (zH _ _ _), zi (zB _ _ _), zi (zJ _ _ _), zi (zK _ _ _), zi (zL _ _ _), zi (jI g0), zi (jW g0), zi (jZ g0), zi (wB g0), zi (jR g0), zi (wM g0), zi (wS g0), zi (wX g0 hm.b.ne), zi (xC g0 hm.b.ne), ZM (xC g0 hm.b.ne) (Jb m), qc g0, gvw, e0]
  rw [hTe] at hr
  exact je.runs hr (.inr rfl) hc rfl
 by_cases k6 : 6 < m.kind
 ·
  rw [if_pos (.inr k6)]
  have e0 := decide_eq_false k0
  have e6 := decide_eq_true k6
  conv at hr =>
   rhs
   rw [hTe]
   simp only [je.code, je.rs, zSs, reduceIte, Nat.reduceEqDiff, Int.reduceEq, Int.reduceLT, Int.reduceLE, qC, zy, zC, zF, zH, zB, zJ, zK, zL, jI g0, jW g0, jZ g0, wB g0, jR g0, wM g0, wS g0, wX g0 hm.b.ne, xC g0 hm.b.ne, zi (zy _ _ _), zi (zC _ _ _), zi (zF _ _ _), zi (zH _ _ _), zi (zB _ _ _), zi (zJ _ _ _), zi (zK _ _ _), zi (zL _ _ _), zi (jI g0), zi (jW g0), zi (jZ g0), zi (wB g0), zi (jR g0), zi (wM g0), zi (wS g0), zi (wX g0 hm.b.ne), zi (xC g0 hm.b.ne), ZM (xC g0 hm.b.ne) (Jb m), qc g0, gvw, e0, e6]
  rw [hTe] at hr
  exact je.runs hr (.inr rfl) hc rfl
 rw [if_neg (by omega)]
 have e0 := decide_eq_false k0
 have e6 := decide_eq_false k6
 have c1 := fun S => zQ.v hm (by omega) (by omega) S
 have c2 := fun S => jM.v hm (agD hm) S
 obtain ⟨c, hc0⟩ : ∃ b, ((decide (m.frm < 0) || decide (7 ≤ m.frm)) || !kE m (wZ m)) = b := ⟨_, rfl⟩
 rw [hc0]
 cases c
 ·
  rw [if_neg (by decide)]
  by_cases z0 : m.kind = 0
  ·
   rw [if_pos z0]
   conv at hr =>
    rhs
    rw [hTe]
    simp only [je.code, je.rs, zSs, reduceIte, Nat.reduceEqDiff, Int.reduceEq, Int.reduceLT, Int.reduceLE, qC, zy, zC, zF, zH, zB, zJ, zK, zL, jI g0, jW g0, jZ g0, wB g0, jR g0, wM g0, wS g0, wX g0 hm.b.ne, xC g0 hm.b.ne, zi (zy _ _ _), zi (zC _ _ _), zi (zF _ _ _), zi (zH _ _ _), zi (zB _ _ _), zi (zJ _ _ _), zi (zK _ _ _), zi (zL _ _ _), zi (jI g0), zi (jW g0), zi (jZ g0), zi (wB g0), zi (jR g0), zi (wM g0), zi (wS g0), zi (wX g0 hm.b.ne), zi (xC g0 hm.b.ne), ZM (xC g0 hm.b.ne) (Jb m), qc g0, gvw, e0, e6, c1, c2, zi (c1 _), zi (c2 _), hc0, decide_eq_true z0, c3]
   rw [hTe] at hr
   exact je.runs hr (.inr rfl) hc rfl
  rw [if_neg z0]
  by_cases z1 : m.kind = 1
  ·
   rw [if_pos z1]
   conv at hr =>
    rhs
    rw [hTe]
    simp only [je.code, je.rs, zSs, reduceIte, Nat.reduceEqDiff, Int.reduceEq, Int.reduceLT, Int.reduceLE, qC, zy, zC, zF, zH, zB, zJ, zK, zL, jI g0, jW g0, jZ g0, wB g0, jR g0, wM g0, wS g0, wX g0 hm.b.ne, xC g0 hm.b.ne, zi (zy _ _ _), zi (zC _ _ _), zi (zF _ _ _), zi (zH _ _ _), zi (zB _ _ _), zi (zJ _ _ _), zi (zK _ _ _), zi (zL _ _ _), zi (jI g0), zi (jW g0), zi (jZ g0), zi (wB g0), zi (jR g0), zi (wM g0), zi (wS g0), zi (wX g0 hm.b.ne), zi (xC g0 hm.b.ne), ZM (xC g0 hm.b.ne) (Jb m), qc g0, gvw, e0, e6, c1, c2, zi (c1 _), zi (c2 _), hc0, decide_eq_false z0, decide_eq_true z1, c4]
   rw [hTe] at hr
   exact je.runs hr (.inr rfl) hc rfl
  rw [if_neg z1]
  by_cases z3 : m.kind = 3
  ·
   obtain ⟨d, hd0⟩ : ∃ b, (decide (m.prep < -1) || decide (m.view ≤ m.prep)) = b := ⟨_, rfl⟩
   rw [hd0]
   cases d
   ·
    rw [if_neg (by simp)]
    conv at hr =>
     rhs
     rw [hTe]
     simp only [je.code, je.rs, zSs, reduceIte, Nat.reduceEqDiff, Int.reduceEq, Int.reduceLT, Int.reduceLE, qC, zy, zC, zF, zH, zB, zJ, zK, zL, jI g0, jW g0, jZ g0, wB g0, jR g0, wM g0, wS g0, wX g0 hm.b.ne, xC g0 hm.b.ne, zi (zy _ _ _), zi (zC _ _ _), zi (zF _ _ _), zi (zH _ _ _), zi (zB _ _ _), zi (zJ _ _ _), zi (zK _ _ _), zi (zL _ _ _), zi (jI g0), zi (jW g0), zi (jZ g0), zi (wB g0), zi (jR g0), zi (wM g0), zi (wS g0), zi (wX g0 hm.b.ne), zi (xC g0 hm.b.ne), ZM (xC g0 hm.b.ne) (Jb m), qc g0, gvw, e0, e6, c1, c2, zi (c1 _), zi (c2 _), hc0, decide_eq_false z0, decide_eq_false z1, decide_eq_true z3, hd0, c5, zi (c5 _)]
    rw [hTe] at hr
    exact je.runs hr (.inr rfl) hc rfl
   ·
    rw [if_pos ⟨z3, rfl⟩]
    conv at hr =>
     rhs
     rw [hTe]
     simp only [je.code, je.rs, zSs, reduceIte, Nat.reduceEqDiff, Int.reduceEq, Int.reduceLT, Int.reduceLE, qC, zy, zC, zF, zH, zB, zJ, zK, zL, jI g0, jW g0, jZ g0, wB g0, jR g0, wM g0, wS g0, wX g0 hm.b.ne, xC g0 hm.b.ne, zi (zy _ _ _), zi (zC _ _ _), zi (zF _ _ _), zi (zH _ _ _), zi (zB _ _ _), zi (zJ _ _ _), zi (zK _ _ _), zi (zL _ _ _), zi (jI g0), zi (jW g0), zi (jZ g0), zi (wB g0), zi (jR g0), zi (wM g0), zi (wS g0), zi (wX g0 hm.b.ne), zi (xC g0 hm.b.ne), ZM (xC g0 hm.b.ne) (Jb m), qc g0, gvw, e0, e6, c1, c2, zi (c1 _), zi (c2 _), hc0, decide_eq_false z0, decide_eq_false z1, decide_eq_true z3, hd0]
    rw [hTe] at hr
    exact je.runs hr (.inr rfl) hc rfl
  rw [if_neg (fun h => z3 h.1)]
  conv at hr =>
   rhs
   rw [hTe]
   simp only [je.code, je.rs, zSs, reduceIte, Nat.reduceEqDiff, Int.reduceEq, Int.reduceLT, Int.reduceLE, qC, zy, zC, zF, zH, zB, zJ, zK, zL, jI g0, jW g0, jZ g0, wB g0, jR g0, wM g0, wS g0, wX g0 hm.b.ne, xC g0 hm.b.ne, zi (zy _ _ _), zi (zC _ _ _), zi (zF _ _ _), zi (zH _ _ _), zi (zB _ _ _), zi (zJ _ _ _), zi (zK _ _ _), zi (zL _ _ _), zi (jI g0), zi (jW g0), zi (jZ g0), zi (wB g0), zi (jR g0), zi (wM g0), zi (wS g0), zi (wX g0 hm.b.ne), zi (xC g0 hm.b.ne), ZM (xC g0 hm.b.ne) (Jb m), qc g0, gvw, e0, e6, c1, c2, zi (c1 _), zi (c2 _), hc0, decide_eq_false z0, decide_eq_false z1, decide_eq_false z3, c5, zi (c5 _)]
  rw [hTe] at hr
  exact je.runs hr (.inr rfl) hc rfl
 ·
  rw [if_pos rfl]
  conv at hr =>
   rhs
   rw [hTe]
   simp only [je.code, je.rs, zSs, reduceIte, Nat.reduceEqDiff, Int.reduceEq, Int.reduceLT, Int.reduceLE, qC, zy, zC, zF, zH, zB, zJ, zK, zL, jI g0, jW g0, jZ g0, wB g0, jR g0, wM g0, wS g0, wX g0 hm.b.ne, xC g0 hm.b.ne, zi (zy _ _ _), zi (zC _ _ _), zi (zF _ _ _), zi (zH _ _ _), zi (zB _ _ _), zi (zJ _ _ _), zi (zK _ _ _), zi (zL _ _ _), zi (jI g0), zi (jW g0), zi (jZ g0), zi (wB g0), zi (jR g0), zi (wM g0), zi (wS g0), zi (wX g0 hm.b.ne), zi (xC g0 hm.b.ne), ZM (xC g0 hm.b.ne) (Jb m), qc g0, gvw, e0, e6, c1, c2, zi (c1 _), zi (c2 _), hc0]
  rw [hTe] at hr
  exact je.runs hr (.inr rfl) hc rfl
theorem kT (b : xW) : Z7 b b = true := by simp [Z7]
theorem right_eq (m : wz) : vF m = kH m := by
 unfold vF kH kM
 by_cases hk : m.kind < 0 ∨ 6 < m.kind
 ·
  rw [if_pos hk]
  have : kU m = false := by simp only [kU, if_neg (show ¬ m.kind = 0 by omega), if_neg (show ¬ m.kind = 1 by omega), if_neg (show ¬ m.kind = 2 by omega), if_neg (show ¬ m.kind = 3 by omega), if_neg (show ¬ (m.kind = 4 ∨ m.kind = 5) by omega), if_neg (show ¬ m.kind = 6 by omega)]
  rw [this]
  simp
 rw [if_neg hk]
 by_cases f0 : m.frm < 0
 ·
  simp [f0]
 by_cases f7 : 6 < m.frm
 ·
  simp [f0, f7, show 7 ≤ m.frm by omega]
 have f8 : ¬ 7 ≤ m.frm := by omega
 have hv : decide (0 < Jr m.value) = qE m.value := aeL m.value
 have : m.kind = 0 ∨ m.kind = 1 ∨ m.kind = 2 ∨ m.kind = 3 ∨ m.kind = 4 ∨ m.kind = 5 ∨ m.kind = 6 := by omega
 rcases this with h | h | h | h | h | h | h
 ·
  simp only [kE, wZ, kU, h, decide_true, decide_false, Bool.true_and, Bool.false_and, Bool.not_true, Bool.not_false, Int.reduceEq, Int.reduceLT, if_true, if_false, reduceIte, KT, vwB, yS, JO, nameB, hv, f0, f7, f8, or_true, true_or, or_false, false_or, or_self, Bool.or_false, Bool.false_or, kT, false_and, true_and]
  grind
 ·
  simp only [kE, wZ, kU, h, decide_true, decide_false, Bool.true_and, Bool.false_and, Bool.not_true, Bool.not_false, Int.reduceEq, Int.reduceLT, if_true, if_false, reduceIte, KT, vwB, yS, JO, nameB, hv, f0, f7, f8, or_true, true_or, or_false, false_or, or_self, Bool.or_false, Bool.false_or, kT, false_and, true_and]
  grind
 ·
  simp only [kE, wZ, kU, h, decide_true, decide_false, Bool.true_and, Bool.false_and, Bool.not_true, Bool.not_false, Int.reduceEq, Int.reduceLT, if_true, if_false, reduceIte, KT, vwB, yS, JO, nameB, hv, f0, f7, f8, or_true, true_or, or_false, false_or, or_self, Bool.or_false, Bool.false_or, kT, false_and, true_and]
  grind
 ·
  simp only [kE, wZ, kU, h, decide_true, decide_false, Bool.true_and, Bool.false_and, Bool.not_true, Bool.not_false, Int.reduceEq, Int.reduceLT, if_true, if_false, reduceIte, KT, vwB, yS, JO, nameB, hv, f0, f7, f8, or_true, true_or, or_false, false_or, or_self, Bool.or_false, Bool.false_or, kT, false_and, true_and]
  grind
 ·
  simp only [kE, wZ, kU, h, decide_true, decide_false, Bool.true_and, Bool.false_and, Bool.not_true, Bool.not_false, Int.reduceEq, Int.reduceLT, if_true, if_false, reduceIte, KT, vwB, yS, JO, nameB, hv, f0, f7, f8, or_true, true_or, or_false, false_or, or_self, Bool.or_false, Bool.false_or, kT, false_and, true_and]
  grind
 ·
  simp only [kE, wZ, kU, h, decide_true, decide_false, Bool.true_and, Bool.false_and, Bool.not_true, Bool.not_false, Int.reduceEq, Int.reduceLT, if_true, if_false, reduceIte, KT, vwB, yS, JO, nameB, hv, f0, f7, f8, or_true, true_or, or_false, false_or, or_self, Bool.or_false, Bool.false_or, kT, false_and, true_and]
  grind
 ·
  simp only [kE, wZ, kU, h, decide_true, decide_false, Bool.true_and, Bool.false_and, Bool.not_true, Bool.not_false, Int.reduceEq, Int.reduceLT, if_true, if_false, reduceIte, KT, vwB, yS, JO, nameB, hv, f0, f7, f8, or_true, true_or, or_false, false_or, or_self, Bool.or_false, Bool.false_or, kT, false_and, true_and]
  grind
end Go.Proofs.Ytbgcphbbchndkaa
namespace Go.Proofs.Ytbgcphbbchndkaa
open Go.Abs
theorem aa1 {n : Int} (h : nameB n = true) : 0 ≤ n ∧ n ≤ 268435455 := by
 unfold nameB at h
 simp only [Bool.or_eq_true, decide_eq_true_eq] at h
 rcases h with h | h
 ·
  omega
 ·
  have := qZ.1 h; omega
structure Xk (m : wz) : Prop where
 kind : 0 ≤ m.kind ∧ m.kind ≤ 6
 frm : 0 ≤ m.frm ∧ m.frm ≤ 6
 index : 0 ≤ m.index ∧ m.index ≤ 1000
 view : 0 ≤ m.view ∧ m.view ≤ 1000
 value : -1 ≤ m.value ∧ m.value ≤ 268435455
 prep : -1 ≤ m.prep ∧ m.prep ≤ 1000
 tx : m.kind = 0 → qG m.tx = true
 blk : m.kind = 1 → jL m.b = true
 notx : m.kind ≠ 0 → m.tx = ⟨0, 0⟩
 noblk : m.kind ≠ 1 → Z7 m.b bk0 = true
 noprep : m.kind ≠ 3 → m.prep = 0
theorem Vo {m : wz} (h : vF m = true) : Xk m := by
 rw [right_eq] at h
 unfold kH at h
 split at h
 ·
  cases h
 rename_i hf
 split at h
 ·
  cases h
 rename_i ho
 simp only [Bool.or_eq_true, decide_eq_true_eq, not_or] at hf
 have ho : (m.kind ≠ 0 → m.tx = ⟨0, 0⟩) ∧ (m.kind ≠ 1 → Z7 m.b bk0 = true) ∧ (m.kind ≠ 3 → m.prep = 0) := by
  unfold kM at ho
  simp only [Bool.or_eq_true, Bool.and_eq_true, Bool.not_eq_true', decide_eq_false_iff_not, not_or, not_and, Decidable.not_not, Bool.not_eq_false] at ho
  exact ⟨ho.1.1, ho.1.2, ho.2⟩
 unfold kU KT vwB at h
 have nr := fun hn => aa1 (n := m.value) hn
 have k : m.kind = 0 ∨ m.kind = 1 ∨ m.kind = 2 ∨ m.kind = 3 ∨ m.kind = 4 ∨ m.kind = 5 ∨ m.kind = 6 := by
  by_cases a : m.kind = 0 ∨ m.kind = 1 ∨ m.kind = 2 ∨ m.kind = 3 ∨ m.kind = 4 ∨ m.kind = 5 ∨ m.kind = 6
  ·
   exact a
  ·
   simp only [if_neg (show ¬ m.kind = 0 by omega), if_neg (show ¬ m.kind = 1 by omega), if_neg (show ¬ m.kind = 2 by omega), if_neg (show ¬ m.kind = 3 by omega), if_neg (show ¬ (m.kind = 4 ∨ m.kind = 5) by omega), if_neg (show ¬ m.kind = 6 by omega)] at h
   cases h
 rcases k with k | k | k | k | k | k | k
 ·
  simp only [k, Int.reduceEq, if_true, if_false, reduceIte, or_true, true_or, or_false, or_self, Bool.and_eq_true, Bool.or_eq_true, decide_eq_true_eq] at h
  have hp := ho.2.2
  have hv : -1 ≤ m.value ∧ m.value ≤ 268435455 := by grind
  refine ⟨by omega, by omega, by omega, by omega, hv, by grind, fun e => by grind, fun e => by grind, ho.1, ho.2.1, ho.2.2⟩
 ·
  simp only [k, Int.reduceEq, if_true, if_false, reduceIte, or_true, true_or, or_false, or_self, Bool.and_eq_true, Bool.or_eq_true, decide_eq_true_eq] at h
  have hp := ho.2.2
  have hv : -1 ≤ m.value ∧ m.value ≤ 268435455 := by grind
  refine ⟨by omega, by omega, by omega, by omega, hv, by grind, fun e => by grind, fun e => by grind, ho.1, ho.2.1, ho.2.2⟩
 ·
  simp only [k, Int.reduceEq, if_true, if_false, reduceIte, or_true, true_or, or_false, or_self, Bool.and_eq_true, Bool.or_eq_true, decide_eq_true_eq] at h
  have hp := ho.2.2
  have hv : -1 ≤ m.value ∧ m.value ≤ 268435455 := by grind
  refine ⟨by omega, by omega, by omega, by omega, hv, by grind, fun e => by grind, fun e => by grind, ho.1, ho.2.1, ho.2.2⟩
 ·
  simp only [k, Int.reduceEq, if_true, if_false, reduceIte, or_true, true_or, or_false, or_self, Bool.and_eq_true, Bool.or_eq_true, decide_eq_true_eq] at h
  have hp := ho.2.2
  have hv : -1 ≤ m.value ∧ m.value ≤ 268435455 := by grind
  refine ⟨by omega, by omega, by omega, by omega, hv, by grind, fun e => by grind, fun e => by grind, ho.1, ho.2.1, ho.2.2⟩
 ·
  simp only [k, Int.reduceEq, if_true, if_false, reduceIte, or_true, true_or, or_false, or_self, Bool.and_eq_true, Bool.or_eq_true, decide_eq_true_eq] at h
  have hp := ho.2.2
  have hv : -1 ≤ m.value ∧ m.value ≤ 268435455 := by grind
  refine ⟨by omega, by omega, by omega, by omega, hv, by grind, fun e => by grind, fun e => by grind, ho.1, ho.2.1, ho.2.2⟩
 ·
  simp only [k, Int.reduceEq, if_true, if_false, reduceIte, or_true, true_or, or_false, or_self, Bool.and_eq_true, Bool.or_eq_true, decide_eq_true_eq] at h
  have hp := ho.2.2
  have hv : -1 ≤ m.value ∧ m.value ≤ 268435455 := by grind
  refine ⟨by omega, by omega, by omega, by omega, hv, by grind, fun e => by grind, fun e => by grind, ho.1, ho.2.1, ho.2.2⟩
 ·
  simp only [k, Int.reduceEq, if_true, if_false, reduceIte, or_true, true_or, or_false, or_self, Bool.and_eq_true, Bool.or_eq_true, decide_eq_true_eq] at h
  have hp := ho.2.2
  have hv : -1 ≤ m.value ∧ m.value ≤ 268435455 := by grind
  refine ⟨by omega, by omega, by omega, by omega, hv, by grind, fun e => by grind, fun e => by grind, ho.1, ho.2.1, ho.2.2⟩
def QB (m : wz) : List UInt8 := if m.kind = 0 then txB m.tx else if m.kind = 1 then adP m.b else []
def Wj (m : wz) : List Int := [m.kind, m.frm, m.index, m.view, m.value, m.prep]
def xw (m : wz) : List UInt8 := encs (Wj m) ++ QB m
def mkM (m : wz) : Nat := (Zr (Wx m.frm) (xw m)).toNat
def aeU (m : wz) : List UInt8 := enc (mkM m) ++ xw m
def aaS (m : wz) : Value := if vF m then .tuple #[by_ 2 (aeU m), .int .i64 0] else .tuple #[.slice none 0 0, .int .i64 121]
theorem VX (key : Int) (b : List UInt8) : 0 ≤ Zr key b ∧ Zr key b < 18446744073709551616 := VZ _ _
theorem abG (key : Int) (b : List UInt8) : ((Zr key b).toNat : Int) = Zr key b := Int.toNat_of_nonneg (VX key b).1
theorem acN (key : Int) (b : List UInt8) : (Zr key b).toNat < 2 ^ 64 := by have := VX key b; omega
theorem Yw {m : wz} (h : Xk m) : ∀ n ∈ Wj m, -1 ≤ n ∧ n ≤ 268435455 := by
 intro n hn
 have h1 := h.kind; have h2 := h.frm; have h3 := h.index; have h4 := h.view; have h5 := h.value; have h6 := h.prep
 simp only [Wj, List.mem_cons, List.not_mem_nil, or_false] at hn
 rcases hn with rfl | rfl | rfl | rfl | rfl | rfl <;> omega
theorem JG {m : wz} (h : Xk m) : (encs (Wj m)).length ≤ 60 := by
 have h1 := Yw h
 exact vG (l := Wj m) (fun n hn => by have := h1 n hn; omega)
theorem QK {b : xW} (h : jL b = true) : (adP b).length ≤ 140 := by
 have hh : headB b = true ∧ WM b.txs = true := by simpa [jL] using h
 unfold adP
 have := KE hh.1; have := QL hh.2
 rw [List.length_append]; omega
theorem aeR {m : wz} (h : Xk m) : (QB m).length ≤ 140 := by
 unfold QB
 split
 ·
  rename_i h0; have := QF (h.tx h0); omega
 split
 ·
  rename_i h1; exact QK (h.blk h1)
 ·
  simp
theorem JK {m : wz} (h : Xk m) : (xw m).length ≤ 200 := by
 unfold xw; have := JG h; have := aeR h; rw [List.length_append]; omega
theorem bs6 (a b c d e f : Int) (S : zk) : jJ Try.prog 57 6 [(0, .int .i64 a), (1, .int .i64 b), (2, .int .i64 c), (3, .int .i64 d), (4, .int .i64 e), (5, .int .i64 f)] S = some (iz 2 [a, b, c, d, e, f], S) := by kernel_rfl
theorem jm.v {m : wz} (hm : m.Ok) (S : zk) : jf Try.prog O jm.id [mv m] S = some (aaS m, S) := by
 obtain ⟨T, hTe⟩ : ∃ T, T = (mv m :: undef :: undef :: undef :: undef :: undef :: undef :: undef :: undef :: undef :: undef :: undef :: undef :: undef :: undef :: undef :: undef :: undef :: undef :: undef :: undef :: undef :: undef :: undef :: undef :: undef :: undef :: undef :: undef :: undef :: undef :: undef :: undef :: undef :: undef :: undef :: undef :: undef :: undef :: undef :: undef :: undef :: undef :: undef :: undef :: undef :: undef :: undef :: undef :: undef :: undef :: undef :: undef :: undef :: undef :: undef :: undef :: undef :: undef :: undef :: undef :: undef :: undef :: []) := ⟨_, rfl⟩
 have hr : zG Try.prog O false jm.code T zk.empty = zG Try.prog O false jm.code T zk.empty := rfl
 have g0 := ku m
 have hc : [mv m].all (jB 16) = true := all1 (wR hm.b.okl.le)
 have c0 : ∀ S, jf Try.prog O 14 [mv m] S = some (.bool (vF m), S) := fun S => je.v hm S
 unfold aaS
 cases hR : vF m
 ·
  rw [hR] at c0
  conv at hr =>
   rhs
   rw [hTe]
   simp only [jm.code, jm.rs, zSs, reduceIte, Nat.reduceEqDiff, Int.reduceEq, Int.reduceLT, Int.reduceLE, qC, zy, zC, zF, zH, zB, zJ, zK, zL, jI g0, jW g0, jZ g0, wB g0, jR g0, wM g0, wS g0, wX g0 hm.b.ne, xC g0 hm.b.ne, c0]
  rw [hTe] at hr
  exact jm.runs hr (.inr rfl) rfl rfl hc rfl
 ·
  rw [hR] at c0
  have hf := Vo hR
  have few := Yw hf
  have c2 : ∀ S, jf Try.prog O 32 [iz 1 [m.kind, m.frm, m.index, m.view, m.value, m.prep]] S = some (.tuple #[by_ 2 (encs (Wj m)), .int .i64 0], S) := fun S => by
   rw [zZ.v (l := [m.kind, m.frm, m.index, m.view, m.value, m.prep]) Okl.read (by decide) (fun n hn => by have := few n hn; omega) S, vg (l := [m.kind, m.frm, m.index, m.view, m.value, m.prep]) (by simp) (fun n hn => (few n hn).1) (by simp)]; rfl
  have ck : ∀ S, jf Try.prog O 27 [.int .i64 m.frm] S = some (.int .u64 (Wx m.frm), S) := fun S => qh.v m.frm S
  have cn : ∀ b S, jf Try.prog O 35 [.int .u64 (Zr (Wx m.frm) b)] S = some (by_ 2 (enc (Zr (Wx m.frm) b).toNat), S) := fun b S => by
   have := jX.v (Zr (Wx m.frm) b).toNat (acN _ _) S
   rw [abG] at this
   exact this
  have a0 : ∀ S, wU Try.prog 23 23 (by_ 2 (enc (mkM m))) (by_ 1 (xw m)) S = some (by_ 2 (aeU m), S) := fun S => by
   rw [qw Okl.own (by decide) Okl.read (by have := JK hf; have := xQ (acN (Wx m.frm) (xw m)); unfold mkM; omega)]; rfl
  have em : enc (Zr (Wx m.frm) (xw m)).toNat = enc (mkM m) := rfl
  have cof : ∀ S, jf Try.prog O 36 [.int .u64 (Wx m.frm), sv 1 1 1 [by_ 1 (xw m)]] S = some (.int .u64 (Zr (Wx m.frm) (xw m)), S) := fun S => jH.v (by have := JK hf; omega) S
  have hcv : jB 16 (.tuple #[by_ 2 (aeU m), .int .i64 0]) = true := qL (all2 (xY (k := 2) (Nat.le_refl 2)) rfl)
  by_cases k0 : m.kind = 0
  ·
   have c3 : ∀ S, jf Try.prog O 33 [tv m.tx] S = some (.tuple #[by_ 2 (txB m.tx), .int .i64 0], S) := fun S => by
    rw [wK.v m.tx S, afd, if_pos (hf.tx k0)]
   have a1 : ∀ S, wU Try.prog 23 23 (by_ 2 (encs (Wj m))) (by_ 1 (txB m.tx)) S = some (by_ 2 (xw m), S) := fun S => by
    rw [qw Okl.own (by decide) Okl.read (by have := JG hf; have := QF (hf.tx k0); omega)]
    rw [if_neg (by omega)]; simp only [xw, QB, if_pos k0]
   conv at hr =>
    rhs
    rw [hTe]
    simp only [jm.code, jm.rs, zSs, reduceIte, Nat.reduceEqDiff, Int.reduceEq, Int.reduceLT, Int.reduceLE, qC, zy, zC, zF, zH, zB, zJ, zK, zL, jI g0, jW g0, jZ g0, wB g0, jR g0, wM g0, wS g0, wX g0 hm.b.ne, xC g0 hm.b.ne, c0, bs6, c2, decide_eq_true k0, c3, a1, ck, ZT, cof, cn, em, a0]
   rw [hTe] at hr
   exact jm.runs hr (.inr rfl) (by simp only [List.getD_cons_succ, List.getD_cons_zero, wP, wE, jQ, jY, wC]) rfl hc hcv
  by_cases k1 : m.kind = 1
  ·
   have c3 : ∀ S, jf Try.prog O 34 [bv m.b] S = some (.tuple #[by_ 2 (adP m.b), .int .i64 0], S) := fun S => by
    rw [jF.v hm.b S, aay, if_pos (hf.blk k1)]
   have a1 : ∀ S, wU Try.prog 23 23 (by_ 2 (encs (Wj m))) (by_ 1 (adP m.b)) S = some (by_ 2 (xw m), S) := fun S => by
    rw [qw Okl.own (by decide) Okl.read (by have := JG hf; have := QK (hf.blk k1); omega)]
    rw [if_neg (by omega)]; simp only [xw, QB, if_neg k0, if_pos k1]
   conv at hr =>
    rhs
    rw [hTe]
    simp only [jm.code, jm.rs, zSs, reduceIte, Nat.reduceEqDiff, Int.reduceEq, Int.reduceLT, Int.reduceLE, qC, zy, zC, zF, zH, zB, zJ, zK, zL, jI g0, jW g0, jZ g0, wB g0, jR g0, wM g0, wS g0, wX g0 hm.b.ne, xC g0 hm.b.ne, c0, bs6, c2, decide_eq_false k0, decide_eq_true k1, c3, a1, ck, ZT, cof, cn, em, a0]
   rw [hTe] at hr
   exact jm.runs hr (.inr rfl) (by simp only [List.getD_cons_succ, List.getD_cons_zero, wP, wE, jQ, jY, wC]) rfl hc hcv
  have eb : encs (Wj m) = xw m := by simp only [xw, QB, if_neg k0, if_neg k1, List.append_nil]
  conv at hr =>
   rhs
   rw [hTe]
   simp only [jm.code, jm.rs, zSs, reduceIte, Nat.reduceEqDiff, Int.reduceEq, Int.reduceLT, Int.reduceLE, qC, zy, zC, zF, zH, zB, zJ, zK, zL, jI g0, jW g0, jZ g0, wB g0, jR g0, wM g0, wS g0, wX g0 hm.b.ne, xC g0 hm.b.ne, c0, bs6, c2, decide_eq_false k0, decide_eq_false k1, eb, ck, ZT, cof, cn, em, a0]
  rw [hTe] at hr
  exact jm.runs hr (.inr rfl) (by simp only [List.getD_cons_succ, List.getD_cons_zero, wP, wE, jQ, jY, wC]) rfl hc hcv
theorem zA.v {m : wz} (hm : m.Ok) (S : zk) : jf Try.prog O zA.id [mv m] S = some (aaS m, S) := by
 obtain ⟨T, hTe⟩ : ∃ T, T = (mv m :: undef :: undef :: undef :: undef :: undef :: undef :: undef :: undef :: undef :: undef :: undef :: undef :: undef :: undef :: undef :: undef :: undef :: undef :: undef :: undef :: undef :: undef :: undef :: undef :: undef :: undef :: undef :: undef :: undef :: undef :: undef :: undef :: undef :: undef :: undef :: undef :: undef :: undef :: undef :: undef :: undef :: undef :: undef :: undef :: undef :: undef :: undef :: undef :: undef :: undef :: undef :: undef :: undef :: undef :: undef :: undef :: undef :: undef :: undef :: undef :: undef :: []) := ⟨_, rfl⟩
 have hr : zG Try.prog O false zA.code T zk.empty = zG Try.prog O false zA.code T zk.empty := rfl
 have g0 := ku m
 have hc : [mv m].all (jB 16) = true := all1 (wR hm.b.okl.le)
 have c0 : ∀ S, jf Try.prog O 19 [mv m] S = some (.bool (vF m), S) := fun S => by rw [right_eq]; exact zh.v hm S
 unfold aaS
 cases hR : vF m
 ·
  rw [hR] at c0
  conv at hr =>
   rhs
   rw [hTe]
   simp only [zA.code, zA.rs, zSs, reduceIte, Nat.reduceEqDiff, Int.reduceEq, Int.reduceLT, Int.reduceLE, qC, zy, zC, zF, zH, zB, zJ, zK, zL, jI g0, jW g0, jZ g0, wB g0, jR g0, wM g0, wS g0, wX g0 hm.b.ne, xC g0 hm.b.ne, c0]
  rw [hTe] at hr
  exact zA.runs hr (.inr rfl) rfl rfl hc rfl
 ·
  rw [hR] at c0
  have hf := Vo hR
  have few := Yw hf
  have c2 : ∀ S, jf Try.prog O 42 [iz 1 [m.kind, m.frm, m.index, m.view, m.value, m.prep]] S = some (.tuple #[by_ 2 (encs (Wj m)), .int .i64 0], S) := fun S => by
   rw [zu.v (l := [m.kind, m.frm, m.index, m.view, m.value, m.prep]) Okl.read (by decide) (fun n hn => by have := few n hn; omega) S, vg (l := [m.kind, m.frm, m.index, m.view, m.value, m.prep]) (by simp) (fun n hn => (few n hn).1) (by simp)]; rfl
  have ck : ∀ S, jf Try.prog O 23 [.int .i64 m.frm] S = some (.int .u64 (Wx m.frm), S) := fun S => wY.v hf.frm.1 hf.frm.2 S
  have cn : ∀ b S, jf Try.prog O 17 [.int .u64 (Zr (Wx m.frm) b)] S = some (by_ 2 (enc (Zr (Wx m.frm) b).toNat), S) := fun b S => by
   have := zU.v (Zr (Wx m.frm) b).toNat (acN _ _) S
   rw [abG] at this
   exact this
  have a0 : ∀ S, wU Try.prog 23 23 (by_ 2 (enc (mkM m))) (by_ 1 (xw m)) S = some (by_ 2 (aeU m), S) := fun S => by
   rw [qw Okl.own (by decide) Okl.read (by have := JK hf; have := xQ (acN (Wx m.frm) (xw m)); unfold mkM; omega)]; rfl
  have em : enc (Zr (Wx m.frm) (xw m)).toNat = enc (mkM m) := rfl
  have cof : ∀ S, jf Try.prog O 22 [.int .u64 (Wx m.frm), by_ 1 (xw m)] S = some (.int .u64 (Zr (Wx m.frm) (xw m)), S) := fun S => zD.v Okl.read (by decide) (by have := JK hf; omega) S
  have hcv : jB 16 (.tuple #[by_ 2 (aeU m), .int .i64 0]) = true := qL (all2 (xY (k := 2) (Nat.le_refl 2)) rfl)
  by_cases k0 : m.kind = 0
  ·
   have c3 : ∀ S, jf Try.prog O 43 [tv m.tx] S = some (.tuple #[by_ 2 (txB m.tx), .int .i64 0], S) := fun S => by
    rw [jd.v m.tx S, afd, if_pos (hf.tx k0)]
   have a1 : ∀ S, wU Try.prog 23 23 (by_ 2 (encs (Wj m))) (by_ 1 (txB m.tx)) S = some (by_ 2 (xw m), S) := fun S => by
    rw [qw Okl.own (by decide) Okl.read (by have := JG hf; have := QF (hf.tx k0); omega)]
    rw [if_neg (by omega)]; simp only [xw, QB, if_pos k0]
   conv at hr =>
    rhs
    rw [hTe]
    simp only [zA.code, zA.rs, zSs, reduceIte, Nat.reduceEqDiff, Int.reduceEq, Int.reduceLT, Int.reduceLE, qC, zy, zC, zF, zH, zB, zJ, zK, zL, jI g0, jW g0, jZ g0, wB g0, jR g0, wM g0, wS g0, wX g0 hm.b.ne, xC g0 hm.b.ne, c0, bs6, c2, decide_eq_true k0, decide_eq_false (show ¬ m.kind = 1 by omega), c3, a1, ck, ZT, cof, cn, em, a0]
   rw [hTe] at hr
   exact zA.runs hr (.inr rfl) (by simp only [List.getD_cons_succ, List.getD_cons_zero, wP, wE, jQ, jY, wC]) rfl hc hcv
  by_cases k1 : m.kind = 1
  ·
   have c3 : ∀ S, jf Try.prog O 44 [bv m.b] S = some (.tuple #[by_ 2 (adP m.b), .int .i64 0], S) := fun S => by
    rw [zT.v hm.b S, aay, if_pos (hf.blk k1)]
   have a1 : ∀ S, wU Try.prog 23 23 (by_ 2 (encs (Wj m))) (by_ 1 (adP m.b)) S = some (by_ 2 (xw m), S) := fun S => by
    rw [qw Okl.own (by decide) Okl.read (by have := JG hf; have := QK (hf.blk k1); omega)]
    rw [if_neg (by omega)]; simp only [xw, QB, if_neg k0, if_pos k1]
   conv at hr =>
    rhs
    rw [hTe]
    simp only [zA.code, zA.rs, zSs, reduceIte, Nat.reduceEqDiff, Int.reduceEq, Int.reduceLT, Int.reduceLE, qC, zy, zC, zF, zH, zB, zJ, zK, zL, jI g0, jW g0, jZ g0, wB g0, jR g0, wM g0, wS g0, wX g0 hm.b.ne, xC g0 hm.b.ne, c0, bs6, c2, decide_eq_false k0, decide_eq_true k1, c3, a1, ck, ZT, cof, cn, em, a0]
   rw [hTe] at hr
   exact zA.runs hr (.inr rfl) (by simp only [List.getD_cons_succ, List.getD_cons_zero, wP, wE, jQ, jY, wC]) rfl hc hcv
  have eb : encs (Wj m) = xw m := by simp only [xw, QB, if_neg k0, if_neg k1, List.append_nil]
  conv at hr =>
   rhs
   rw [hTe]
   simp only [zA.code, zA.rs, zSs, reduceIte, Nat.reduceEqDiff, Int.reduceEq, Int.reduceLT, Int.reduceLE, qC, zy, zC, zF, zH, zB, zJ, zK, zL, jI g0, jW g0, jZ g0, wB g0, jR g0, wM g0, wS g0, wX g0 hm.b.ne, xC g0 hm.b.ne, c0, bs6, c2, decide_eq_false k0, decide_eq_false k1, eb, ck, ZT, cof, cn, em, a0]
  rw [hTe] at hr
  exact zA.runs hr (.inr rfl) (by simp only [List.getD_cons_succ, List.getD_cons_zero, wP, wE, jQ, jY, wC]) rfl hc hcv
end Go.Proofs.Ytbgcphbbchndkaa
namespace Go.Proofs.Ytbgcphbbchndkaa
open Go.Abs
theorem ab3 {a b : xW} : Z7 a b = true ↔ a.slot = b.slot ∧ a.miner = b.miner ∧ a.variant = b.variant ∧ a.parent = b.parent ∧ a.txs = b.txs := by
 simp [Z7]
section
variable {l r : List UInt8} {a b c d e f : Int}
end
end Go.Proofs.Ytbgcphbbchndkaa
namespace Go.Proofs.Ytbgcphbbchndkaa
open Go.Abs
theorem ac7 {x y : wz} : kE x y = true ↔ x.kind = y.kind ∧ x.frm = y.frm ∧ x.index = y.index ∧ x.view = y.view ∧ x.value = y.value ∧ x.prep = y.prep ∧ x.tx = y.tx ∧ Z7 x.b y.b = true := by
 simp [kE]
theorem ahq (m : wz) : mkM m < 2 ^ 64 := acN _ _
end Go.Proofs.Ytbgcphbbchndkaa
namespace Go.Proofs.Ytbgcphbbchndkaa
open Go.Abs
theorem acJ (m : wz) (S : zk) : ∃ S2, vV (mv m) S = some (.pointer (some ⟨S.next, 0, none⟩), S2) ∧ S2.get S.next = some (.cells (fM m) (.own []) 0) ∧ Ext S S2 ∧ S.next < S2.next := aht (mv m) S
abbrev tM : Ty := .pair (.int .i64) (.pair (.int .i64) (.pair (.int .i64) (.pair (.int .i64) (.pair (.int .i64) (.pair (.int .i64) (.pair tTx (.pair tBk .unit)))))))
theorem ah3 (x : tM.Val) (hg : tM.Good x) : ∃ m : wz, tM.J3 x = fM m ∧ m.Ok := by
 obtain ⟨a, b, c, d, e, f, t, y, u⟩ := x
 obtain ⟨h1, h2, h3, h4, h5, h6, h7, h8, _⟩ := hg
 obtain ⟨t', t1, ht⟩ := ahA t h7
 obtain ⟨y', y1, hy⟩ := ahP y h8
 refine ⟨⟨a, b, c, d, e, f, t', y'⟩, ?_, ⟨hy, ht, JF h1, JF h2, JF h3, JF h4, JF h5, JF h6⟩⟩
 show [Value.int .i64 a] ++ ([Value.int .i64 b] ++ ([Value.int .i64 c] ++ ([Value.int .i64 d] ++ ([Value.int .i64 e] ++ ([Value.int .i64 f] ++ (tTx.J3 t ++ (tBk.J3 y ++ []))))))) = _
 rw [t1, y1]; rfl
theorem aei {m : wz} (h : vF m = true) : (aeU m).length ≤ 210 := by
 unfold aeU
 have := JK (Vo h); have := xQ (ahq m)
 rw [List.length_append]; omega
theorem aaQ (m : wz) : ∃ k x e, Okl k x ∧ List.length x ≤ 210 ∧ aaS m = .tuple #[by_ k x, .int .i64 e] ∧ ((e = 0 ∧ vF m = true ∧ x = aeU m ∧ k = 2) ∨ (e = 121 ∧ vF m = false ∧ x = [] ∧ k = 0)) := by
 unfold aaS
 cases h : vF m
 ·
  exact ⟨0, [], 121, Okl.none, by simp, rfl, .inr ⟨rfl, rfl, rfl, rfl⟩⟩
 ·
  exact ⟨2, aeU m, 0, Okl.own, aei h, rfl, .inl ⟨rfl, rfl, rfl, rfl⟩⟩
end Go.Proofs.Ytbgcphbbchndkaa
namespace Go.Proofs.Ytbgcphbbchndkaa
open Go.Abs
theorem jD.v {k : Nat} {l : List TxV} (h : Okl k l) (hk : k ≠ 2) (hl : l.length ≤ 8796093022208) (S : zk) : jf Try.prog O jD.id [tl k l] S = some (tl (if k = 0 then 0 else 2) l, S) := by
 obtain ⟨T, hTe⟩ : ∃ T, T = (tl k l :: undef :: undef :: undef :: undef :: undef :: undef :: undef :: []) := ⟨_, rfl⟩
 have hr : zG Try.prog O false jD.code T S = zG Try.prog O false jD.code T S := rfl
 have c1 : ∀ S, jS Try.prog .eql 26 (tl k l) (.slice none 0 0) S = some (.bool (decide (k = 0)), S) := fun S => ad6 xI h
 have c2 := fun S => agr (S := S) h hl
 by_cases h0 : k = 0
 ·
  have hl0 := h.nil h0
  subst h0
  subst hl0
  conv at hr =>
   rhs
   rw [hTe]
   simp only [jD.code, jD.rs, zSs, reduceIte, Nat.reduceEqDiff, Int.reduceEq, Int.reduceLT, Int.reduceLE, if_neg hk, c1, decide_true]
  rw [hTe] at hr
  exact jD.runs hr (.inr rfl)
 ·
  have d := decide_eq_false h0
  rw [if_neg h0]
  conv at hr =>
   rhs
   rw [hTe]
   simp only [jD.code, jD.rs, zSs, reduceIte, Nat.reduceEqDiff, Int.reduceEq, Int.reduceLT, Int.reduceLE, if_neg hk, c1, d, tl0, c2]
  rw [hTe] at hr
  exact jD.runs hr (.inr rfl)
def xU (b : xW) : xW := ⟨b.slot, b.miner, b.variant, b.parent, if b.k = 0 then 0 else 1, b.txs⟩
theorem QD {b : xW} (hb : b.Ok) : (xU b).Ok := ⟨by
 unfold xU
 by_cases h0 : b.k = 0
 ·
  have := hb.okl.nil h0
  dsimp only
  rw [if_pos h0, this]; exact Okl.none
 ·
  dsimp only
  rw [if_neg h0]; exact Okl.read, by unfold xU; dsimp only; split <;> omega, hb.len, hb.par⟩
theorem wJ.v {b : xW} (hb : b.Ok) (S : zk) : jf Try.prog O wJ.id [bv b] S = some (bv (xU b), S) := by
 obtain ⟨T, hTe⟩ : ∃ T, T = (bv b :: undef :: undef :: undef :: undef :: undef :: undef :: undef :: []) := ⟨_, rfl⟩
 have hr : zG Try.prog O false wJ.code T zk.empty = zG Try.prog O false wJ.code T zk.empty := rfl
 have a1 : yM Try.prog 28 (adN b) = some (.pointer (some ⟨1, 0, none⟩), (adN b).push (.cells (fBk bk0) (.own []) 0)) := ahH (adN b)
 have g0 : ((adN b).push (.cells (fBk bk0) (.own []) 0)).get 0 = some (.cells (fBk b) (.own []) 0) := by kernel_rfl
 have g1 : ((adN b).push (.cells (fBk bk0) (.own []) 0)).get 1 = some (.cells (fBk bk0) (.own []) 0) := by kernel_rfl
 generalize (adN b).push (.cells (fBk bk0) (.own []) 0) = A at a1 g0 g1
 have c1 := fun S => jD.v hb.okl hb.ne (by have := hb.len; omega) S
 have ed : dem (tl (if b.k = 0 then 0 else 2) b.txs) = tl (xU b).k b.txs := by
  rw [aaw]; unfold xU; dsimp only; split <;> simp
 have s1 := qX (P := Try.prog) (t := 26) (o := 0 + 4) (x := tl (xU b).k b.txs) g0 abl (by rw [KC]; rfl) (by rw [KC]; simp only [List.all_cons, List.all_nil, acT, Bool.and_true]) (by simp [fBk])
 have e1 : splice (fBk b) (0 + 4) (tl (xU b).k b.txs).cells.toList = fBk (xU b) := by rw [KC]; rfl
 rw [e1] at s1
 have g2 : ((A.kills []).set 0 (.cells (fBk (xU b)) (.own []) 0)).get 0 = some (.cells (fBk (xU b)) (.own []) 0) := by rw [zk.yj, if_pos rfl]
 have g3 : ((A.kills []).set 0 (.cells (fBk (xU b)) (.own []) 0)).get 1 = some (.cells (fBk bk0) (.own []) 0) := by rw [zk.yj, if_neg (by decide)]; exact g1
 generalize (A.kills []).set 0 (.cells (fBk (xU b)) (.own []) 0) = A2 at s1 g2 g3
 have s2 := qX (P := Try.prog) (t := 28) (o := 0) (x := bv (xU b)) g3 Za (by rw [qJ]; rfl) (by rw [qJ, List.toList_toArray]; exact ae5 (xU b)) (by simp [fBk])
 have e2 : splice (fBk bk0) 0 (bv (xU b)).cells.toList = fBk (xU b) := by rw [qJ]; rfl
 rw [e2] at s2
 have g4 : ((A2.kills []).set 1 (.cells (fBk (xU b)) (.own []) 0)).get 1 = some (.cells (fBk (xU b)) (.own []) 0) := by rw [zk.yj, if_pos rfl]
 have ne := (QD hb).ne
 conv at hr =>
  rhs
  rw [hTe]
  simp only [wJ.code, wJ.rs, zSs, reduceIte, Nat.reduceEqDiff, Int.reduceEq, Int.reduceLT, Int.reduceLE, Zx, a1, jl, KR g0 hb.ne, if_neg hb.ne, c1, ed, s1, ahs g2 ne, s2]
 rw [hTe] at hr
 exact wJ.runs hr (.inr rfl) (ahs g4 ne) (all1 (wV hb.okl.le)) (wV (QD hb).okl.le)
def Yo (m : wz) : wz := { m with b := xU m.b }
theorem KO {m : wz} (hm : m.Ok) : (Yo m).Ok := ⟨QD hm.b, hm.tx, hm.kind, hm.frm, hm.index, hm.view, hm.value, hm.prep⟩
theorem aaO (m : wz) : kE (Yo m) m = true := ac7.2 ⟨rfl, rfl, rfl, rfl, rfl, rfl, rfl, ab3.2 ⟨rfl, rfl, rfl, rfl, rfl⟩⟩
theorem yu.v {m : wz} (hm : m.Ok) (S : zk) : jf Try.prog O yu.id [mv m] S = some (mv (Yo m), S) := by
 obtain ⟨T, hTe⟩ : ∃ T, T = (mv m :: undef :: undef :: undef :: undef :: undef :: undef :: undef :: []) := ⟨_, rfl⟩
 have hr : zG Try.prog O false yu.code T zk.empty = zG Try.prog O false yu.code T zk.empty := rfl
 have a1 : yM Try.prog 30 (Y3 m) = some (.pointer (some ⟨1, 0, none⟩), Qp m m0) := X4 (Y3 m)
 have c1 := fun S => wJ.v hm.b S
 have s1 := agT (QI m m0) (xU m.b)
 have g0 : (y9 (Qp m m0) 0 (Yo m)).get 0 = some (.cells (fM (Yo m)) (.own []) 0) := wW _ 0 (Yo m)
 have g1 : (y9 (Qp m m0) 0 (Yo m)).get 1 = some (.cells (fM m0) (.own []) 0) := (wG (by decide)).trans (VD m m0)
 have s1 : yC Try.prog 28 (.pointer (some ⟨0, 0 + 8, none⟩)) (bv (xU m.b)) (Qp m m0) = some (undef, y9 (Qp m m0) 0 (Yo m)) := s1
 generalize y9 (Qp m m0) 0 (Yo m) = A at s1 g0 g1
 have s2 := Vk g1 (Yo m)
 have ne := (KO hm).b.ne
 conv at hr =>
  rhs
  rw [hTe]
  simp only [yu.code, yu.rs, zSs, reduceIte, Nat.reduceEqDiff, Int.reduceEq, Int.reduceLT, Int.reduceLE, qC, a1, zL, wX (QI m m0) hm.b.ne, c1, s1, xC g0 ne, s2]
 rw [hTe] at hr
 exact yu.runs hr (.inr rfl) (xC (wW A 1 (Yo m)) ne) (all1 (wR hm.b.okl.le)) (wR (KO hm).b.okl.le)
end Go.Proofs.Ytbgcphbbchndkaa
namespace Go.Proofs.Ytbgcphbbchndkaa
open Go.Abs
theorem Zq.v (S : zk) : jf Try.prog O 9 [] S = some (.bool true, S) := vk (n := 80) (by kernel_rfl)
end Go.Proofs.Ytbgcphbbchndkaa
namespace Go.Proofs.Ytbgcphbbchndkaa
open Go.Abs
namespace msgTells
def codes : List (Bool × Ty) := [(true, tM), (true, tM)]
theorem coded : Qa Try.prog 9 [30, 30] = some codes := by kernel_rfl
theorem run {a b : wz} (ha : a.Ok) (hb : b.Ok) (S : zk) : ∃ S', jf Try.prog O 7 [mv a, mv b] S = some (.bool true, S') := by
 obtain ⟨T, hTe⟩ : ∃ T, T = (mv a :: mv b :: undef :: undef :: undef :: undef :: undef :: undef :: undef :: undef :: undef :: undef :: undef :: undef :: undef :: undef :: undef :: undef :: undef :: undef :: undef :: undef :: undef :: undef :: undef :: undef :: undef :: undef :: undef :: undef :: undef :: undef :: undef :: undef :: undef :: undef :: undef :: undef :: undef :: undef :: undef :: undef :: undef :: undef :: undef :: undef :: undef :: undef :: undef :: undef :: undef :: undef :: undef :: undef :: []) := ⟨_, rfl⟩
 have hr : zG Try.prog O false zS.code T S = zG Try.prog O false zS.code T S := rfl
 obtain ⟨S1, b1, b2, b3, b4⟩ := acJ a S
 obtain ⟨S2, d1, d2, d3, d4⟩ := acJ b S1
 have ga : S2.get S.next = some (.cells (fM a) (.own []) 0) := (d3.get _ b4).trans b2
 have c1 := fun S => jm.v ha S
 have c2 := fun S => zA.v ha S
 have c3 := fun S => je.v ha S
 have c4 := fun S => zh.v ha S
 rw [← right_eq] at c4
 have c5 := fun S => jM.v ha hb S
 have c6 := fun S => zI.v ha hb S
 have c7 := fun S => yu.v ha S
 have c8 := fun S => jM.v (KO ha) ha S
 rw [aaO] at c8
 obtain ⟨k, x, e, hk, _, e1, _⟩ := aaQ a
 rw [e1] at c1 c2
 have s1 : ∀ S, Jl Try.prog 23 9 (by_ (if k = 2 then 1 else k) x) S = some (.string ⟨x.toArray⟩, S) := fun S => ahu hk.dem
 conv at hr =>
  rhs
  rw [hTe]
  simp only [zS.code, zS.rs, zSs, reduceIte, Nat.reduceEqDiff, Int.reduceEq, Int.reduceLT, Int.reduceLE, b1, d1, xC ga ha.b.ne, xC d2 hb.b.ne, c1, c2, c3, c4, c5, c6, c7, c8, Zq.v, qc ga, qc d2, ag8, beq_self_eq_true, s1, ahb, ah8, adv (Jb a), adv (Jb b)]
 rw [hTe] at hr
 exact ⟨_, zS.runs hr (.inr rfl)⟩
theorem law (x : Args codes) (h : Args.Good codes x) : ∃ k, (vW Try.prog k 7 (Args.place codes x zk.empty).1 (Args.place codes x zk.empty).2).map (·.1) = some (.bool true) := by
 obtain ⟨a, b, u⟩ := x
 obtain ⟨h1, h2, _⟩ := h
 obtain ⟨t, t1, ht⟩ := ah3 a h1
 obtain ⟨w, w1, hw⟩ := ah3 b h2
 obtain ⟨S', e⟩ := run ht hw zk.empty
 refine Vy ahz (S' := S') ?_
 have e2 : Args.J3 codes (a, b, u) = [mv t, mv w] := by
  show [ZA true (tM.J3 a), ZA true (tM.J3 b)] = _
  rw [t1, w1]; rfl
 rw [e2]
 exact e
end msgTells
end Go.Proofs.Ytbgcphbbchndkaa
namespace Go.Proofs.Ytbgcphbbchndkaa.msgTells
open Go.ChangeShapes Go.WideShapes Go.ChangeAt Go.RowKit Go.Abs
theorem own : ownKnob Try.prog.godebug = none := by kernel_rfl
theorem laidOut : laidOutB Try.prog = true := by kernel_rfl
theorem mixes : Try.prog.follows .mixedOrders = true := by kernel_rfl
set_option maxRecDepth 100000 in
theorem lifted (os : Os) (started : os.Started) (H : Type) (enc : TypeId × Value → H) :
  ReturnsInHanded {} Try.checked os 7 .any (Rows.msgTellsSpec.pre6 enc Try.prog Try.f7 Rows.msgTellsRow.domain false) (Rows.msgTellsSpec.post enc Try.prog Try.f7 false true false false) := by
 refine returnsInHanded_of_change_sized (C := Try.checked) own started (by kernel_rfl) Try.func7
  (ChangeSpec.witness6 (enc := enc) (C := Try.checked) false ⟨#[], #[.agg #[.int .i64 0, .int .i64 0, .int .i64 0, .int .i64 0, .int .i64 0, .int .i64 0, .int .i64 0, .int .i64 0, .int .i64 0, .int .i64 0, .int .i64 0, .int .i64 0, .slice none 0 0], .agg #[.int .i64 0, .int .i64 0, .int .i64 0, .int .i64 0, .int .i64 0, .int .i64 0, .int .i64 0, .int .i64 0, .int .i64 0, .int .i64 0, .int .i64 0, .int .i64 0, .slice none 0 0]], []⟩ 8 (by kernel_rfl) (by kernel_rfl) (by kernel_rfl) (by kernel_rfl)) ?_
 intro W base args ds gs before hval0 hW hcnd hsz0 _
 have hW' := hW
 obtain ⟨p, q, hA0, hV, rfl, hfz, hnd⟩ := hW
 obtain ⟨rfl, rfl⟩ := trodVars_none hV
 have hsz1 : (DataW.weightsEach Try.prog (Try.f7.params.toList ++ Rows.msgTellsSpec.plain.varTypes Try.prog) (ds ++ [])).all (· ≤ reachBytes) = true := hsz0
 have hval : ∀ (j : Nat) t v, Try.f7.params[j]? = some t → args[j]? = some v → Value.okWide Try.prog W .any base t v := hval0
 have hA1 : DataW.TrodAll enc Try.prog W 0 (fun _ => true) true Try.f7.params.toList args.toList ds p := hA0
 rw [Try.params7] at hA1 hsz1 hval
 have hA : DataW.TrodAll enc Try.prog W 0 (fun _ => true) true [30, 30] args.toList ds p := hA1
 have hsz : (DataW.weightsEach Try.prog [30, 30] ds).all (· ≤ reachBytes) = true := by rw [List.append_nil ds] at hsz1; exact hsz1
 clear hA0 hA1 hval0 hsz0 hsz1
 have r := hA
 obtain ⟨v0, vs0, d0, ds0, p0, q0, hargs0, rfl, hp0, h0, r0⟩ := trodAll_cons r
 obtain ⟨v1, vs1, d1, ds1, p1, q1, hargs1, rfl, hp1, h1, r1⟩ := trodAll_cons r0
 obtain ⟨_, rfl, _⟩ := trodAll_nil r1
 refine (acg mixes coded law hA (fun j t v h1 h2 => hval j t v (by rw [List.getElem?_toArray]; exact h1) h2) hsz).mono fun e W' ⟨he, bel⟩ => ?_
 subst he
 exact ⟨_, rfl, _, _, _, [], _, [], hW', trodAll_mk1 (shut_bool (by kernel_rfl) _), ad9 laidOut bel _ _ _ _ (by kernel_rfl) hA, rfl, bel.frame _, fun h => by cases h⟩
theorem over : Rows.msgTellsRow.holds Try.pinned (OpenSpec.ofChange Rows.msgTellsSpec) :=
 OpenClaim.holds_of_wide 7 Try.f7 rfl rfl rfl rfl rfl rfl rfl ⟨rfl, rfl, rfl, rfl, rfl⟩ rfl rfl rfl rfl rfl (by kernel_rfl) Try.func7 (by kernel_rfl)
  (of_decide_eq_true (by kernel_rfl)) (by unfold Func.isWrapper; first | (rw [if_pos (by decide +kernel)]; kernel_rfl) | (rw [if_neg (by decide +kernel)]; exact ⟨rfl, rfl⟩))
  (fun os started H enc _ => lifted os started H enc)
theorem proved : Rows.MsgTellsSaid := over
end Go.Proofs.Ytbgcphbbchndkaa.msgTells
namespace Go.Proofs.Ytbgcphbbchndkaa
theorem msgTells_holds : Rows.MsgTellsSaid := msgTells.proved
#print axioms msgTells_holds
end Go.Proofs.Ytbgcphbbchndkaa
