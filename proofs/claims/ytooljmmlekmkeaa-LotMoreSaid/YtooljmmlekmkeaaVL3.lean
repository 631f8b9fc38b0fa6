/-
Whether draws can be; whether at most one wins in each slot: what lot and the document's answer.
-/
import Derived.Test.YtooljmmlekmkeaaF12
import Derived.Test.YtooljmmlekmkeaaF22
import Derived.Test.YtooljmmlekmkeaaF9
import Derived.Test.YtooljmmlekmkeaaF10
import Derived.Test.YtooljmmlekmkeaaF11
import Derived.Test.YtooljmmlekmkeaaVL2
import Derived.Test.YtooljmmlekmkeaaVIdx
set_option linter.unusedVariables false
set_option linter.unusedSimpArgs false
namespace Go.Proofs.Ytooljmmlekmkeaa
open Go.Abs

def badD (d : Int) : Bool := decide (d < 0) || decide (128 ≤ d)
def chkN (l : List Int) : Int := if 200 < l.length ∨ l.any badD = true then 101 else 0
theorem chkN_ok {l : List Int} (h : chkN l = 0) : l.length ≤ 200 ∧ ∀ d ∈ l, 0 ≤ d ∧ d ≤ 127 := by
  unfold chkN at h
  split at h
  · cases h
  · rename_i hc
    refine ⟨by omega, fun d hd => ?_⟩
    have : badD d ≠ true := fun hb => hc (.inr (List.any_eq_true.2 ⟨d, hd, hb⟩))
    unfold badD at this
    simp only [ne_eq, Bool.or_eq_true, decide_eq_true_eq] at this
    omega

section
variable {k : Nat} {l : List Int}
theorem lot_Check_1.v {d : Int} (S : AHeap) : vlim Try.prog O lot_Check_1.id [.int .i64 d] S = some (.bool (badD d), S) := by
  obtain ⟨T, hTe⟩ : ∃ T, T = (.int .i64 d :: undef :: undef :: undef :: undef :: undef :: undef :: undef :: undef :: []) := ⟨_, rfl⟩
  have hr : vcodeV Try.prog O false lot_Check_1.code T S = vcodeV Try.prog O false lot_Check_1.code T S := rfl
  unfold badD
  by_cases h1 : d < 0
  · conv at hr =>
      rhs
      rw [hTe]
      simp only [lot_Check_1.code, lot_Check_1.rs, wk, List.getD_cons_succ, List.getD_cons_zero, if_true, if_false, List.getElem?_cons_succ, List.getElem?_cons_zero, Option.map_some, eq_self, reduceIte, Nat.reduceEqDiff, Int.reduceEq, Int.reduceLT, Int.reduceLE, h1]
    rw [hTe] at hr
    rw [decide_eq_true h1, Bool.true_or]
    exact lot_Check_1.runs hr (.inr rfl)
  · conv at hr =>
      rhs
      rw [hTe]
      simp only [lot_Check_1.code, lot_Check_1.rs, wk, List.getD_cons_succ, List.getD_cons_zero, if_true, if_false, List.getElem?_cons_succ, List.getElem?_cons_zero, Option.map_some, eq_self, reduceIte, Nat.reduceEqDiff, Int.reduceEq, Int.reduceLT, Int.reduceLE, h1]
    rw [hTe] at hr
    rw [decide_eq_false h1, Bool.false_or]
    exact lot_Check_1.runs hr (.inr rfl)
theorem lot_Check.v (hv : Okl k l) (hk : k ≠ 2) (hlen : l.length ≤ 17592186044416) (S : AHeap) : vlim Try.prog O lot_Check.id [iz k l] S = some (.int .i64 (chkN l), S) := by
  obtain ⟨T, hTe⟩ : ∃ T, T = (iz k l :: undef :: undef :: undef :: undef :: undef :: undef :: undef :: undef :: undef :: []) := ⟨_, rfl⟩
  have hr : vcodeV Try.prog O false lot_Check.code T S = vcodeV Try.prog O false lot_Check.code T S := rfl
  have c1 := fun S => slices_ContainsFunc.v hv hk hlen (p := badD) (g := 22) (fun x _ S => lot_Check_1.v S) S
  unfold chkN
  by_cases h1 : 200 < l.length
  · have d1 : (200 : Int) < (l.length : Int) := by omega
    conv at hr =>
      rhs
      rw [hTe]
      simp only [lot_Check.code, lot_Check.rs, wk, List.getD_cons_succ, List.getD_cons_zero, if_true, if_false, List.getElem?_cons_succ, List.getElem?_cons_zero, Option.map_some, eq_self, reduceIte, Nat.reduceEqDiff, Int.reduceEq, Int.reduceLT, Int.reduceLE, if_neg hk, iz_len hv, goInt, d1]
    rw [hTe] at hr
    rw [if_pos (.inl h1)]
    exact lot_Check.runs hr (.inr rfl)
  · have d1 : ¬ (200 : Int) < (l.length : Int) := by omega
    cases h2 : l.any badD with
    | true =>
      rw [h2] at c1
      conv at hr =>
        rhs
        rw [hTe]
        simp only [lot_Check.code, lot_Check.rs, wk, List.getD_cons_succ, List.getD_cons_zero, if_true, if_false, List.getElem?_cons_succ, List.getElem?_cons_zero, Option.map_some, eq_self, reduceIte, Nat.reduceEqDiff, Int.reduceEq, Int.reduceLT, Int.reduceLE, if_neg hk, iz_len hv, goInt, d1, c1]
      rw [hTe] at hr
      rw [if_pos (.inr rfl)]
      exact lot_Check.runs hr (.inr rfl)
    | false =>
      rw [h2] at c1
      conv at hr =>
        rhs
        rw [hTe]
        simp only [lot_Check.code, lot_Check.rs, wk, List.getD_cons_succ, List.getD_cons_zero, if_true, if_false, List.getElem?_cons_succ, List.getElem?_cons_zero, Option.map_some, eq_self, reduceIte, Nat.reduceEqDiff, Int.reduceEq, Int.reduceLT, Int.reduceLE, if_neg hk, iz_len hv, goInt, d1, c1]
      rw [hTe] at hr
      rw [if_neg (by rintro (h | h); exact h1 h; cases h)]
      exact lot_Check.runs hr (.inr rfl)
theorem neaptideref10_Check.round (hv : Okl k l) (hlen : l.length ≤ 17592186044416) {S : AHeap} : ∀ (suf pre : List Int) {T : List Value} {r : St}, loopV (vcodeV Try.prog O false neaptideref10_Check.loop1) T S = r → T.length = 21 →
    T.getD 8 undef = iz k l → T.getD 9 undef = .int .i64 l.length → T.getD 10 undef = .int .i64 pre.length → l = pre ++ suf →
    ∃ e T', r = some (e, T', S) ∧ if suf.any badD then e = .ret ∧ T'.getD 2 undef = .int .i64 101 else e = .exit 0 ∧ T'.length = 21 := by
  intro suf
  induction suf with
  | nil =>
    intro pre T r hL hT h0 h7 h8 hl
    have hTe := neaptideref10_Check.eta hT
    rw [h0, h7, h8] at hTe
    have hr : vcodeV Try.prog O false neaptideref10_Check.loop1 T S = vcodeV Try.prog O false neaptideref10_Check.loop1 T S := rfl
    have hd : ¬ (pre.length : Int) < (l.length : Int) := by rw [hl]; simp
    conv at hr =>
      rhs
      rw [hTe]
      simp only [neaptideref10_Check.loop1, neaptideref10_Check.code, neaptideref10_Check.rs, wk, List.getD_cons_succ, List.getD_cons_zero, if_true, if_false, List.getElem?_cons_succ, List.getElem?_cons_zero, Option.map_some, eq_self, reduceIte, Nat.reduceEqDiff, Int.reduceEq, Int.reduceLT, Int.reduceLE, hd]
    exact ⟨_, _, hL.symm.trans (loopV_exit hr (by simp)), rfl, rfl⟩
  | cons x suf ih =>
    intro pre T r hL hT h0 h7 h8 hl
    have hTe := neaptideref10_Check.eta hT
    rw [h0, h7, h8] at hTe
    have hr : vcodeV Try.prog O false neaptideref10_Check.loop1 T S = vcodeV Try.prog O false neaptideref10_Check.loop1 T S := rfl
    have hd : (pre.length : Int) < (l.length : Int) := by rw [hl]; simp; omega
    have e1 : ∀ S, vIndexAddr Try.prog 22 (iz k l) (.int .i64 pre.length) S = some (EP [.int .i64 x], S) := fun S => by
      rw [iz_at hv (by omega) hd]; rw [iz_at_pre hl]
    have wi : IntKind.i64.wrap ((pre.length : Int) + 1) = ((pre ++ [x]).length : Int) := by rw [wrap_i64 (by omega) (by omega)]; simp
    rw [List.any_cons]
    by_cases h1 : x < 0
    · conv at hr =>
        rhs
        rw [hTe]
        simp only [neaptideref10_Check.loop1, neaptideref10_Check.code, neaptideref10_Check.rs, wk, List.getD_cons_succ, List.getD_cons_zero, if_true, if_false, List.getElem?_cons_succ, List.getElem?_cons_zero, Option.map_some, eq_self, reduceIte, Nat.reduceEqDiff, Int.reduceEq, Int.reduceLT, Int.reduceLE, hd, e1, iz_load, h1]
      refine ⟨_, _, hL.symm.trans (loopV_exit hr (by simp)), ?_⟩
      rw [show badD x = true by simp [badD, h1], Bool.true_or]
      exact ⟨rfl, rfl⟩
    · by_cases h2 : 127 < x
      · conv at hr =>
          rhs
          rw [hTe]
          simp only [neaptideref10_Check.loop1, neaptideref10_Check.code, neaptideref10_Check.rs, wk, List.getD_cons_succ, List.getD_cons_zero, if_true, if_false, List.getElem?_cons_succ, List.getElem?_cons_zero, Option.map_some, eq_self, reduceIte, Nat.reduceEqDiff, Int.reduceEq, Int.reduceLT, Int.reduceLE, hd, e1, iz_load, h1, h2]
        refine ⟨_, _, hL.symm.trans (loopV_exit hr (by simp)), ?_⟩
        rw [show badD x = true by simp [badD]; omega, Bool.true_or]
        exact ⟨rfl, rfl⟩
      · conv at hr =>
          rhs
          rw [hTe]
          simp only [neaptideref10_Check.loop1, neaptideref10_Check.code, neaptideref10_Check.rs, wk, List.getD_cons_succ, List.getD_cons_zero, if_true, if_false, List.getElem?_cons_succ, List.getElem?_cons_zero, Option.map_some, eq_self, reduceIte, Nat.reduceEqDiff, Int.reduceEq, Int.reduceLT, Int.reduceLE, hd, e1, iz_load, h1, h2, wi]
        obtain ⟨e, T', g1, g2⟩ := ih (pre ++ [x]) ((loopV_step hr).symm.trans hL) rfl rfl rfl rfl (by simp [hl])
        refine ⟨e, T', g1, ?_⟩
        rw [show badD x = false by simp [badD]; omega, Bool.false_or]
        exact g2
theorem neaptideref10_Check.v (hv : Okl k l) (hk : k ≠ 2) (hlen : l.length ≤ 17592186044416) (S : AHeap) : vlim Try.prog O neaptideref10_Check.id [iz k l] S = some (.int .i64 (chkN l), S) := by
  obtain ⟨T, hTe⟩ : ∃ T, T = (iz k l :: undef :: undef :: undef :: undef :: undef :: undef :: undef :: undef :: undef :: undef :: undef :: undef :: undef :: undef :: undef :: undef :: undef :: undef :: undef :: undef :: []) := ⟨_, rfl⟩
  have hr : vcodeV Try.prog O false neaptideref10_Check.code T S = vcodeV Try.prog O false neaptideref10_Check.code T S := rfl
  unfold chkN
  by_cases h1 : 200 < l.length
  · have d1 : (200 : Int) < (l.length : Int) := by omega
    conv at hr =>
      rhs
      rw [hTe]
      simp only [neaptideref10_Check.code, neaptideref10_Check.rs, wk, List.getD_cons_succ, List.getD_cons_zero, if_true, if_false, List.getElem?_cons_succ, List.getElem?_cons_zero, Option.map_some, eq_self, reduceIte, Nat.reduceEqDiff, Int.reduceEq, Int.reduceLT, Int.reduceLE, if_neg hk, iz_len hv, goInt, d1]
    rw [hTe] at hr
    rw [if_pos (.inl h1)]
    exact neaptideref10_Check.runs hr (.inr rfl)
  · have d1 : ¬ (200 : Int) < (l.length : Int) := by omega
    conv at hr =>
      rhs
      rw [hTe]
      simp only [neaptideref10_Check.code, neaptideref10_Check.rs, wk, List.getD_cons_succ, List.getD_cons_zero, if_true, if_false, List.getElem?_cons_succ, List.getElem?_cons_zero, Option.map_some, eq_self, reduceIte, Nat.reduceEqDiff, Int.reduceEq, Int.reduceLT, Int.reduceLE, if_neg hk, iz_len hv, goInt, d1]
    generalize hL : loopV (vcodeV Try.prog O false neaptideref10_Check.loop1) _ _ = r at hr
    obtain ⟨e, T', rfl, g⟩ := neaptideref10_Check.round hv hlen l [] hL rfl rfl rfl rfl rfl
    cases h2 : l.any badD with
    | true =>
      rw [h2] at g
      obtain ⟨rfl, g2⟩ := g
      conv at hr =>
        rhs
        simp only [wk, List.getD_cons_succ, List.getD_cons_zero, if_true, if_false, List.getElem?_cons_succ, List.getElem?_cons_zero, Option.map_some, eq_self, reduceIte, Nat.reduceEqDiff, Int.reduceEq, Int.reduceLT, Int.reduceLE]
      rw [hTe] at hr
      rw [if_pos (.inr rfl)]
      have hrun := neaptideref10_Check.runs hr (.inr rfl)
      rw [g2] at hrun
      exact hrun
    | false =>
      rw [h2] at g
      obtain ⟨rfl, g2⟩ := g
      have hTe' := neaptideref10_Check.eta g2
      conv at hr =>
        rhs
        rw [hTe']
        simp only [neaptideref10_Check.code, neaptideref10_Check.rs, wk, List.getD_cons_succ, List.getD_cons_zero, if_true, if_false, List.getElem?_cons_succ, List.getElem?_cons_zero, Option.map_some, eq_self, reduceIte, Nat.reduceEqDiff, Int.reduceEq, Int.reduceLT, Int.reduceLE]
      rw [hTe] at hr
      rw [if_neg (by rintro (h | h); exact h1 h; cases h)]
      exact neaptideref10_Check.runs hr (.inr rfl)

/-- At most one, and one of these? -/
def oneOf (who : List Int) : List Int → Bool
  | [] => true
  | [x] => who.any fun w => decide (x = w)
  | _ => false
def single (l who : List Int) (s : Int) (m : Nat) : Bool := (ints s m).all fun s => oneOf who (winners l s)
theorem winners_len (l : List Int) (s : Int) : (winners l s).length ≤ 7 := Nat.le_trans (List.length_filter_le _ _) (by rw [ints_len]; omega)

theorem lot_Single.round {j : Nat} {who : List Int} (hv : Okl k l) (hk : k ≠ 2) (hl : l.length ≤ 200) (hd : ∀ d ∈ l, 0 ≤ d ∧ d ≤ 127) (hj : Okl j who) (j2 : j ≠ 2) (hw : who.length ≤ 17592186044416) {S : AHeap} : ∀ (m : Nat) (i : Int) {T : List Value} {r : St}, loopV (vcodeV Try.prog O false lot_Single.loop1) T S = r → T.length = 33 →
    T.getD 0 undef = iz k l → T.getD 1 undef = iz j who → T.getD 8 undef = .int .i64 l.length → T.getD 9 undef = .int .i64 i → 0 ≤ i → i + m = l.length →
    ∃ e T', r = some (e, T', S) ∧ if single l who (i + 1) m then e = .exit 0 ∧ T'.length = 33 else e = .ret ∧ T'.getD 4 undef = .bool false := by
  intro m
  induction m with
  | zero =>
    intro i T r hL hT h0 h1 h8 h9 hi him
    have hTe := lot_Single.eta hT
    rw [h0, h1, h8, h9] at hTe
    have hr : vcodeV Try.prog O false lot_Single.loop1 T S = vcodeV Try.prog O false lot_Single.loop1 T S := rfl
    have d1 : ¬ i < (l.length : Int) := by omega
    conv at hr =>
      rhs
      rw [hTe]
      simp only [lot_Single.loop1, lot_Single.code, lot_Single.rs, wk, List.getD_cons_succ, List.getD_cons_zero, if_true, if_false, List.getElem?_cons_succ, List.getElem?_cons_zero, Option.map_some, eq_self, reduceIte, Nat.reduceEqDiff, Int.reduceEq, Int.reduceLT, Int.reduceLE, d1]
    exact ⟨_, _, hL.symm.trans (loopV_exit hr (by simp)), rfl, rfl⟩
  | succ m ih =>
    intro i T r hL hT h0 h1 h8 h9 hi him
    have hTe := lot_Single.eta hT
    rw [h0, h1, h8, h9] at hTe
    have hr : vcodeV Try.prog O false lot_Single.loop1 T S = vcodeV Try.prog O false lot_Single.loop1 T S := rfl
    have d1 : i < (l.length : Int) := by omega
    have c1 := fun S => lot_Winners.v (slot := i + 1) hv hk hl hd S
    have w1 : IntKind.i64.wrap (i + 1) = i + 1 := wrap_i64 (by omega) (by omega)
    have hs : single l who (i + 1) (m + 1) = (oneOf who (winners l (i + 1)) && single l who (i + 1 + 1) m) := by
      simp only [single, ints, List.all_cons]
    rw [hs]
    have h7 := winners_len l (i + 1)
    generalize winners l (i + 1) = w at c1 h7
    match w, h7 with
    | [], _ =>
      rw [if_pos rfl] at c1
      have n1 : ∀ S, vLen Try.prog 22 (iz 0 []) S = some (.int .i64 0, S) := fun S => iz_len Okl.none
      have z1 : ¬ (1 : Int) < 0 := by omega
      have z2 : ¬ (0 : Int) = 1 := by omega
      conv at hr =>
        rhs
        rw [hTe]
        simp only [lot_Single.loop1, lot_Single.code, lot_Single.rs, wk, List.getD_cons_succ, List.getD_cons_zero, if_true, if_false, List.getElem?_cons_succ, List.getElem?_cons_zero, Option.map_some, eq_self, reduceIte, Nat.reduceEqDiff, Int.reduceEq, Int.reduceLT, Int.reduceLE, if_neg hk, d1, w1, c1, n1, z1, z2]
      obtain ⟨e, T', g1, g2⟩ := ih (i + 1) ((loopV_step hr).symm.trans hL) rfl rfl rfl rfl rfl (by omega) (by omega)
      exact ⟨e, T', g1, g2⟩
    | [x], _ =>
      rw [if_neg (by simp)] at c1
      have n1 : ∀ S, vLen Try.prog 22 (iz 1 [x]) S = some (.int .i64 1, S) := fun S => iz_len Okl.read
      have n2 : ∀ S, vIndexAddr Try.prog 22 (iz 1 [x]) (.int .i64 0) S = some (EP [.int .i64 x], S) := fun S => iz_at Okl.read (by omega) (by simp)
      have c2 := fun S => slices_Contains.v hj j2 hw (v := x) S
      have z1 : ¬ (1 : Int) < 1 := by omega
      show ∃ e T', _ ∧ if (who.any fun w => decide (x = w)) && single l who (i + 1 + 1) m then _ else _
      cases ha : who.any fun w => decide (x = w) with
      | true =>
        rw [ha] at c2
        conv at hr =>
          rhs
          rw [hTe]
          simp only [lot_Single.loop1, lot_Single.code, lot_Single.rs, wk, List.getD_cons_succ, List.getD_cons_zero, if_true, if_false, List.getElem?_cons_succ, List.getElem?_cons_zero, Option.map_some, eq_self, reduceIte, Nat.reduceEqDiff, Int.reduceEq, Int.reduceLT, Int.reduceLE, if_neg hk, if_neg j2, d1, w1, c1, n1, z1, n2, iz_load, c2]
        obtain ⟨e, T', g1, g2⟩ := ih (i + 1) ((loopV_step hr).symm.trans hL) rfl rfl rfl rfl rfl (by omega) (by omega)
        exact ⟨e, T', g1, g2⟩
      | false =>
        rw [ha] at c2
        conv at hr =>
          rhs
          rw [hTe]
          simp only [lot_Single.loop1, lot_Single.code, lot_Single.rs, wk, List.getD_cons_succ, List.getD_cons_zero, if_true, if_false, List.getElem?_cons_succ, List.getElem?_cons_zero, Option.map_some, eq_self, reduceIte, Nat.reduceEqDiff, Int.reduceEq, Int.reduceLT, Int.reduceLE, if_neg hk, if_neg j2, d1, w1, c1, n1, z1, n2, iz_load, c2]
        exact ⟨_, _, hL.symm.trans (loopV_exit hr (by simp)), rfl, rfl⟩
    | x :: y :: w, h7 =>
      rw [if_neg (by simp)] at c1
      have n1 : ∀ S, vLen Try.prog 22 (iz 1 (x :: y :: w)) S = some (.int .i64 (w.length + 2 : Nat), S) := fun S => iz_len Okl.read
      have z1 : (1 : Int) < ((w.length + 2 : Nat) : Int) := by omega
      conv at hr =>
        rhs
        rw [hTe]
        simp only [lot_Single.loop1, lot_Single.code, lot_Single.rs, wk, List.getD_cons_succ, List.getD_cons_zero, if_true, if_false, List.getElem?_cons_succ, List.getElem?_cons_zero, Option.map_some, eq_self, reduceIte, Nat.reduceEqDiff, Int.reduceEq, Int.reduceLT, Int.reduceLE, if_neg hk, if_neg j2, d1, w1, c1, n1, z1]
      exact ⟨_, _, hL.symm.trans (loopV_exit hr (by simp)), rfl, rfl⟩
theorem lot_Single.v {j : Nat} {who : List Int} (hv : Okl k l) (hk : k ≠ 2) (hl : l.length ≤ 200) (hd : ∀ d ∈ l, 0 ≤ d ∧ d ≤ 127) (hj : Okl j who) (j2 : j ≠ 2) (hw : who.length ≤ 17592186044416) (S : AHeap) : vlim Try.prog O lot_Single.id [iz k l, iz j who] S = some (.bool (single l who 1 l.length), S) := by
  obtain ⟨T, hTe⟩ : ∃ T, T = (iz k l :: iz j who :: undef :: undef :: undef :: undef :: undef :: undef :: undef :: undef :: undef :: undef :: undef :: undef :: undef :: undef :: undef :: undef :: undef :: undef :: undef :: undef :: undef :: undef :: undef :: undef :: undef :: undef :: undef :: undef :: undef :: undef :: undef :: []) := ⟨_, rfl⟩
  have hr : vcodeV Try.prog O false lot_Single.code T S = vcodeV Try.prog O false lot_Single.code T S := rfl
  conv at hr =>
    rhs
    rw [hTe]
    simp only [lot_Single.code, lot_Single.rs, wk, List.getD_cons_succ, List.getD_cons_zero, if_true, if_false, List.getElem?_cons_succ, List.getElem?_cons_zero, Option.map_some, eq_self, reduceIte, Nat.reduceEqDiff, Int.reduceEq, Int.reduceLT, Int.reduceLE, if_neg hk, iz_len hv, goInt]
  generalize hL : loopV (vcodeV Try.prog O false lot_Single.loop1) _ _ = r at hr
  obtain ⟨e, T', rfl, g⟩ := lot_Single.round hv hk hl hd hj j2 hw l.length 0 hL rfl rfl rfl rfl rfl (by omega) (by omega)
  rw [show (0 : Int) + 1 = 1 by omega] at g
  cases h : single l who 1 l.length with
  | true =>
    rw [h] at g
    obtain ⟨rfl, g2⟩ := g
    have hTe' := lot_Single.eta g2
    conv at hr =>
      rhs
      rw [hTe']
      simp only [lot_Single.code, lot_Single.rs, wk, List.getD_cons_succ, List.getD_cons_zero, if_true, if_false, List.getElem?_cons_succ, List.getElem?_cons_zero, Option.map_some, eq_self, reduceIte, Nat.reduceEqDiff, Int.reduceEq, Int.reduceLT, Int.reduceLE]
    rw [hTe] at hr
    exact lot_Single.runs hr (.inr rfl)
  | false =>
    rw [h] at g
    obtain ⟨rfl, g2⟩ := g
    conv at hr =>
      rhs
      simp only [wk, List.getD_cons_succ, List.getD_cons_zero, if_true, if_false, List.getElem?_cons_succ, List.getElem?_cons_zero, Option.map_some, eq_self, reduceIte, Nat.reduceEqDiff, Int.reduceEq, Int.reduceLT, Int.reduceLE]
    rw [hTe] at hr
    have hrun := lot_Single.runs hr (.inr rfl)
    rw [g2] at hrun
    exact hrun
end
end Go.Proofs.Ytooljmmlekmkeaa
