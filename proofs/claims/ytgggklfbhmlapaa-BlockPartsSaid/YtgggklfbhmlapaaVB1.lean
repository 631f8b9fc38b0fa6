/-
Blocks' names: which numbers are names, and of what.
-/
import Derived.Test.YtgggklfbhmlapaaF26
import Derived.Test.YtgggklfbhmlapaaF25
import Derived.Test.YtgggklfbhmlapaaF12
import Derived.Test.YtgggklfbhmlapaaF13
import Derived.Test.YtgggklfbhmlapaaF10
import Derived.Test.YtgggklfbhmlapaaVBase
import Derived.Test.YtgggklfbhmlapaaVMem
set_option linter.unusedVariables false
set_option linter.unusedSimpArgs false
namespace Go.Proofs.Ytgggklfbhmlapaa
open Go.Abs

def btw (n a b : Int) : Bool := decide (a ≤ n) && decide (n ≤ b)
theorem btw_iff {n a b : Int} : btw n a b = true ↔ a ≤ n ∧ n ≤ b := by simp [btw]
def namedB (n : Int) : Bool := btw n 65536 268435455 && decide (n % 65536 / 256 < 7)
theorem named_iff {n : Int} : namedB n = true ↔ 65536 ≤ n ∧ n ≤ 268435455 ∧ n % 65536 / 256 < 7 := by simp [namedB, btw, and_assoc]
def slotOf (n : Int) : Int := if namedB n = true then n / 65536 else 0
def minerOf (n : Int) : Int := if namedB n = true then n % 65536 / 256 else 0
theorem tmod_pos {n m : Int} (h : 0 ≤ n) : n.tmod m = n % m := Int.tmod_eq_emod_of_nonneg h
theorem tdiv_pos {n m : Int} (h : 0 ≤ n) : n.tdiv m = n / m := Int.tdiv_eq_ediv_of_nonneg h
theorem d65536 : (65536 : Int) ≠ 0 := by decide
theorem d256 : (256 : Int) ≠ 0 := by decide
theorem block_between.v (n a b : Int) (S : AHeap) : vlim Try.prog O block_between.id [.int .i64 n, .int .i64 a, .int .i64 b] S = some (.bool (btw n a b), S) := by
  obtain ⟨T, hTe⟩ : ∃ T, T = (.int .i64 n :: .int .i64 a :: .int .i64 b :: undef :: undef :: undef :: undef :: undef :: undef :: undef :: undef :: undef :: undef :: undef :: undef :: []) := ⟨_, rfl⟩
  have hr : vcodeV Try.prog O false block_between.code T S = vcodeV Try.prog O false block_between.code T S := rfl
  unfold btw
  by_cases h1 : a ≤ n
  · conv at hr =>
      rhs
      rw [hTe]
      simp only [block_between.code, block_between.rs, wk, List.getD_cons_succ, List.getD_cons_zero, if_true, if_false, List.getElem?_cons_succ, List.getElem?_cons_zero, Option.map_some, eq_self, reduceIte, Nat.reduceEqDiff, Int.reduceEq, Int.reduceLT, Int.reduceLE, decide_eq_true h1]
    rw [decide_eq_true h1, Bool.true_and]
    rw [hTe] at hr
    exact block_between.runs hr (.inr rfl)
  · conv at hr =>
      rhs
      rw [hTe]
      simp only [block_between.code, block_between.rs, wk, List.getD_cons_succ, List.getD_cons_zero, if_true, if_false, List.getElem?_cons_succ, List.getElem?_cons_zero, Option.map_some, eq_self, reduceIte, Nat.reduceEqDiff, Int.reduceEq, Int.reduceLT, Int.reduceLE, decide_eq_false h1]
    rw [decide_eq_false h1, Bool.false_and]
    rw [hTe] at hr
    exact block_between.runs hr (.inr rfl)
theorem block_named.v (n : Int) (S : AHeap) : vlim Try.prog O block_named.id [.int .i64 n] S = some (.bool (namedB n), S) := by
  obtain ⟨T, hTe⟩ : ∃ T, T = (.int .i64 n :: undef :: undef :: undef :: undef :: undef :: undef :: undef :: undef :: undef :: undef :: []) := ⟨_, rfl⟩
  have hr : vcodeV Try.prog O false block_named.code T S = vcodeV Try.prog O false block_named.code T S := rfl
  unfold namedB
  cases h1 : btw n 65536 268435455
  · conv at hr =>
      rhs
      rw [hTe]
      simp only [block_named.code, block_named.rs, wk, List.getD_cons_succ, List.getD_cons_zero, if_true, if_false, List.getElem?_cons_succ, List.getElem?_cons_zero, Option.map_some, eq_self, reduceIte, Nat.reduceEqDiff, Int.reduceEq, Int.reduceLT, Int.reduceLE, block_between.v, h1]
    rw [hTe] at hr
    exact block_named.runs hr (.inr rfl)
  · have hb := btw_iff.mp h1
    have q1 : IntKind.i64.wrap ((n.tmod 65536).tdiv 256) = n % 65536 / 256 := by
      rw [tmod_pos (by omega), tdiv_pos (by omega), wrap_i64 (by omega) (by omega)]
    conv at hr =>
      rhs
      rw [hTe]
      simp only [block_named.code, block_named.rs, wk, List.getD_cons_succ, List.getD_cons_zero, if_true, if_false, List.getElem?_cons_succ, List.getElem?_cons_zero, Option.map_some, eq_self, reduceIte, Nat.reduceEqDiff, Int.reduceEq, Int.reduceLT, Int.reduceLE, block_between.v, h1, aBin_rem _ _ _ d65536, aBin_quo _ _ _ d256, q1]
    rw [hTe] at hr
    rw [Bool.true_and]
    exact block_named.runs hr (.inr rfl)
theorem block_Slot.v (n : Int) (S : AHeap) : vlim Try.prog O block_Slot.id [.int .i64 n] S = some (.int .i64 (slotOf n), S) := by
  obtain ⟨T, hTe⟩ : ∃ T, T = (.int .i64 n :: undef :: undef :: undef :: undef :: undef :: undef :: undef :: []) := ⟨_, rfl⟩
  have hr : vcodeV Try.prog O false block_Slot.code T S = vcodeV Try.prog O false block_Slot.code T S := rfl
  unfold slotOf
  cases h1 : namedB n
  · conv at hr =>
      rhs
      rw [hTe]
      simp only [block_Slot.code, block_Slot.rs, wk, List.getD_cons_succ, List.getD_cons_zero, if_true, if_false, List.getElem?_cons_succ, List.getElem?_cons_zero, Option.map_some, eq_self, reduceIte, Nat.reduceEqDiff, Int.reduceEq, Int.reduceLT, Int.reduceLE, block_named.v, h1]
    rw [hTe] at hr
    exact block_Slot.runs hr (.inr rfl)
  · have hb := named_iff.mp h1
    have q1 : IntKind.i64.wrap (n.tdiv 65536) = n / 65536 := by
      rw [tdiv_pos (by omega), wrap_i64 (by omega) (by omega)]
    conv at hr =>
      rhs
      rw [hTe]
      simp only [block_Slot.code, block_Slot.rs, wk, List.getD_cons_succ, List.getD_cons_zero, if_true, if_false, List.getElem?_cons_succ, List.getElem?_cons_zero, Option.map_some, eq_self, reduceIte, Nat.reduceEqDiff, Int.reduceEq, Int.reduceLT, Int.reduceLE, block_named.v, h1, aBin_quo _ _ _ d65536, q1]
    rw [hTe] at hr
    exact block_Slot.runs hr (.inr rfl)
theorem block_Miner.v (n : Int) (S : AHeap) : vlim Try.prog O block_Miner.id [.int .i64 n] S = some (.int .i64 (minerOf n), S) := by
  obtain ⟨T, hTe⟩ : ∃ T, T = (.int .i64 n :: undef :: undef :: undef :: undef :: undef :: undef :: undef :: undef :: []) := ⟨_, rfl⟩
  have hr : vcodeV Try.prog O false block_Miner.code T S = vcodeV Try.prog O false block_Miner.code T S := rfl
  unfold minerOf
  cases h1 : namedB n
  · conv at hr =>
      rhs
      rw [hTe]
      simp only [block_Miner.code, block_Miner.rs, wk, List.getD_cons_succ, List.getD_cons_zero, if_true, if_false, List.getElem?_cons_succ, List.getElem?_cons_zero, Option.map_some, eq_self, reduceIte, Nat.reduceEqDiff, Int.reduceEq, Int.reduceLT, Int.reduceLE, block_named.v, h1]
    rw [hTe] at hr
    exact block_Miner.runs hr (.inr rfl)
  · have hb := named_iff.mp h1
    have q1 : IntKind.i64.wrap ((n.tmod 65536).tdiv 256) = n % 65536 / 256 := by
      rw [tmod_pos (by omega), tdiv_pos (by omega), wrap_i64 (by omega) (by omega)]
    conv at hr =>
      rhs
      rw [hTe]
      simp only [block_Miner.code, block_Miner.rs, wk, List.getD_cons_succ, List.getD_cons_zero, if_true, if_false, List.getElem?_cons_succ, List.getElem?_cons_zero, Option.map_some, eq_self, reduceIte, Nat.reduceEqDiff, Int.reduceEq, Int.reduceLT, Int.reduceLE, block_named.v, h1, aBin_rem _ _ _ d65536, aBin_quo _ _ _ d256, q1]
    rw [hTe] at hr
    exact block_Miner.runs hr (.inr rfl)
/-- What Parts answers. -/
def partsV (n : Int) : Value := if n < 0 then .tuple #[.int .i64 0, .int .i64 0, .int .i64 0, .bool false] else .tuple #[.int .i64 (n / 65536), .int .i64 (n / 256 % 256), .int .i64 (n % 256), .bool (namedB n)]
theorem neaptideref07_Parts.v (n : Int) (hn : n < 9223372036854775808) (S : AHeap) : vlim Try.prog O neaptideref07_Parts.id [.int .i64 n] S = some (partsV n, S) := by
  obtain ⟨T, hTe⟩ : ∃ T, T = (.int .i64 n :: undef :: undef :: undef :: undef :: undef :: undef :: undef :: undef :: undef :: undef :: undef :: undef :: undef :: undef :: undef :: undef :: undef :: undef :: undef :: undef :: undef :: undef :: undef :: undef :: undef :: undef :: undef :: undef :: undef :: undef :: []) := ⟨_, rfl⟩
  have hr : vcodeV Try.prog O false neaptideref07_Parts.code T S = vcodeV Try.prog O false neaptideref07_Parts.code T S := rfl
  unfold partsV
  by_cases h0 : n < 0
  · conv at hr =>
      rhs
      rw [hTe]
      simp only [neaptideref07_Parts.code, neaptideref07_Parts.rs, wk, List.getD_cons_succ, List.getD_cons_zero, if_true, if_false, List.getElem?_cons_succ, List.getElem?_cons_zero, Option.map_some, eq_self, reduceIte, Nat.reduceEqDiff, Int.reduceEq, Int.reduceLT, Int.reduceLE, decide_eq_true h0]
    rw [hTe] at hr
    rw [if_pos h0]
    exact neaptideref07_Parts.runs hr (.inr rfl) rfl rfl rfl rfl
  · have q1 : IntKind.i64.wrap (n.tdiv 65536) = n / 65536 := by
      rw [tdiv_pos (by omega), wrap_i64 (by omega) (by omega)]
    have q2 : (IntKind.i64.wrap (n.tdiv 256)).tmod 256 = n / 256 % 256 := by
      rw [tdiv_pos (by omega), wrap_i64 (by omega) (by omega), tmod_pos (by omega)]
    have q3 : n.tmod 256 = n % 256 := tmod_pos (by omega)
    rw [if_neg h0]
    by_cases h1 : 1 ≤ n / 65536
    · by_cases h2 : n / 65536 ≤ 4095
      · have e : namedB n = decide (n / 256 % 256 ≤ 6) := by
          rw [Bool.eq_iff_iff, named_iff]; simp; omega
        rw [e]
        conv at hr =>
          rhs
          rw [hTe]
          simp only [neaptideref07_Parts.code, neaptideref07_Parts.rs, wk, List.getD_cons_succ, List.getD_cons_zero, if_true, if_false, List.getElem?_cons_succ, List.getElem?_cons_zero, Option.map_some, eq_self, reduceIte, Nat.reduceEqDiff, Int.reduceEq, Int.reduceLT, Int.reduceLE, decide_eq_false h0, aBin_rem _ _ _ d256, aBin_quo _ _ _ d256, aBin_quo _ _ _ d65536, q1, q2, q3, decide_eq_true h1, decide_eq_true h2]
        rw [hTe] at hr
        exact neaptideref07_Parts.runs hr (.inr rfl) rfl rfl rfl rfl
      · have e : namedB n = false := by
          cases h : namedB n with
          | false => rfl
          | true => have := named_iff.mp h; omega
        rw [e]
        conv at hr =>
          rhs
          rw [hTe]
          simp only [neaptideref07_Parts.code, neaptideref07_Parts.rs, wk, List.getD_cons_succ, List.getD_cons_zero, if_true, if_false, List.getElem?_cons_succ, List.getElem?_cons_zero, Option.map_some, eq_self, reduceIte, Nat.reduceEqDiff, Int.reduceEq, Int.reduceLT, Int.reduceLE, decide_eq_false h0, aBin_rem _ _ _ d256, aBin_quo _ _ _ d256, aBin_quo _ _ _ d65536, q1, q2, q3, decide_eq_true h1, decide_eq_false h2]
        rw [hTe] at hr
        exact neaptideref07_Parts.runs hr (.inr rfl) rfl rfl rfl rfl
    · have e : namedB n = false := by
        cases h : namedB n with
        | false => rfl
        | true => have := named_iff.mp h; omega
      rw [e]
      conv at hr =>
        rhs
        rw [hTe]
        simp only [neaptideref07_Parts.code, neaptideref07_Parts.rs, wk, List.getD_cons_succ, List.getD_cons_zero, if_true, if_false, List.getElem?_cons_succ, List.getElem?_cons_zero, Option.map_some, eq_self, reduceIte, Nat.reduceEqDiff, Int.reduceEq, Int.reduceLT, Int.reduceLE, decide_eq_false h0, aBin_rem _ _ _ d256, aBin_quo _ _ _ d256, aBin_quo _ _ _ d65536, q1, q2, q3, decide_eq_false h1]
      rw [hTe] at hr
      exact neaptideref07_Parts.runs hr (.inr rfl) rfl rfl rfl rfl
end Go.Proofs.Ytgggklfbhmlapaa
