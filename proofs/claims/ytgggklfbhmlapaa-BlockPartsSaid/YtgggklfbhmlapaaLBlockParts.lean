/-
The slot and the miner of any number: the law's run.
-/
import Derived.Test.YtgggklfbhmlapaaF3
import Derived.Test.YtgggklfbhmlapaaVB1
set_option linter.unusedVariables false
set_option linter.unusedSimpArgs false
set_option maxRecDepth 100000
namespace Go.Proofs.Ytgggklfbhmlapaa
open Go.Abs

theorem neaptidelaw07_blockAlive.v (S : AHeap) : vlim Try.prog O 11 [] S = some (.bool true, S) := vlim_run (n := 20) (by kernel_rfl)
namespace blockParts
def codes : List (Bool × Ty) := [(false, .int .i64)]
theorem coded : argsOf Try.prog 9 [3] = some codes := by kernel_rfl
theorem run (n : Int) (hn : n < 9223372036854775808) (S : AHeap) : vlim Try.prog O 3 [.int .i64 n] S = some (.bool true, S) := by
  obtain ⟨T, hTe⟩ : ∃ T, T = (.int .i64 n :: undef :: undef :: undef :: undef :: undef :: undef :: undef :: undef :: undef :: undef :: undef :: undef :: undef :: undef :: undef :: undef :: undef :: undef :: undef :: undef :: undef :: undef :: undef :: undef :: undef :: undef :: undef :: undef :: []) := ⟨_, rfl⟩
  have hr : vcodeV Try.prog O false neaptidelaw07_BlockParts.code T S = vcodeV Try.prog O false neaptidelaw07_BlockParts.code T S := rfl
  have c1 := fun S => neaptideref07_Parts.v n hn S
  unfold partsV at c1
  have c2 := fun S => block_Slot.v n S
  have c3 := fun S => block_Miner.v n S
  unfold slotOf at c2
  unfold minerOf at c3
  by_cases h0 : n < 0
  · rw [if_pos h0] at c1
    have e : ¬ namedB n = true := fun h => by have := named_iff.mp h; omega
    rw [if_neg e] at c2 c3
    conv at hr =>
      rhs
      rw [hTe]
      simp only [neaptidelaw07_BlockParts.code, neaptidelaw07_BlockParts.rs, wk, List.getD_cons_succ, List.getD_cons_zero, if_true, if_false, List.getElem?_cons_succ, List.getElem?_cons_zero, Option.map_some, eq_self, reduceIte, Nat.reduceEqDiff, Int.reduceEq, Int.reduceLT, Int.reduceLE, neaptidelaw07_blockAlive.v, c1, c2, c3]
    rw [hTe] at hr
    exact neaptidelaw07_BlockParts.runs hr (.inr rfl)
  · rw [if_neg h0] at c1
    cases hb : namedB n
    · rw [hb] at c1 c2 c3
      conv at hr =>
        rhs
        rw [hTe]
        simp only [neaptidelaw07_BlockParts.code, neaptidelaw07_BlockParts.rs, wk, List.getD_cons_succ, List.getD_cons_zero, if_true, if_false, List.getElem?_cons_succ, List.getElem?_cons_zero, Option.map_some, eq_self, reduceIte, Nat.reduceEqDiff, Int.reduceEq, Int.reduceLT, Int.reduceLE, neaptidelaw07_blockAlive.v, c1, c2, c3]
      rw [hTe] at hr
      exact neaptidelaw07_BlockParts.runs hr (.inr rfl)
    · rw [hb] at c1 c2 c3
      have q : n % 65536 / 256 = n / 256 % 256 := by omega
      rw [if_pos rfl] at c2 c3
      rw [q] at c3
      conv at hr =>
        rhs
        rw [hTe]
        simp only [neaptidelaw07_BlockParts.code, neaptidelaw07_BlockParts.rs, wk, List.getD_cons_succ, List.getD_cons_zero, if_true, if_false, List.getElem?_cons_succ, List.getElem?_cons_zero, Option.map_some, eq_self, reduceIte, Nat.reduceEqDiff, Int.reduceEq, Int.reduceLT, Int.reduceLE, neaptidelaw07_blockAlive.v, c1, c2, c3]
      rw [hTe] at hr
      exact neaptidelaw07_BlockParts.runs hr (.inr rfl)
theorem law (x : Args codes) (h : Args.Good codes x) : ∃ k, (acall Try.prog k 3 (Args.place codes x AHeap.empty).1 (Args.place codes x AHeap.empty).2).map (·.1) = some (.bool true) := by
  obtain ⟨a, u⟩ := x
  obtain ⟨h1, _⟩ := h
  refine law_of_vlim ora_ok (S' := AHeap.empty) ?_
  exact run a (in_int h1).2 _
end blockParts
end Go.Proofs.Ytgggklfbhmlapaa
